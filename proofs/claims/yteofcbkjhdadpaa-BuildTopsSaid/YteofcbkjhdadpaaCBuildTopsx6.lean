import Derived.Test.YteofcbkjhdadpaaCBuildTopsx0
import Derived.Test.YteofcbkjhdadpaaCBuildTopsx1
import Derived.Test.YteofcbkjhdadpaaCBuildTopsx2
import Derived.Test.YteofcbkjhdadpaaCBuildTopsx5
import Derived.Test.YteofcbkjhdadpaaCBuildTopsq
set_option maxHeartbeats 8000000
set_option maxRecDepth 100000
set_option linter.unusedSimpArgs false
set_option linter.unusedVariables false
namespace Go.Proofs.Yteofcbkjhdadpaa.Pr
open Go.RowKit Go.Proofs.aI.bE Go.Proofs.aI.fB Go.Proofs.aI.iS
attribute [local go_sem] kQ kO nK nJ jD jC kP kN   -- for this text's walks alone
mutual
def aW.j0 : Nat→Bool→Int→Int→List Int→Option (Int×Int×List Int×Int)
 | 0,_,_,_,_ => none
 | k + 1,x22,lU,AT,AS => if x22 = true then (some (0,0,([] : List Int),3)) else ((gS.f lU AT AS).bind fun aMI => (if aMI.1 < lU then (some (0,0,([] : List Int),6)) else ((eK.f lU lU).bind fun IL => (aW.l0 k 0 lU AT AS IL.1 IL.2.1 IL.2.2))))
def aW.l0 : Nat→Int→Int→Int→List Int→Int→Int→List Int→Option (Int×Int×List Int×Int)
 | 0,_,_,_,_,_,_,_ => none
 | k + 1,x7,lU,AT,AS,NX,NW,JB => if x7 < lU then (if 0≤lU then (if (lU : Int).toNat≤281474976710656 then ((some (List.replicate (lU : Int).toNat 0 : List Int)).bind fun y250 => (if 0≤x7 then (if x7 < (y250.length : Int) then ((aZ.f k lU AT AS (y250.set (x7 : Int).toNat 1)).bind fun YH => (aW.l1 k x7 YH.1 0 lU AT AS NX NW JB)) else (none)) else (none))) else (none)) else (none)) else (some (NX,NW,JB,0))
def aW.l1 : Nat→Int→List Int→Int→Int→Int→List Int→Int→Int→List Int→Option (Int×Int×List Int×Int)
 | 0,_,_,_,_,_,_,_,_,_ => none
 | k + 1,x7,x9,x12,lU,AT,AS,NX,NW,JB => if x12 < lU then (if 0≤x12 then (if x12 < (x9.length : Int) then (if 0≤(wrap64 ((wrap64 (x12 * lU)) + x7)) then (if (wrap64 ((wrap64 (x12 * lU)) + x7)) < (JB.length : Int) then (aW.l1 k x7 x9 (wrap64 (x12 + 1)) lU AT AS NX NW (JB.set ((wrap64 ((wrap64 (x12 * lU)) + x7)) : Int).toNat (rd x9 x12))) else (none)) else (none)) else (none)) else (none)) else (aW.l0 k (wrap64 (x7 + 1)) lU AT AS NX NW JB)
end
def aW.f (k : Nat) (aQ : Int) (aK : Int) (aV : List Int) : Option (Int×Int×List Int×Int):=(bF.f aQ aK aV).bind fun t241 => (if t241 = true then (aW.j0 k (aQ != aK) aQ aK aV) else (aW.j0 k true aQ aK aV))
def aW.T16 : Bool×List (List Nat×List Nat):=(true,[([],[]),([0],[0]),([],[]),([],[]),([3],[3]),([2,4],[2,4]),([],[]),([5,6],[5,6]),([],[]),([],[]),([8,9],[8,9]),([10],[10]),([1,7,0,1,2,3,4,5,6,7,8,9,10,11],[1,7]),([12,11,0,1,2,3,4,5,6,7,8,9,10,11],[11,12])])
def aW.B16 : List Nat:=[0,1,0,0,8,28,0,124,0,0,768,1792,4095,8191]
theorem aW.aKC : rV .any (opsOf Try.f51 16) = aW.T16:=by kernel_rfl
theorem aW.aFX : mQ aW.T16.2 aW.B16 = true:=by kernel_rfl
theorem aW.calls (k : Nat) (aQ : Int) (aK : Int) (cG : Option Addr) (cF : Nat) (aV : List Int) (r1 : Int) (r2 : Int) (r3 : List Int) (r4 : Int) (w : World) (hr0_2 : Kd.C (Kd.int .u8) w cG aV.length aV) (hc0_2 : aV.length≤cF) (h : aW.f k aQ aK aV = some (r1,r2,r3,r4)) :
  Calls Try.prog 51 #[.agg #[.int .i64 aQ,.int .i64 aK,.slice cG aV.length cF]] w fun e w' => ∃ vQ : Value,e = .returned (.tuple #[.agg #[.int .i64 r1,.int .i64 r2,vQ],.int .i64 r4])∧Kd.R (Kd.int .u8) 5 w' w.heap.size (fun _ => True) vQ r3∧Below w.heap.size w w':=by
 have CQ:=Try.underlying24;have iH:=aA.mk hr0_2;have iN:=aA.mk hc0_2;clear hr0_2 hc0_2;have HB:=aA.mk (Below.refl w.heap.size w);have H : ((bF.f aQ aK aV).bind fun t241 => (if t241 = true then (aW.j0 k (aQ != aK) aQ aK aV) else (aW.j0 k true aQ aK aV))) = some (r1,r2,r3,r4):=h;clear h;have HC2:=aA.mk H;clear H;go_enter Try.func51,Try.ntmps51;go_upto_region 1 with (first | ((with_reducible refine bU (N:=1) rfl ?_);refine pG (N:=1) (cs:=#[.int .i64 aQ,.int .i64 aK,.slice cG aV.length cF]) (t:=24) ?_;intro TP hg w3 hbox hb;have dA:=aA.mk (hbox);have bHT:=aA.mk (gE hg (dN HB) : w.heap.size≤TP);have qA:=aA.mk (gE hg (dN HB) : w.heap.size≤TP);replace HB:=aA.mk (aM (dN HB) hb);clear hb hbox hg) | ((with_reducible refine bU (N:=2) rfl ?_);refine pG (N:=2) (cs:=#[.int .i64 0,.int .i64 0,.slice none 0 0]) (t:=24) ?_;intro IA hg w4 hbox hb;have fW:=aA.mk (hbox);have bHS:=aA.mk (gE hg (dR HB qA) : w.heap.size≤IA);have sZ:=aA.mk (gE hg (dR HB qA) : w.heap.size≤IA);replace HB:=aA.mk (aM (dR HB qA) hb);have sU:=aA.mk (lQ hg (bT dA));have sT:=aA.mk (lR hg (bT dA));replace dA:=aA.mk (aH (bT dA) hb);clear hb hbox hg))
 (try simp only [Act.put,cV,cT,cW])
 go_cut [22] (fun v22 wc => ∃ (kq : Nat) (oZ : Bool),v22 = .bool oZ∧aA (aW.j0 kq oZ aQ aK aV = some (r1,r2,r3,r4))∧aA (kq≤k)∧aA (wc.heap[TP]? = some (.cells #[.int .i64 aQ,.int .i64 aK,(.slice cG aV.length cF)] 24 (0,0)))∧aA (wc.heap[IA]? = some (.cells #[.int .i64 0,.int .i64 0,(.slice none 0 0)] 24 (0,0)))∧aA (Below w.heap.size w wc))
 case first =>
  have H:=HC2.out;clear HC2;replace H:=Option.bind_eq_some_iff.mp H;obtain ⟨t241,A50,H⟩:=H;replace H : (if t241 = true then (aW.j0 k (aQ != aK) aQ aK aV) else (aW.j0 k true aQ aK aV)) = some (r1,r2,r3,r4):=H;have A5:=aA.mk A50;clear A50
  by_cases c6 : t241 = true
  ·subst c6
   have H1 : (aW.j0 k (aQ != aK) aQ aK aV) = some (r1,r2,r3,r4):=by rw [if_pos rfl] at H;exact H
   clear H;have H:=H1;clear H1;have H':=aA.mk H;clear H;have aSY:=sU.out;have aSX:=sT.out;have wQ:=bR dA 0 (.int .i64 aQ) rfl;have wP:=bR dA 1 (.int .i64 aK) rfl;have wO:=bR dA 2 (.slice cG aV.length cF) rfl;have wN:=aD dA.out 0;have wM:=aD dA.out 1;have wL:=aD dA.out 2;go_wp2_with (first | ((with_reducible refine bN (f:=17) rfl ?_);refine eB (some 14) rfl rfl Try.func17 (by kernel_rfl) rfl #[.agg #[.int .i64 aQ,.int .i64 aK,.slice cG aV.length cF]] rfl pX ?_;(with_reducible refine (bF.calls aQ aK _ _ aV true _ ?side1 ?side2 A5.out).mono ?_);(case side1 => exact sW (Kd.eN iH.out HB.out));(case side2 => exact iN.out);rintro e w9 ⟨rfl,hb⟩;refine ⟨_,rfl,?_⟩;replace dA:=aA.mk (aH (bT dA) hb);replace fW:=aA.mk (aH (bT fW) hb);replace HB:=aA.mk (aM (eA HB qA sZ) hb);(try clear hb);(try clear hb2);(try clear hk);(try clear hi);have oF:=bR dA 0 (.int .i64 aQ) rfl;have oE:=bR dA 1 (.int .i64 aK) rfl;have oD:=bR dA 2 (.slice cG aV.length cF) rfl;have oC:=aD dA.out 0;have oB:=aD dA.out 1;have oA:=aD dA.out 2))
   go_meet
   case rel => exact ⟨_,((aQ != aK)),rT,H',⟨q_o⟩,⟨hJ dA.out⟩,⟨hJ fW.out⟩,⟨eA HB qA sZ⟩⟩
  ·replace c6:=Bool.eq_false_iff.mpr c6
   subst c6;have H1 : (aW.j0 k true aQ aK aV) = some (r1,r2,r3,r4):=by rw [if_neg (show ¬ (false = true) by decide)] at H;exact H
   clear H;have H:=H1;clear H1;have H':=aA.mk H;clear H;have aDS:=sU.out;have aDQ:=sT.out;have CA:=bR dA 0 (.int .i64 aQ) rfl;have BZ:=bR dA 1 (.int .i64 aK) rfl;have BX:=bR dA 2 (.slice cG aV.length cF) rfl;have BK:=aD dA.out 0;have BJ:=aD dA.out 1;have BI:=aD dA.out 2;go_wp2_with (first | ((with_reducible refine bN (f:=17) rfl ?_);refine eB (some 14) rfl rfl Try.func17 (by kernel_rfl) rfl #[.agg #[.int .i64 aQ,.int .i64 aK,.slice cG aV.length cF]] rfl pX ?_;(with_reducible refine (bF.calls aQ aK _ _ aV false _ ?side1 ?side2 A5.out).mono ?_);(case side1 => exact sW (Kd.eN iH.out HB.out));(case side2 => exact iN.out);rintro e w13 ⟨rfl,hb⟩;refine ⟨_,rfl,?_⟩;replace dA:=aA.mk (aH (bT dA) hb);replace fW:=aA.mk (aH (bT fW) hb);replace HB:=aA.mk (aM (eA HB qA sZ) hb);(try clear hb);(try clear hb2);(try clear hk);(try clear hi)))
   go_meet
   case rel => exact ⟨_,(true),rT,H',⟨q_o⟩,⟨hJ dA.out⟩,⟨hJ fW.out⟩,⟨eA HB qA sZ⟩⟩
 case rest =>
  clear HC2;(try clear c1);(try clear p2);(try clear c5);(try clear c6);(try clear c7);(try clear CV);(try clear oF);(try clear oE);(try clear oD);(try clear CA);(try clear BZ);(try clear BX);(try clear wQ);(try clear wP);(try clear wO);(try clear oC);(try clear oB);(try clear oA);(try clear BK);(try clear BJ);(try clear BI);(try clear wN);(try clear wM);(try clear wL);obtain ⟨kq,oZ,rfl,HA,HJ1,dA,fW,HB⟩:=hcut
  cases kq with
  | zero => exact absurd HA.out (by simp [aW.j0])
  | succ kj1 =>
   have H:=HA.out;clear HA;simp only [aW.j0] at H
   by_cases ND : oZ = true
   ·subst ND
    have H1 : (some (0,0,([] : List Int),3)) = some (r1,r2,r3,r4):=by rw [if_pos rfl] at H;exact H
    clear H;have H:=H1;clear H1;simp only [Option.some.injEq,Prod.mk.injEq] at H;obtain ⟨rfl,rfl,rfl,rfl⟩:=H;have aDR:=sT.out;have aDP:=sU.out;have tW:=bR fW 0 (.int .i64 0) rfl;have tV:=bR fW 1 (.int .i64 0) rfl;have tU:=bR fW 2 (.slice none 0 0) rfl;have tT:=aD fW.out 0;have tS:=aD fW.out 1;have tR:=aD fW.out 2
    go_wp2
    refine bodyPost_ret (dX rfl _ _ IA 24 #[.int .i64 0,.int .i64 0,.slice none 0 0] (0,0) _ rfl (by (with_reducible repeat first | apply aE | apply aG | apply aC);refine bC (cs:=#[.int .i64 0,.int .i64 0,.slice none 0 0]) ?_ 2 _ rfl;(with_reducible repeat first | apply aE | apply aG | apply aC);refine bC (cs:=#[.int .i64 0,.int .i64 0,.slice none 0 0]) ?_ 1 _ rfl;(with_reducible repeat first | apply aE | apply aG | apply aC);refine bC (cs:=#[.int .i64 0,.int .i64 0,.slice none 0 0]) ?_ 0 _ rfl;(with_reducible repeat first | apply aE | apply aG | apply aC);exact fW.out) Try.underlying24 rfl (by kernel_rfl)) rfl ?_;exact ⟨_,yE,RP,eA HB qA sZ⟩
   ·replace ND:=Bool.eq_false_iff.mpr ND
    subst ND;have H1 : ((gS.f aQ aK aV).bind fun aMI => (if aMI.1 < aQ then (some (0,0,([] : List Int),6)) else ((eK.f aQ aQ).bind fun IL => (aW.l0 kj1 0 aQ aK aV IL.1 IL.2.1 IL.2.2)))) = some (r1,r2,r3,r4):=by rw [if_neg (show ¬ (false = true) by decide)] at H;exact H
    clear H;have H:=H1;clear H1;replace H:=Option.bind_eq_some_iff.mp H;obtain ⟨⟨t242,t243⟩,aEM,H⟩:=H;replace H : (if t242 < aQ then (some (0,0,([] : List Int),6)) else ((eK.f aQ aQ).bind fun IL => (aW.l0 kj1 0 aQ aK aV IL.1 IL.2.1 IL.2.2))) = some (r1,r2,r3,r4):=H;have A17:=aA.mk aEM;clear aEM
    by_cases ZG : t242 < aQ
    ·rw [if_pos ZG] at H
     have aAU : decide (t242 < aQ) = true:=decide_eq_true ZG;clear ZG;simp only [Option.some.injEq,Prod.mk.injEq] at H;obtain ⟨rfl,rfl,rfl,rfl⟩:=H;have aVk:=sU.out;have aUP:=sT.out;have QS:=bR dA 0 (.int .i64 aQ) rfl;have QR:=bR dA 1 (.int .i64 aK) rfl;have QQ:=bR dA 2 (.slice cG aV.length cF) rfl;have QA:=aD dA.out 0;have PZ:=aD dA.out 1;have PY:=aD dA.out 2;go_wp2_with (first | ((with_reducible refine bN (f:=26) rfl ?_);refine eB (some 26) rfl rfl Try.func26 (by kernel_rfl) rfl #[.agg #[.int .i64 aQ,.int .i64 aK,.slice cG aV.length cF]] rfl pX ?_;(with_reducible refine (gS.calls aQ aK _ _ aV t242 t243 _ ?side1 ?side2 A17.out).mono ?_);(case side1 => exact sW (Kd.eN iH.out HB.out));(case side2 => exact iN.out);rintro e w21 ⟨rfl,hb⟩;refine ⟨_,rfl,?_⟩;replace dA:=aA.mk (aH (bT dA) hb);replace fW:=aA.mk (aH (bT fW) hb);replace HB:=aA.mk (aM (eA HB qA sZ) hb);(try clear hb);(try clear hb2);(try clear hk);(try clear hi);have BW:=bR dA 0 (.int .i64 aQ) rfl;have BV:=bR dA 1 (.int .i64 aK) rfl;have BU:=bR dA 2 (.slice cG aV.length cF) rfl;have BH:=aD dA.out 0;have BG:=aD dA.out 1;have BF:=aD dA.out 2;have FI:=bR fW 0 (.int .i64 0) rfl;have FH:=bR fW 1 (.int .i64 0) rfl;have FG:=bR fW 2 (.slice none 0 0) rfl;have FC:=aD fW.out 0;have FB:=aD fW.out 1;have FA:=aD fW.out 2))
     refine bodyPost_ret (dX rfl _ _ IA 24 #[.int .i64 0,.int .i64 0,.slice none 0 0] (0,0) _ rfl (by (with_reducible repeat first | apply aE | apply aG | apply aC);refine bC (cs:=#[.int .i64 0,.int .i64 0,.slice none 0 0]) ?_ 2 _ rfl;(with_reducible repeat first | apply aE | apply aG | apply aC);refine bC (cs:=#[.int .i64 0,.int .i64 0,.slice none 0 0]) ?_ 1 _ rfl;(with_reducible repeat first | apply aE | apply aG | apply aC);refine bC (cs:=#[.int .i64 0,.int .i64 0,.slice none 0 0]) ?_ 0 _ rfl;(with_reducible repeat first | apply aE | apply aG | apply aC);exact fW.out) Try.underlying24 rfl (by kernel_rfl)) rfl ?_;exact ⟨_,yE,RP,eA HB qA sZ⟩
    ·rw [if_neg ZG] at H
     have aAU : decide (t242 < aQ) = false:=decide_eq_false ZG;clear ZG;replace H:=Option.bind_eq_some_iff.mp H;obtain ⟨⟨t244,t245,t246⟩,aZC,H⟩:=H;replace H : (aW.l0 kj1 0 aQ aK aV t244 t245 t246) = some (r1,r2,r3,r4):=H;have A24:=aA.mk aZC;clear aZC;have H':=aA.mk H;clear H;have aVh:=sU.out;have aUM:=sT.out;have aHs:=bR dA 0 (.int .i64 aQ) rfl;have aHr:=bR dA 1 (.int .i64 aK) rfl;have aHq:=bR dA 2 (.slice cG aV.length cF) rfl;have aHj:=aD dA.out 0;have aHi:=aD dA.out 1;have aHh:=aD dA.out 2;go_wp2_with (first | ((with_reducible refine bN (f:=26) rfl ?_);refine eB (some 26) rfl rfl Try.func26 (by kernel_rfl) rfl #[.agg #[.int .i64 aQ,.int .i64 aK,.slice cG aV.length cF]] rfl pX ?_;(with_reducible refine (gS.calls aQ aK _ _ aV t242 t243 _ ?side1 ?side2 A17.out).mono ?_);(case side1 => exact sW (Kd.eN iH.out HB.out));(case side2 => exact iN.out);rintro e w27 ⟨rfl,hb⟩;refine ⟨_,rfl,?_⟩;replace dA:=aA.mk (aH (bT dA) hb);replace fW:=aA.mk (aH (bT fW) hb);replace HB:=aA.mk (aM (eA HB qA sZ) hb);(try clear hb);(try clear hb2);(try clear hk);(try clear hi);have aHp:=bR dA 0 (.int .i64 aQ) rfl;have aHo:=bR dA 1 (.int .i64 aK) rfl;have aHn:=bR dA 2 (.slice cG aV.length cF) rfl;have aHg:=aD dA.out 0;have aHf:=aD dA.out 1;have aHe:=aD dA.out 2) | ((with_reducible refine bN (f:=45) rfl ?_);refine eB (some 38) rfl rfl Try.func45 (by kernel_rfl) rfl #[.int .i64 aQ,.int .i64 aQ] rfl pX ?_;(with_reducible refine (eK.calls aQ aQ t244 t245 t246 _ A24.out).mono ?_);rintro e w29 ⟨bIF,rfl,ho0,hb⟩;refine ⟨_,rfl,?_⟩;have aHW:=aA.mk (Kd.dY ho0 (cD (eA HB qA sZ)));replace dA:=aA.mk (aH (bT dA) hb);replace fW:=aA.mk (aH (bT fW) hb);replace HB:=aA.mk (aM (eA HB qA sZ) hb);(try clear hb);(try clear hb2);(try clear hk);(try clear hi);(try clear ho0)) | ((with_reducible refine bU (N:=6) rfl ?_);refine pG (N:=6) (cs:=#[.int .i64 0,.int .i64 0,.slice none 0 0]) (t:=24) ?_;intro MA hg w30 hbox hb;replace aHW:=aA.mk (Kd.aY (cN aHW.out) hb);have lS:=aA.mk (hbox);have bHR:=aA.mk (gE hg (eA HB qA sZ) : w.heap.size≤MA);have RL:=aA.mk (gE hg (eA HB qA sZ) : w.heap.size≤MA);replace HB:=aA.mk (aM (eA HB qA sZ) hb);have uP:=aA.mk (lQ hg (bT dA));have EA:=aA.mk (lR hg (bT dA));replace dA:=aA.mk (aH (bT dA) hb);have EB:=aA.mk (lQ hg (bT fW));have aBa:=aA.mk (lR hg (bT fW));replace fW:=aA.mk (aH (bT fW) hb);clear hb hbox hg;have bGU:=EA.out;have bGj:=uP.out;have aRh:=aBa.out;have aQS:=EB.out;have aCI:=bR lS 0 (.int .i64 0) rfl;have aCH:=bR lS 1 (.int .i64 0) rfl;have aCG:=bR lS 2 (.slice none 0 0) rfl;have aCn:=aD lS.out 0;have aCm:=aD lS.out 1;have aCl:=aD lS.out 2;obtain ⟨aEK,aEf,eo34⟩:=Kd.cZ aHW.out;subst eo34))
     go_loopg [7] kj1 (fun kq v7 w' => ∃ (dD : Int) (sK : List Int) (sN : Value),v7 = .int .i64 dD∧aA (aW.l0 kq dD aQ aK aV t244 t245 sK = some (r1,r2,r3,r4))∧aA (kq≤kj1)∧aA (Kd.R (Kd.int .u8) 5 w' w.heap.size (fun _ => True) sN sK)∧aA (w'.heap[TP]? = some (.cells #[.int .i64 aQ,.int .i64 aK,(.slice cG aV.length cF)] 24 (0,0)))∧aA (w'.heap[IA]? = some (.cells #[.int .i64 0,.int .i64 0,(.slice none 0 0)] 24 (0,0)))∧aA (w'.heap[MA]? = some (.cells #[.int .i64 t244,.int .i64 t245,sN] 24 (0,0)))∧aA (Below w.heap.size w w'))
     case atStart => exact ⟨(0),(t246),(.slice aEK t246.length aEf),rT,H',⟨Nat.le_refl _⟩,⟨by (with_reducible repeat first | apply Kd.bX | apply Kd.bW | apply Kd.bQ);exact Kd.cE (Kd.cU (p:=⟨MA,2,none⟩) (Kd.cU (p:=⟨MA,1,none⟩) (Kd.cU (p:=⟨MA,0,none⟩) (Kd.eM aHW.out lS.out (by decide)) (fun _ hk => hk.2) (.int .i64 t244)) (fun _ hk => hk.2) (.int .i64 t245)) (fun _ hk => hk.2) (.slice aEK t246.length aEf)) (fun _ hk => trivial)⟩,⟨by (with_reducible repeat first | apply aE | apply aG | apply aC);refine aN ?_ uP.out _;(with_reducible repeat first | apply aE | apply aG | apply aC);refine aN ?_ uP.out _;(with_reducible repeat first | apply aE | apply aG | apply aC);refine aN ?_ uP.out _;(with_reducible repeat first | apply aE | apply aG | apply aC);exact dA.out⟩,⟨by (with_reducible repeat first | apply aE | apply aG | apply aC);refine aN ?_ EB.out _;(with_reducible repeat first | apply aE | apply aG | apply aC);refine aN ?_ EB.out _;(with_reducible repeat first | apply aE | apply aG | apply aC);refine aN ?_ EB.out _;(with_reducible repeat first | apply aE | apply aG | apply aC);exact fW.out⟩,⟨by (with_reducible repeat first | apply aE | apply aG | apply aC);refine bC (cs:=#[.int .i64 t244,.int .i64 t245,.slice none 0 0]) ?_ 2 _ rfl;(with_reducible repeat first | apply aE | apply aG | apply aC);refine bC (cs:=#[.int .i64 t244,.int .i64 0,.slice none 0 0]) ?_ 1 _ rfl;(with_reducible repeat first | apply aE | apply aG | apply aC);refine bC (cs:=#[.int .i64 0,.int .i64 0,.slice none 0 0]) ?_ 0 _ rfl;(with_reducible repeat first | apply aE | apply aG | apply aC);exact lS.out⟩,⟨jU HB qA sZ RL⟩⟩
     case round =>
      clear H';(try clear c1);(try clear c2);(try clear p2);(try clear c3);(try clear c4);(try clear c5);(try clear c6);(try clear c7);(try clear CV);(try clear ND);(try clear c15);(try clear UK);(try clear ZG);(try clear aAU);(try clear c19);(try clear c25);(try clear c26);(try clear ZE);(try clear c32);(try clear oF);(try clear oE);(try clear oD);(try clear CA);(try clear BZ);(try clear BX);(try clear tW);(try clear tV);(try clear tU);(try clear QS);(try clear QR);(try clear QQ);(try clear BW);(try clear BV);(try clear BU);(try clear FI);(try clear FH);(try clear FG);(try clear aHs);(try clear aHr);(try clear aHq);(try clear aHp);(try clear aHo);(try clear aHn);(try clear aCI);(try clear aCH);(try clear aCG);(try clear wQ);(try clear wP);(try clear wO);(try clear oC);(try clear oB);(try clear oA);(try clear BK);(try clear BJ);(try clear BI);(try clear tT);(try clear tS);(try clear tR);(try clear QA);(try clear PZ);(try clear PY);(try clear BH);(try clear BG);(try clear BF);(try clear FC);(try clear FB);(try clear FA);(try clear aHj);(try clear aHi);(try clear aHh);(try clear aHg);(try clear aHf);(try clear aHe);(try clear aCn);(try clear aCm);(try clear aCl);(try clear wN);(try clear wM);(try clear wL)
      (try clear p2);obtain ⟨dD,sK,sN,rfl,HA,yL,gL,dA,fW,lS,HB⟩:=hrel
      cases gk with
      | zero => exact absurd HA.out (by simp [aW.l0])
      | succ k2 =>
       have H:=HA.out;clear HA;simp only [aW.l0] at H
       by_cases ZD : dD < aQ
       ·rw [if_pos ZD] at H
        have aAS : decide (dD < aQ) = true:=decide_eq_true ZD;clear ZD
        by_cases c36 : 0≤aQ
        ·rw [if_pos c36] at H
         have aYa:=eq_true c36;have aXZ : decide (0≤aQ) = true:=decide_eq_true c36;clear c36
         by_cases c37 : (aQ : Int).toNat≤281474976710656
         ·rw [if_pos c37] at H
          have aXY:=eq_true c37;have aXX : decide ((aQ : Int).toNat≤281474976710656) = true:=decide_eq_true c37;clear c37;obtain ⟨y250,hy250⟩ : ∃ y_ : List Int,y_ = (List.replicate (aQ : Int).toNat 0):=⟨_,rfl⟩
          replace H : (if 0≤dD then (if dD < (y250.length : Int) then ((aZ.f k2 aQ aK aV (y250.set (dD : Int).toNat 1)).bind fun YH => (aW.l1 k2 dD YH.1 0 aQ aK aV t244 t245 sK)) else (none)) else (none)) = some (r1,r2,r3,r4):=by first | (rw [hy250];with_reducible exact H) | (have H2_:=(Option.bind_some _ _).symm.trans H;rw [hy250];with_reducible exact H2_) | (have H2_:=(Option.bind_some _ _).symm.trans H;with_reducible exact H2_) | with_reducible exact H | (rw [hy250];exact H) | exact H
          have Ny250:=aA.mk hy250;clear hy250
          by_cases c38 : 0≤dD
          ·rw [if_pos c38] at H
           have aMp : decide (0≤dD) = true:=decide_eq_true c38;clear c38
           by_cases c39 : dD < (y250.length : Int)
           ·rw [if_pos c39] at H
            have aMo : decide (dD < (y250.length : Int)) = true:=decide_eq_true c39;clear c39;obtain ⟨y253,hy253⟩ : ∃ y_ : List Int,y_ = (y250.set (dD : Int).toNat 1):=⟨_,rfl⟩
            replace H : ((aZ.f k2 aQ aK aV y253).bind fun YH => (aW.l1 k2 dD YH.1 0 aQ aK aV t244 t245 sK)) = some (r1,r2,r3,r4):=by first | (rw [hy253];with_reducible exact H) | (have H2_:=(Option.bind_some _ _).symm.trans H;rw [hy253];with_reducible exact H2_) | (have H2_:=(Option.bind_some _ _).symm.trans H;with_reducible exact H2_) | with_reducible exact H | (rw [hy253];exact H) | exact H
            have Ny253:=aA.mk hy253;clear hy253;replace H:=Option.bind_eq_some_iff.mp H;obtain ⟨⟨aSw,bCL,bCK⟩,aZv,H⟩:=H;replace H : (aW.l1 k2 dD aSw 0 aQ aK aV t244 t245 sK) = some (r1,r2,r3,r4):=H;have A41:=aA.mk aZv;clear aZv;have H':=aA.mk H;clear H;have aRd:=sU.out;have aQO:=sT.out;have aLL:=uP.out;have aLJ:=EA.out;have VU:=bR dA 0 (.int .i64 aQ) rfl;have VT:=bR dA 1 (.int .i64 aK) rfl;have VS:=bR dA 2 (.slice cG aV.length cF) rfl;have VI:=aD dA.out 0;have VH:=aD dA.out 1;have VG:=aD dA.out 2;go_wp2_with (first | ((with_reducible refine bU (N:=47) rfl ?_);refine Kd.YQ (Kd.int .u8) _ 5 rfl (N:=47) rfl 22 _ _ rfl aQ rfl rfl Try.underlying22 (.int .u8 0) 1 FV rfl (by decide) (by omega) 0 (ok:=fun _ => True) (okp:=fun _ => True) rfl (fun _ hk => hk) trivial (of_decide_eq_true pH) (Nat.le_trans (Nat.mul_le_mul_right _ (of_decide_eq_true pH : aQ.toNat≤281474976710656)) (by omega)) (Below.refl _ _) (Nat.le_refl _) ?_;intro bIE w45 ho46 hb hg_ hnew_;clear hg_ hnew_;(first | rw [← Ny250.out] at ho46 | (simp only [Int.reduceToNat] at ho46;rw [← Ny250.out] at ho46));have wC:=aA.mk (Kd.dY (Kd.dF ho46 (Kd.gH (cN gL.out))) (cD (jU HB qA sZ RL)));replace gL:=aA.mk (Kd.cI (cN gL.out) (Kd.dG ho46) hb);replace dA:=aA.mk (aH (bT dA) hb);replace fW:=aA.mk (aH (bT fW) hb);replace lS:=aA.mk (aH (bT lS) hb);replace HB:=aA.mk (aM (jU HB qA sZ RL) hb);clear hb ho46;have p40 : 0≤(dD : Int):=of_decide_eq_true pH;have q40 : (dD : Int) < ((y250.length : Int) : Int):=of_decide_eq_true pH;obtain ⟨go40,aJp,eo40,aXs,gl40,cl40,HG40⟩:=Kd.CT wC.out (by omega);(first | cases eo40 | (injection eo40 with ea_ en_ ec_;(first | subst ea_ | (injection ea_ with ea_;subst ea_));subst ec_;clear en_));have GB40:=aA.mk aXs;have GG40:=aA.mk HG40;clear aXs gl40 HG40;obtain ⟨hx40_0,hf40_0⟩:=Kd.rQ 0 wC.out (dD : Int) p40 q40;replace p40:=eq_true p40;replace q40:=eq_true q40;have n_:=aA.mk (Kd.cE (ok':=(fun k_ => some k_≠(sN : Value).ownBlock)) wC.out (fun k_ hk => hk.2));clear wC;have wC:=n_;clear n_;obtain ⟨hy47_,hz47_⟩:=Kd.rQ 0 wC.out (dD : Int) (of_decide_eq_true pH) (of_decide_eq_true pH);have HP47:=Kd.YO wC.out (dD : Int) 1) | ((with_reducible refine AB (t:=5) (p:=50) rfl ?_);refine xN (t:=5) (p:=50) (v:=?vo_w48) (w1:=(w45.setCell ⟨go40,(dD : Int).toNat,none⟩ (.int .u8 1))) ?hg ?ho ?hn ?hr ?_;(case ho => rfl);(case hg => rfl);(case hn => rfl);(case hr => first | (go_simp;done) | (go_simp;rfl));intro w48 hw;have hg : w45.grownBy w48 (some go40):=(by rw [hw];exact HP47.2);have hp_ : Kd.R (Kd.int .u8) 5 w48 w.heap.size (fun k_ => some k_≠(sN : Value).ownBlock) (.slice (some ⟨go40,0,none⟩) y250.length aJp) y253:=(by rw [hw,Ny253.out];exact HP47.1);clear HP47;replace gL:=aA.mk (Kd.FO (v:=(.slice (some ⟨go40,0,none⟩) y250.length aJp)) (v1:=(.slice (some ⟨go40,0,none⟩) y250.length aJp)) (ok:=(fun _ => True)) (cN gL.out) hg (.inl rfl));replace dA:=aA.mk (fL (bT dA) hg (Kd.oY wC.out dA.out (by decide)));replace fW:=aA.mk (fL (bT fW) hg (Kd.oY wC.out fW.out (by decide)));replace lS:=aA.mk (fL (bT lS) hg (Kd.oY wC.out lS.out (by decide)));replace wC:=aA.mk (hp_);replace HB:=aA.mk ((by rw [hw];exact cM (HB.out) GB40.out : Below w.heap.size w w48));clear hg hw hp_;have VR:=bR dA 0 (.int .i64 aQ) rfl;have VQ:=bR dA 1 (.int .i64 aK) rfl;have VP:=bR dA 2 (.slice cG aV.length cF) rfl;have VF:=aD dA.out 0;have VE:=aD dA.out 1;have VD:=aD dA.out 2) | ((with_reducible refine bN (f:=62) rfl ?_);refine eB (some 54) rfl rfl Try.func62 (by kernel_rfl) rfl #[.agg #[.int .i64 aQ,.int .i64 aK,.slice cG aV.length cF],.slice (some ⟨go40,0,none⟩) y253.length aJp] rfl (by (try simp only [List.map_toArray,List.map_cons,List.map_nil]);first | done | (rw [show y253.length = y250.length from (Kd.bM wC.out).1.symm] <;> rfl) | rfl | (simp only [List.length_drop,List.length_take];rfl)) ?_;(with_reducible refine (aZ.calls k2 aQ aK _ _ aV _ _ y253 aSw bCL bCK _ ?side1 ?side2 ?side3 ?side4 A41.out).mono ?_);(case side1 => exact sW (Kd.eN iH.out HB.out));(case side2 => exact iN.out);(case side3 => exact sW ((Kd.bM wC.out).2.2));(case side4 => rw [show y253.length = y250.length from (Kd.bM wC.out).1.symm];exact (Kd.bM wC.out).2.1);rintro e w50 ⟨aTY,rfl,ho0,hb⟩;refine ⟨_,rfl,?_⟩;have aYz:=aA.mk (Kd.dY (Kd.dF (Kd.dF ho0 (Kd.gH (cN gL.out))) (Kd.gH (cN wC.out))) (cD (jU HB qA sZ RL)));replace gL:=aA.mk (Kd.cI (cN gL.out) (Kd.dG ho0) hb);replace wC:=aA.mk (Kd.cI (cN wC.out) (Kd.dG ho0) hb);replace dA:=aA.mk (aH (bT dA) hb);replace fW:=aA.mk (aH (bT fW) hb);replace lS:=aA.mk (aH (bT lS) hb);replace HB:=aA.mk (aM (jU HB qA sZ RL) hb);(try clear hb);(try clear hb2);(try clear hk);(try clear hi);(try clear ho0)))
            go_loopg [12] k2 (fun kq v12 w' => ∃ (NK : List Int) (rH : Int) (mW : List Int) (sN : Value),v12 = .int .i64 rH∧aA (aW.l1 kq dD NK rH aQ aK aV t244 t245 mW = some (r1,r2,r3,r4))∧aA (kq≤k2)∧aA (Kd.R (Kd.int .u8) 5 w' w.heap.size (fun k_ => some k_≠(sN : Value).ownBlock) aTY NK)∧aA (Kd.R (Kd.int .u8) 5 w' w.heap.size (fun k_ => some k_≠(aTY : Value).ownBlock) sN mW)∧aA (w'.heap[TP]? = some (.cells #[.int .i64 aQ,.int .i64 aK,(.slice cG aV.length cF)] 24 (0,0)))∧aA (w'.heap[IA]? = some (.cells #[.int .i64 0,.int .i64 0,(.slice none 0 0)] 24 (0,0)))∧aA (w'.heap[MA]? = some (.cells #[.int .i64 t244,.int .i64 t245,sN] 24 (0,0)))∧aA (Below w.heap.size w w'))
            case atStart => exact ⟨(aSw),(0),(sK),(sN),rT,H',⟨Nat.le_refl _⟩,⟨by (with_reducible repeat first | apply Kd.bX | apply Kd.bW | apply Kd.bQ);exact Kd.cE aYz.out (fun _ hk => hk.1.2)⟩,⟨by (with_reducible repeat first | apply Kd.bX | apply Kd.bW | apply Kd.bQ);exact Kd.cE gL.out (fun _ hk => hk.2)⟩,⟨hJ dA.out⟩,⟨hJ fW.out⟩,⟨hJ lS.out⟩,⟨jU HB qA sZ RL⟩⟩
            case round =>
             clear H';(try clear c1);(try clear c2);(try clear p2);(try clear c3);(try clear c4);(try clear p4);(try clear q4);(try clear hx4);(try clear hf4);(try clear c5);(try clear c6);(try clear c7);(try clear CV);(try clear ND);(try clear c15);(try clear UK);(try clear ZG);(try clear aAU);(try clear c19);(try clear c25);(try clear c26);(try clear ZE);(try clear c32);(try clear ZD);(try clear aAS);(try clear c36);(try clear aYa);(try clear aXZ);(try clear c37);(try clear aXY);(try clear aXX);(try clear c38);(try clear aMp);(try clear c39);(try clear aMo);(try clear p40);(try clear q40);(try clear hx40);(try clear hf40);(try clear c42);(try clear c43);(try clear c45);(try clear oF);(try clear oE);(try clear oD);(try clear CA);(try clear BZ);(try clear BX);(try clear tW);(try clear tV);(try clear tU);(try clear QS);(try clear QR);(try clear QQ);(try clear BW);(try clear BV);(try clear BU);(try clear FI);(try clear FH);(try clear FG);(try clear aHs);(try clear aHr);(try clear aHq);(try clear aHp);(try clear aHo);(try clear aHn);(try clear aCI);(try clear aCH);(try clear aCG);(try clear VU);(try clear VT);(try clear VS);(try clear VR);(try clear VQ);(try clear VP);(try clear wQ);(try clear wP);(try clear wO);(try clear oC);(try clear oB);(try clear oA);(try clear BK);(try clear BJ)
             (try clear BI);(try clear tT);(try clear tS);(try clear tR);(try clear QA);(try clear PZ);(try clear PY);(try clear BH);(try clear BG);(try clear BF);(try clear FC);(try clear FB);(try clear FA);(try clear aHj);(try clear aHi);(try clear aHh);(try clear aHg);(try clear aHf);(try clear aHe);(try clear aCn);(try clear aCm);(try clear aCl);(try clear VI);(try clear VH);(try clear VG);(try clear VF);(try clear VE);(try clear VD);(try clear wN);(try clear wM);(try clear wL);(try clear hx40_0);(try clear p2);(try clear p40);(try clear q40);obtain ⟨NK,rH,mW,sN,rfl,HA,UN,aKk,gL,dA,fW,lS,HB⟩:=hrel
             cases gk with
             | zero => exact absurd HA.out (by simp [aW.l1])
             | succ k3 =>
              have H:=HA.out;clear HA;simp only [aW.l1] at H
              by_cases c51 : rH < aQ
              ·rw [if_pos c51] at H
               have aXT : decide (rH < aQ) = true:=decide_eq_true c51;clear c51
               by_cases c52 : 0≤rH
               ·rw [if_pos c52] at H
                have bHf : decide (0≤rH) = true:=decide_eq_true c52;clear c52
                by_cases SU : rH < (NK.length : Int)
                ·rw [if_pos SU] at H
                 have GA : decide (rH < (NK.length : Int)) = true:=decide_eq_true SU;clear SU;obtain ⟨PA,aLN⟩ : ∃ j_ : Int,(wrap64 ((wrap64 (rH * aQ)) + dD)) = j_:=⟨_,rfl⟩
                 replace H : (if 0≤(PA) then (if (PA) < (mW.length : Int) then (aW.l1 k3 dD NK (wrap64 (rH + 1)) aQ aK aV t244 t245 (mW.set ((PA) : Int).toNat (rd NK rH))) else (none)) else (none)) = some (r1,r2,r3,r4):=by first | (rw [aLN] at H;exact H) | (simp only [aLN] at H ⊢;exact H)
                 have bED : (IntKind.i64.wrap ((wrap64 (rH * aQ)) + dD)) = PA:=(bG _).trans aLN
                 by_cases c55 : 0≤(PA)
                 ·rw [if_pos c55] at H
                  have aRA : decide (0≤(PA)) = true:=decide_eq_true c55;clear c55
                  by_cases c56 : (PA) < (mW.length : Int)
                  ·rw [if_pos c56] at H
                   have bHd : decide ((PA) < (mW.length : Int)) = true:=decide_eq_true c56;clear c56;obtain ⟨y260,hy260⟩ : ∃ y_ : List Int,y_ = (mW.set ((PA) : Int).toNat (rd NK rH)):=⟨_,rfl⟩
                   replace H : (aW.l1 k3 dD NK (wrap64 (rH + 1)) aQ aK aV t244 t245 y260) = some (r1,r2,r3,r4):=by first | (rw [hy260];with_reducible exact H) | (have H2_:=(Option.bind_some _ _).symm.trans H;rw [hy260];with_reducible exact H2_) | (have H2_:=(Option.bind_some _ _).symm.trans H;with_reducible exact H2_) | with_reducible exact H | (rw [hy260];exact H) | exact H
                   have Ny260:=aA.mk hy260;clear hy260;have H':=aA.mk H;clear H;have bGO:=sU.out;have bGd:=sT.out;have bGN:=uP.out;have bGc:=EA.out;have bBv:=bR dA 0 (.int .i64 aQ) rfl;have bBu:=bR dA 1 (.int .i64 aK) rfl;have bBt:=bR dA 2 (.slice cG aV.length cF) rfl;have bAw:=aD dA.out 0;have bAv:=aD dA.out 1;have bAu:=aD dA.out 2
                   try go_wp2
                   replace aKk:=aA.mk (Kd.bQ aKk.out);replace gL:=aA.mk (Kd.bQ gL.out);replace dA:=aA.mk (aG dA.out);replace fW:=aA.mk (aG fW.out);replace lS:=aA.mk (aG lS.out);replace HB:=aA.mk (dO HB.out);obtain ⟨bFt,bFe,eo62⟩:=Kd.cZ aKk.out
                   (first | subst eo62 | (injection eo62 with f1_ f2_ f3_;have f4_:=f1_.symm;have f5_:=f3_.symm;clear f1_ f2_ f3_;subst f4_;subst f5_));have aSN : 0≤(rH : Int):=of_decide_eq_true pH;have q259 : rH < (NK.length : Int):=of_decide_eq_true pH;obtain ⟨ad259,e259,hx259_0⟩:=Kd.rG (Kd.bM aKk.out).2.2 rH aSN q259
                   cases e259
                   replace aSN:=eq_true aSN;replace q259:=eq_true q259;have p57 : 0≤((PA) : Int):=of_decide_eq_true pH;have q57 : ((PA) : Int) < ((mW.length : Int) : Int):=of_decide_eq_true pH;obtain ⟨go57,aXF,eo57,aXr,gl57,cl57,HG57⟩:=Kd.CT gL.out (by omega)
                   (first | cases eo57 | (injection eo57 with ea_ en_ ec_;(first | subst ea_ | (injection ea_ with ea_;subst ea_));subst ec_;clear en_));have GB57:=aA.mk aXr;have GG57:=aA.mk HG57;clear aXr gl57 HG57;obtain ⟨hx57_0,hf57_0⟩:=Kd.rQ 0 gL.out ((PA) : Int) p57 q57;replace p57:=eq_true p57;replace q57:=eq_true q57;have HP63:=Kd.NH gL.out ((PA) : Int) (rd NK rH);rw [← Ny260.out] at HP63;have HQ63:=aA.mk HP63;clear HP63;refine qR (n:=14) (S:=fun w' => w'.cell? ⟨MA,0,none⟩ = some (.int .i64 t244)∧w'.cell? ⟨MA,1,none⟩ = some (.int .i64 t245)∧w'.cell? ⟨MA,2,none⟩ = some (.slice (some ⟨go57,0,none⟩) mW.length aXF)∧w'.cell? ⟨TP,0,none⟩ = some (.int .i64 aQ)∧w'.cell? ⟨TP,1,none⟩ = some (.int .i64 aK)∧w'.cell? ⟨TP,2,none⟩ = some (.slice cG aV.length cF)∧w'.cell? (ad259.add (rH).toNat) = some (.int .u8 (rd NK rH))) (ds:=[13]) #[false,false,false,false,false,false,false,false,false,false,false,false,false,false] (by kernel_rfl) rfl rfl ⟨(aU lS.out 0).trans rfl,(aU lS.out 1).trans rfl,(aU lS.out 2).trans rfl,(aU dA.out 0).trans rfl,(aU dA.out 1).trans rfl,(aU dA.out 2).trans rfl,hx259_0⟩ (fun hHeld => ?_);refine jO aW.aKC aW.aFX (fun HT_ HW_ => ?_);generalize wr.drew = w61 at aKk gL dA fW lS HB GG57 HQ63 hf57_0 hx259_0 hx57_0 hHeld ⊢
                   refine cB (i:=0) (N:=some 64) (v:=?_) (a':=?_) (eE 14 1) rfl rfl (bK HT_.out (by kernel_rfl)) (fun _ _ _ h => h) (Or.inl ⟨by rfl,?_⟩) ?_ ?_;rotate_left
                   ·intro w'
                    go_simp;(with_reducible rfl)
                   rotate_left
                   ·simp only [Act.put,cV,cT,cW,bG,bH]
                    rfl
                   refine cB (i:=2) (N:=some 66) (v:=?_) (a':=?_) (eE 14 5) rfl rfl (bK HT_.out (by kernel_rfl)) (fun _ _ _ h => h) (Or.inl ⟨by rfl,?_⟩) ?_ ?_;rotate_left
                   ·intro w'
                    go_simp;(with_reducible rfl)
                   rotate_left
                   ·simp only [Act.put,cV,cT,cW,bG,bH]
                    rfl
                   refine cB (i:=3) (N:=some 67) (v:=?_) (a':=?_) (eE 14 13) rfl rfl (bK HT_.out (by kernel_rfl)) (fun _ _ _ h => h) (Or.inl ⟨by rfl,?_⟩) ?_ ?_;rotate_left
                   ·intro w'
                    go_simp;(with_reducible rfl)
                   rotate_left
                   ·simp only [Act.put,cV,cT,cW,bG,bH]
                    rfl
                   refine cB (i:=6) (N:=some 70) (v:=?_) (a':=?_) (eE 14 77) rfl rfl (bK HT_.out (by kernel_rfl)) (fun _ _ _ h => h) (Or.inl ⟨by rfl,?_⟩) ?_ ?_;rotate_left
                   ·intro w'
                    go_simp;(with_reducible rfl)
                   rotate_left
                   ·simp only [Act.put,cV,cT,cW,bG,bH]
                    rfl
                   refine cB (i:=8) (N:=some 72) (v:=?_) (a':=?_) (eE 14 333) rfl rfl (bK HT_.out (by kernel_rfl)) (fun _ _ _ h => h) (Or.inl ⟨by rfl,?_⟩) ?_ ?_;rotate_left
                   ·intro w'
                    go_simp;(with_reducible rfl)
                   rotate_left
                   ·simp only [Act.put,cV,cT,cW,bG,bH]
                    rfl
                   refine cB (i:=9) (N:=some 73) (v:=?_) (a':=?_) (eE 14 845) rfl rfl (bK HT_.out (by kernel_rfl)) (fun _ _ _ h => h) (Or.inl ⟨by rfl,?_⟩) ?_ ?_;rotate_left
                   ·intro w'
                    go_simp;(with_reducible rfl)
                   rotate_left
                   ·simp only [Act.put,cV,cT,cW,bG,bH]
                    rfl
                   refine cB (i:=10) (N:=some 74) (v:=?_) (a':=?_) (eE 14 1869) rfl rfl (bK HT_.out (by kernel_rfl)) (fun _ _ _ h => h) (Or.inl ⟨by rfl,?_⟩) ?_ ?_;rotate_left
                   ·intro w'
                    go_simp;(with_reducible rfl)
                   rotate_left
                   ·simp only [Act.put,cV,cT,cW,bG,bH]
                    rfl
                   refine hY (i:=1) (N:=some 65) (v:=?_) (a':=?_) (eE 14 1871) rfl rfl (dZ HT_.out HW_.out (by kernel_rfl)) (fun _ _ _ h => h) (Or.inl ⟨by rfl,?_⟩) hHeld ?_ ?_;rotate_left
                   ·rintro w' ⟨s0,s1,s2,s3,s4,s5,s6⟩
                    go_simp;(with_reducible rfl)
                   rotate_left
                   ·simp only [Act.put,cV,cT,cW,bG,bH]
                    rfl
                   refine hY (i:=4) (N:=some 68) (v:=?_) (a':=?_) (eE 14 1887) rfl rfl (dZ HT_.out HW_.out (by kernel_rfl)) (fun _ _ _ h => h) (Or.inl ⟨by rfl,?_⟩) hHeld ?_ ?_;rotate_left
                   ·rintro w' ⟨s0,s1,s2,s3,s4,s5,s6⟩
                    go_simp;(with_reducible rfl)
                   rotate_left
                   ·simp only [Act.put,cV,cT,cW,bG,bH]
                    rfl
                   refine cB (i:=5) (N:=some 69) (v:=?_) (a':=?_) (eE 14 1919) rfl rfl (bK HT_.out (by kernel_rfl)) (fun _ _ _ h => h) (Or.inl ⟨by rfl,?_⟩) ?_ ?_;rotate_left
                   ·intro w'
                    go_simp;(with_reducible rfl)
                   rotate_left
                   ·simp only [Act.put,cV,cT,cW,bG,bH]
                    rfl
                   refine cB (i:=7) (N:=some 71) (v:=?_) (a':=?_) (eE 14 2047) rfl rfl (bK HT_.out (by kernel_rfl)) (fun _ _ _ h => h) (Or.inl ⟨by rfl,?_⟩) ?_ ?_;rotate_left
                   ·intro w'
                    go_simp;(with_reducible rfl)
                   rotate_left
                   ·simp only [Act.put,cV,cT,cW,bG,bH]
                    rfl
                   refine hY (i:=11) (N:=some 75) (v:=?_) (a':=?_) (eE 14 4095) rfl rfl (dZ HT_.out HW_.out (by kernel_rfl)) (fun _ _ _ h => h) (Or.inl ⟨by rfl,?_⟩) hHeld ?_ ?_;rotate_left
                   ·rintro w' ⟨s0,s1,s2,s3,s4,s5,s6⟩
                    go_simp;(with_reducible rfl)
                   rotate_left
                   ·simp only [Act.put,cV,cT,cW,bG,bH]
                    rfl
                   refine cB (i:=12) (N:=some 76) (v:=?_) (a':=?_) (eE 14 8191) rfl rfl (bK HT_.out (by kernel_rfl)) (fun _ _ _ h => h) (Or.inl ⟨by rfl,?_⟩) ?_ ?_;rotate_left
                   ·intro w'
                    go_simp;(with_reducible rfl)
                   rotate_left
                   ·simp only [Act.put,cV,cT,cW,bG,bH]
                    rfl
                   refine OZ (i:=13) (N:=none) (eE 14 16383) rfl rfl (iU HT_.out (by kernel_rfl)) (by decide) (fun K hK => ?_);refine GN (w1:=?_) (by rfl) rfl ?_ ?_;rotate_left
                   ·go_simp
                    rfl
                   refine hK.out _ _ ?_;clear hK K;refine vY (oG HT_.out (by kernel_rfl)) ?_
                   try go_wp2
                   go_roundg k3
                   case measure => have:=HJ1.out;have:=yL.out;have:=UN.out;omega
                   case rel => exact ⟨(NK),(wrap64 (rH + 1)),(y260),(.slice (some ⟨go57,0,none⟩) mW.length aXF),rT,H',⟨by have:=HJ1.out;have:=yL.out;have:=UN.out;omega⟩,⟨by (with_reducible repeat first | apply Kd.bX | apply Kd.bW | apply Kd.bQ);exact Kd.cE (Kd.cU (p:=⟨go57,((PA) : Int).toNat,none⟩) (Kd.cE aKk.out (fun k_ hk => (⟨hk,fun e_ => hk (by rw [e_];rfl)⟩ : _∧k_≠go57))) (fun _ hk => hk.2) (.int .u8 (rd NK rH))) (fun _ hk => hk.1)⟩,⟨cN HQ63.out⟩,⟨by (with_reducible repeat first | apply aE | apply aG | apply aC);refine aN ?_ (by have h_:=Kd.oY gL.out dA.out (by decide);intro e_;exact h_ (by rw [e_];rfl)) _;(with_reducible repeat first | apply aE | apply aG | apply aC);exact dA.out⟩,⟨by (with_reducible repeat first | apply aE | apply aG | apply aC);refine aN ?_ (by have h_:=Kd.oY gL.out fW.out (by decide);intro e_;exact h_ (by rw [e_];rfl)) _;(with_reducible repeat first | apply aE | apply aG | apply aC);exact fW.out⟩,⟨by (with_reducible repeat first | apply aE | apply aG | apply aC);refine aN ?_ (by have h_:=Kd.oY gL.out lS.out (by decide);intro e_;exact h_ (by rw [e_];rfl)) _;(with_reducible repeat first | apply aE | apply aG | apply aC);exact lS.out⟩,⟨vV HB GB57 qA sZ RL⟩⟩
                  ·rw [if_neg c56] at H
                   exact absurd H (by simp)
                 ·rw [if_neg c55] at H
                  exact absurd H (by simp)
                ·rw [if_neg SU] at H
                 exact absurd H (by simp)
               ·rw [if_neg c52] at H
                exact absurd H (by simp)
              ·rw [if_neg c51] at H
               have aXT : decide (rH < aQ) = false:=decide_eq_false c51;clear c51;have H':=aA.mk H;clear H;have aUW:=sU.out;have aUB:=sT.out;have bGJ:=uP.out;have bFY:=EA.out;have bBs:=bR dA 0 (.int .i64 aQ) rfl;have bBr:=bR dA 1 (.int .i64 aK) rfl;have bBq:=bR dA 2 (.slice cG aV.length cF) rfl;have bAt:=aD dA.out 0;have bAs:=aD dA.out 1;have bAr:=aD dA.out 2
               go_wp2
               go_roundg k3
               case measure => have:=HJ1.out;have:=yL.out;have:=UN.out;omega
               case rel => exact ⟨(wrap64 (dD + 1)),(mW),(sN),rT,H',⟨by have:=HJ1.out;have:=yL.out;have:=UN.out;omega⟩,⟨by (with_reducible repeat first | apply Kd.bX | apply Kd.bW | apply Kd.bQ);exact Kd.cE gL.out (fun _ hk => trivial)⟩,⟨hJ dA.out⟩,⟨hJ fW.out⟩,⟨hJ lS.out⟩,⟨jU HB qA sZ RL⟩⟩
           ·rw [if_neg c39] at H
            exact absurd H (by simp)
          ·rw [if_neg c38] at H
           exact absurd H (by simp)
         ·rw [if_neg c37] at H
          exact absurd H (by simp)
        ·rw [if_neg c36] at H
         exact absurd H (by simp)
       ·rw [if_neg ZD] at H
        have aAS : decide (dD < aQ) = false:=decide_eq_false ZD;clear ZD;simp only [Option.some.injEq,Prod.mk.injEq] at H;obtain ⟨rfl,rfl,rfl,rfl⟩:=H;have aUV:=sU.out;have aUA:=sT.out;have aQZ:=uP.out;have aQK:=EA.out;have aPp:=bR dA 0 (.int .i64 aQ) rfl;have aPo:=bR dA 1 (.int .i64 aK) rfl;have aPn:=bR dA 2 (.slice cG aV.length cF) rfl;have aOw:=aD dA.out 0;have aOv:=aD dA.out 1;have aOu:=aD dA.out 2;have aUU:=aBa.out;have aUz:=EB.out;have aPj:=bR lS 0 (.int .i64 t244) rfl;have aPi:=bR lS 1 (.int .i64 t245) rfl;have aPh:=bR lS 2 sN rfl;have aOq:=aD lS.out 0;have aOp:=aD lS.out 1;have aOo:=aD lS.out 2;have bBp:=bR fW 0 (.int .i64 0) rfl;have bBo:=bR fW 1 (.int .i64 0) rfl;have bBn:=bR fW 2 (.slice none 0 0) rfl;have bAq:=aD fW.out 0;have bAp:=aD fW.out 1;have bAo:=aD fW.out 2;obtain ⟨aYX,aXD,eo73⟩:=Kd.cZ gL.out;subst eo73
        go_wp2
        refine bodyPost_ret (dX rfl _ _ IA 24 #[.int .i64 t244,.int .i64 t245,.slice aYX sK.length aXD] (0,0) _ rfl (by (with_reducible repeat first | apply aE | apply aG | apply aC);refine bC (cs:=#[.int .i64 t244,.int .i64 t245,.slice none 0 0]) ?_ 2 _ rfl;(with_reducible repeat first | apply aE | apply aG | apply aC);refine bC (cs:=#[.int .i64 t244,.int .i64 0,.slice none 0 0]) ?_ 1 _ rfl;(with_reducible repeat first | apply aE | apply aG | apply aC);refine bC (cs:=#[.int .i64 0,.int .i64 0,.slice none 0 0]) ?_ 0 _ rfl;(with_reducible repeat first | apply aE | apply aG | apply aC);exact fW.out) Try.underlying24 rfl (by kernel_rfl)) rfl ?_;exact ⟨_,yE,by (with_reducible repeat first | apply Kd.bX | apply Kd.bW | apply Kd.bQ);exact Kd.cE (Kd.cU (p:=⟨IA,2,none⟩) (Kd.cU (p:=⟨IA,1,none⟩) (Kd.cU (p:=⟨IA,0,none⟩) (Kd.eM gL.out fW.out (by decide)) (fun _ hk => hk.2) (.int .i64 t244)) (fun _ hk => hk.2) (.int .i64 t245)) (fun _ hk => hk.2) (.slice aYX sK.length aXD)) (fun _ hk => trivial),jU HB qA sZ RL⟩
def gT.f (l0 : List Int) : Option (List Int):=(some (([] : List Int) : List Int)).bind fun y261 => (if y261.length + l0.length < 140737488355328 then (some (y261 ++ l0)) else (none))
theorem gT.calls (A0 : Option Addr) (c0 : Nat) (l0 : List Int) (r : List Int) (w : World) (hr0 : Kd.C (Kd.int .u8) w A0 l0.length l0) (hc0 : l0.length≤c0) (h : gT.f l0 = some r) :
  Calls Try.prog 41 #[.slice A0 l0.length c0] w fun e w' => ∃ v0_ : Value,e = .returned (v0_)∧Kd.R (Kd.int .u8) 5 w' w.heap.size (fun _ => True) v0_ r∧Below w.heap.size w w':=by
 have HR0:=aA.mk hr0;have HC0:=aA.mk hc0;clear hr0 hc0;have HB:=aA.mk (Below.refl w.heap.size w);have H : ((some (([] : List Int) : List Int)).bind fun y261 => (if y261.length + l0.length < 140737488355328 then (some (y261 ++ l0)) else (none))) = some r:=h;clear h;obtain ⟨y261,hy261⟩ : ∃ y_ : List Int,y_ = (([] : List Int)):=⟨_,rfl⟩
 replace H : (if y261.length + l0.length < 140737488355328 then (some (y261 ++ l0)) else (none)) = some r:=by first | (rw [hy261];with_reducible exact H) | (have H2_:=(Option.bind_some _ _).symm.trans H;rw [hy261];with_reducible exact H2_) | (have H2_:=(Option.bind_some _ _).symm.trans H;with_reducible exact H2_) | with_reducible exact H | (rw [hy261];exact H) | exact H
 have Ny261:=aA.mk hy261;clear hy261
 by_cases c2 : y261.length + l0.length < 140737488355328
 ·rw [if_pos c2] at H
  have LMc2:=aA.mk c2;clear c2;obtain ⟨y264,hy264⟩ : ∃ y_ : List Int,y_ = (y261 ++ l0):=⟨_,rfl⟩
  replace H : (some y264) = some r:=by first | (rw [hy264];with_reducible exact H) | (have H2_:=(Option.bind_some _ _).symm.trans H;rw [hy264];with_reducible exact H2_) | (have H2_:=(Option.bind_some _ _).symm.trans H;with_reducible exact H2_) | with_reducible exact H | (rw [hy264];exact H) | exact H
  have Ny264:=aA.mk hy264;clear hy264;obtain rfl:=Option.some.inj H;go_enter Try.func41,Try.ntmps41;go_wp2_with (first | ((with_reducible refine bU (N:=3) rfl ?_);refine Kd.aMP (Kd.int .u8) _ 5 ?hg (N:=3) ?hd (xs:=([] : List Int)) (inner:=[]) (ok:=fun _ => True) (okp:=fun _ => True) ?hr ?hp (fun _ hk => hk) trivial (Below.refl _ _) (Nat.le_refl _) (by simp) ?_;(case hd => rfl);(case hg => rfl);(case hr => first | (go_simp;done) | (go_simp;rfl));(case hp => exact (fP.none _ _));intro bCh w3 ho4 hb hg_ hnew_;clear hg_ hnew_;(first | rw [← Ny261.out] at ho4 | (simp only [Int.reduceToNat] at ho4;rw [← Ny261.out] at ho4));have aRR:=aA.mk (Kd.dY ho4 (cD (dN HB)));replace HB:=aA.mk (aM (dN HB) hb);clear hb ho4) | ((with_reducible refine yT (b:=.append) (xs:=#[.tmp 3,.tmp 4]) rfl ?_);at_builtin;refine Kd.MG (Kd.int .u8) (w0:=w) w.heap.size rfl (.tmp 3) (.tmp 4) 22 5 (.int .u8 0) 1 rfl Try.underlying22 FV rfl (by decide) (by omega) bCh y261 l0 _ _ _ (fun _ => True) (fun _ => False) rfl rfl ?aO ?aR (fun _ _ h => h) (fun _ h => h.elim) ?aF ?aB ?aS ?aL ?_;(case aR => exact sW (Kd.eN HR0.out HB.out));(case aB => exact (dN HB));(case aF => exact (fun _ _ => trivial));(case aO => exact (cN aRR.out));(case aS => exact (cD (dN HB)));(case aL => have:=LMc2.out;omega);intro bID w5 ho hb hg hat;rw [← Ny264.out] at ho;have mT:=aA.mk (hb);have mS:=aA.mk (ho);clear HB aRR;have HB:=mT;have aYy:=mS;clear mT mS;clear ho hb hg hat))
  go_ret;exact ⟨_,yE,cN aYy.out,dN HB⟩
 ·rw [if_neg c2] at H
  exact absurd H (by simp)
end Go.Proofs.Yteofcbkjhdadpaa.Pr
