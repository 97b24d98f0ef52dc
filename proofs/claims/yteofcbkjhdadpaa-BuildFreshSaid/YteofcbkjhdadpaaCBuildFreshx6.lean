-- Out of the translation,by this session's turn of the print (wip/gp.py).
import Derived.Test.YteofcbkjhdadpaaCBuildFreshx0
import Derived.Test.YteofcbkjhdadpaaCBuildFreshx1
import Derived.Test.YteofcbkjhdadpaaCBuildFreshx2
import Derived.Test.YteofcbkjhdadpaaCBuildFreshx5
import Derived.Test.YteofcbkjhdadpaaCBuildFreshq
set_option maxHeartbeats 8000000
set_option maxRecDepth 100000
set_option linter.unusedSimpArgs false
set_option linter.unusedVariables false
namespace Go.Proofs.Yteofcbkjhdadpaa.Pr
open Go.RowKit Go.Proofs.aG.aX Go.Proofs.aG.dI Go.Proofs.aG.eN
attribute [local go_sem] fZ fX gZ gY fD fC fY fW   -- for this text's walks alone
mutual
def aU.j0 : Nat→Bool→Int→Int→List Int→Option (Int×Int×List Int×Int)
 | 0,_,_,_,_ => none
 | k + 1,x22,iL,wV,wU => if x22 = true then (some (0,0,([] : List Int),3)) else ((gG.f iL wV wU).bind fun aIP => (if aIP.1 < iL then (some (0,0,([] : List Int),6)) else ((dF.f iL iL).bind fun CI => (aU.l0 k 0 iL wV wU CI.1 CI.2.1 CI.2.2))))
def aU.l0 : Nat→Int→Int→Int→List Int→Int→Int→List Int→Option (Int×Int×List Int×Int)
 | 0,_,_,_,_,_,_,_ => none
 | k + 1,x7,iL,wV,wU,FX,FW,CQ => if x7 < iL then (if 0≤iL then (if (iL : Int).toNat≤281474976710656 then ((some (List.replicate (iL : Int).toNat 0 : List Int)).bind fun y250 => (if 0≤x7 then (if x7 < (y250.length : Int) then ((aW.f k iL wV wU (y250.set (x7 : Int).toNat 1)).bind fun RF => (aU.l1 k x7 RF.1 0 iL wV wU FX FW CQ)) else (none)) else (none))) else (none)) else (none)) else (some (FX,FW,CQ,0))
def aU.l1 : Nat→Int→List Int→Int→Int→Int→List Int→Int→Int→List Int→Option (Int×Int×List Int×Int)
 | 0,_,_,_,_,_,_,_,_,_ => none
 | k + 1,x7,x9,x12,iL,wV,wU,FX,FW,CQ => if x12 < iL then (if 0≤x12 then (if x12 < (x9.length : Int) then (if 0≤(wrap64 ((wrap64 (x12 * iL)) + x7)) then (if (wrap64 ((wrap64 (x12 * iL)) + x7)) < (CQ.length : Int) then (aU.l1 k x7 x9 (wrap64 (x12 + 1)) iL wV wU FX FW (CQ.set ((wrap64 ((wrap64 (x12 * iL)) + x7)) : Int).toNat (rd x9 x12))) else (none)) else (none)) else (none)) else (none)) else (aU.l0 k (wrap64 (x7 + 1)) iL wV wU FX FW CQ)
end
def aU.f (k : Nat) (aN : Int) (aJ : Int) (aT : List Int) : Option (Int×Int×List Int×Int):=(bN.f aN aJ aT).bind fun t241 => (if t241 = true then (aU.j0 k (aN != aJ) aN aJ aT) else (aU.j0 k true aN aJ aT))
def aU.T16 : Bool×List (List Nat×List Nat):=(true,[([],[]),([0],[0]),([],[]),([],[]),([3],[3]),([2,4],[2,4]),([],[]),([5,6],[5,6]),([],[]),([],[]),([8,9],[8,9]),([10],[10]),([1,7,0,1,2,3,4,5,6,7,8,9,10,11],[1,7]),([12,11,0,1,2,3,4,5,6,7,8,9,10,11],[11,12])])
def aU.B16 : List Nat:=[0,1,0,0,8,28,0,124,0,0,768,1792,4095,8191]
theorem aU.aGZ : pI .any (opsOf Try.f51 16) = aU.T16:=by kernel_rfl
theorem aU.aCF : mQ aU.T16.2 aU.B16 = true:=by kernel_rfl
theorem aU.calls (k : Nat) (aN : Int) (aJ : Int) (bL : Option Addr) (bK : Nat) (aT : List Int) (r1 : Int) (r2 : Int) (r3 : List Int) (r4 : Int) (w : World) (hr0_2 : Kd.C (Kd.int .u8) w bL aT.length aT) (hc0_2 : aT.length≤bK) (h : aU.f k aN aJ aT = some (r1,r2,r3,r4)) :
  Calls Try.prog 51 #[.agg #[.int .i64 aN,.int .i64 aJ,.slice bL aT.length bK]] w fun e w' => ∃ pF : Value,e = .returned (.tuple #[.agg #[.int .i64 r1,.int .i64 r2,pF],.int .i64 r4])∧Kd.R (Kd.int .u8) 5 w' w.heap.size (fun _ => True) pF r3∧Below w.heap.size w w':=by
 have wM:=Try.underlying24;have eP:=aA.mk hr0_2;have eS:=aA.mk hc0_2;clear hr0_2 hc0_2;have HB:=aA.mk (Below.refl w.heap.size w);have H : ((bN.f aN aJ aT).bind fun t241 => (if t241 = true then (aU.j0 k (aN != aJ) aN aJ aT) else (aU.j0 k true aN aJ aT))) = some (r1,r2,r3,r4):=h;clear h;have HC2:=aA.mk H;clear H;go_enter Try.func51,Try.ntmps51;go_upto_region 1 with (first | ((with_reducible refine bH (N:=1) rfl ?_);refine lK (N:=1) (cs:=#[.int .i64 aN,.int .i64 aJ,.slice bL aT.length bK]) (t:=24) ?_;intro LU hg w3 hbox hb;have bX:=aA.mk (hbox);have aZL:=aA.mk (eW hg (cG HB) : w.heap.size≤LU);have mC:=aA.mk (eW hg (cG HB) : w.heap.size≤LU);replace HB:=aA.mk (aQ (cG HB) hb);clear hb hbox hg) | ((with_reducible refine bH (N:=2) rfl ?_);refine lK (N:=2) (cs:=#[.int .i64 0,.int .i64 0,.slice none 0 0]) (t:=24) ?_;intro BX hg w4 hbox hb;have eI:=aA.mk (hbox);have aZK:=aA.mk (eW hg (cE HB mC) : w.heap.size≤BX);have oW:=aA.mk (eW hg (cE HB mC) : w.heap.size≤BX);replace HB:=aA.mk (aQ (cE HB mC) hb);have oT:=aA.mk (wJ hg (cH bX));have oS:=aA.mk (wK hg (cH bX));replace bX:=aA.mk (aM (cH bX) hb);clear hb hbox hg))
 (try simp only [Act.put,cO,cL,cP])
 go_cut [22] (fun v22 wc => ∃ (kq : Nat) (lI : Bool),v22 = .bool lI∧aA (aU.j0 kq lI aN aJ aT = some (r1,r2,r3,r4))∧aA (kq≤k)∧aA (wc.heap[LU]? = some (.cells #[.int .i64 aN,.int .i64 aJ,(.slice bL aT.length bK)] 24 (0,0)))∧aA (wc.heap[BX]? = some (.cells #[.int .i64 0,.int .i64 0,(.slice none 0 0)] 24 (0,0)))∧aA (Below w.heap.size w wc))
 case first =>
  have H:=HC2.out;clear HC2;replace H:=Option.bind_eq_some_iff.mp H;obtain ⟨t241,A50,H⟩:=H;replace H : (if t241 = true then (aU.j0 k (aN != aJ) aN aJ aT) else (aU.j0 k true aN aJ aT)) = some (r1,r2,r3,r4):=H;have A5:=aA.mk A50;clear A50
  by_cases c6 : t241 = true
  ·subst c6
   have H1 : (aU.j0 k (aN != aJ) aN aJ aT) = some (r1,r2,r3,r4):=by rw [if_pos rfl] at H;exact H
   clear H;have H:=H1;clear H1;have H':=aA.mk H;clear H;have aQl:=oT.out;have aPN:=oS.out;have FE:=bO bX 0 (.int .i64 aN) rfl;have FD:=bO bX 1 (.int .i64 aJ) rfl;have FC:=bO bX 2 (.slice bL aT.length bK) rfl;have FB:=aC bX.out 0;have FA:=aC bX.out 1;have EZ:=aC bX.out 2;go_wp2_with (first | ((with_reducible refine bB (f:=17) rfl ?_);refine cS (some 14) rfl rfl Try.func17 (by kernel_rfl) rfl #[.agg #[.int .i64 aN,.int .i64 aJ,.slice bL aT.length bK]] rfl mS ?_;(with_reducible refine (bN.calls aN aJ _ _ aT true _ ?side1 ?side2 A5.out).mono ?_);(case side1 => exact pZ (Kd.cV eP.out HB.out));(case side2 => exact eS.out);rintro e w9 ⟨rfl,hb⟩;refine ⟨_,rfl,?_⟩;replace bX:=aA.mk (aM (cH bX) hb);replace eI:=aA.mk (aM (cH eI) hb);replace HB:=aA.mk (aQ (cR HB mC oW) hb);(try clear hb);(try clear hb2);(try clear hk);(try clear hi);have jL:=bO bX 0 (.int .i64 aN) rfl;have jK:=bO bX 1 (.int .i64 aJ) rfl;have jJ:=bO bX 2 (.slice bL aT.length bK) rfl;have jI:=aC bX.out 0;have jH:=aC bX.out 1;have jG:=aC bX.out 2))
   go_meet
   case rel => exact ⟨_,((aN != aJ)),nL,H',⟨q_o⟩,⟨gM bX.out⟩,⟨gM eI.out⟩,⟨cR HB mC oW⟩⟩
  ·replace c6:=Bool.eq_false_iff.mpr c6
   subst c6;have H1 : (aU.j0 k true aN aJ aT) = some (r1,r2,r3,r4):=by rw [if_neg (show ¬ (false = true) by decide)] at H;exact H
   clear H;have H:=H1;clear H1;have H':=aA.mk H;clear H;have aDs:=oT.out;have aDr:=oS.out;have qZ:=bO bX 0 (.int .i64 aN) rfl;have qY:=bO bX 1 (.int .i64 aJ) rfl;have qX:=bO bX 2 (.slice bL aT.length bK) rfl;have qT:=aC bX.out 0;have qS:=aC bX.out 1;have qR:=aC bX.out 2;go_wp2_with (first | ((with_reducible refine bB (f:=17) rfl ?_);refine cS (some 14) rfl rfl Try.func17 (by kernel_rfl) rfl #[.agg #[.int .i64 aN,.int .i64 aJ,.slice bL aT.length bK]] rfl mS ?_;(with_reducible refine (bN.calls aN aJ _ _ aT false _ ?side1 ?side2 A5.out).mono ?_);(case side1 => exact pZ (Kd.cV eP.out HB.out));(case side2 => exact eS.out);rintro e w13 ⟨rfl,hb⟩;refine ⟨_,rfl,?_⟩;replace bX:=aA.mk (aM (cH bX) hb);replace eI:=aA.mk (aM (cH eI) hb);replace HB:=aA.mk (aQ (cR HB mC oW) hb);(try clear hb);(try clear hb2);(try clear hk);(try clear hi)))
   go_meet
   case rel => exact ⟨_,(true),nL,H',⟨q_o⟩,⟨gM bX.out⟩,⟨gM eI.out⟩,⟨cR HB mC oW⟩⟩
 case rest =>
  clear HC2;(try clear c1);(try clear p2);(try clear c5);(try clear c6);(try clear c7);(try clear BB);(try clear jL);(try clear jK);(try clear jJ);(try clear qZ);(try clear qY);(try clear qX);(try clear FE);(try clear FD);(try clear FC);(try clear jI);(try clear jH);(try clear jG);(try clear qT);(try clear qS);(try clear qR);(try clear FB);(try clear FA);(try clear EZ);obtain ⟨kq,lI,rfl,HA,HJ1,bX,eI,HB⟩:=hcut
  cases kq with
  | zero => exact absurd HA.out (by simp [aU.j0])
  | succ kj1 =>
   have H:=HA.out;clear HA;simp only [aU.j0] at H
   by_cases FR : lI = true
   ·subst FR
    have H1 : (some (0,0,([] : List Int),3)) = some (r1,r2,r3,r4):=by rw [if_pos rfl] at H;exact H
    clear H;have H:=H1;clear H1;simp only [Option.some.injEq,Prod.mk.injEq] at H;obtain ⟨rfl,rfl,rfl,rfl⟩:=H;have aId:=oS.out;have aIc:=oT.out;have qW:=bO eI 0 (.int .i64 0) rfl;have qV:=bO eI 1 (.int .i64 0) rfl;have qU:=bO eI 2 (.slice none 0 0) rfl;have qQ:=aC eI.out 0;have qP:=aC eI.out 1;have qO:=aC eI.out 2
    go_wp2
    refine bodyPost_ret (dE rfl _ _ BX 24 #[.int .i64 0,.int .i64 0,.slice none 0 0] (0,0) _ rfl (by (with_reducible repeat first | apply aD | apply aH | apply aE);refine bA (cs:=#[.int .i64 0,.int .i64 0,.slice none 0 0]) ?_ 2 _ rfl;(with_reducible repeat first | apply aD | apply aH | apply aE);refine bA (cs:=#[.int .i64 0,.int .i64 0,.slice none 0 0]) ?_ 1 _ rfl;(with_reducible repeat first | apply aD | apply aH | apply aE);refine bA (cs:=#[.int .i64 0,.int .i64 0,.slice none 0 0]) ?_ 0 _ rfl;(with_reducible repeat first | apply aD | apply aH | apply aE);exact eI.out) Try.underlying24 rfl (by kernel_rfl)) rfl ?_;exact ⟨_,uB,MR,cR HB mC oW⟩
   ·replace FR:=Bool.eq_false_iff.mpr FR
    subst FR;have H1 : ((gG.f aN aJ aT).bind fun aIP => (if aIP.1 < aN then (some (0,0,([] : List Int),6)) else ((dF.f aN aN).bind fun CI => (aU.l0 kj1 0 aN aJ aT CI.1 CI.2.1 CI.2.2)))) = some (r1,r2,r3,r4):=by rw [if_neg (show ¬ (false = true) by decide)] at H;exact H
    clear H;have H:=H1;clear H1;replace H:=Option.bind_eq_some_iff.mp H;obtain ⟨⟨t242,t243⟩,aBz,H⟩:=H;replace H : (if t242 < aN then (some (0,0,([] : List Int),6)) else ((dF.f aN aN).bind fun CI => (aU.l0 kj1 0 aN aJ aT CI.1 CI.2.1 CI.2.2))) = some (r1,r2,r3,r4):=H;have A17:=aA.mk aBz;clear aBz
    by_cases ZL : t242 < aN
    ·rw [if_pos ZL] at H
     have UZ : decide (t242 < aN) = true:=decide_eq_true ZL;clear ZL;simp only [Option.some.injEq,Prod.mk.injEq] at H;obtain ⟨rfl,rfl,rfl,rfl⟩:=H;have aYT:=oT.out;have aYf:=oS.out;have xM:=bO bX 0 (.int .i64 aN) rfl;have xL:=bO bX 1 (.int .i64 aJ) rfl;have xK:=bO bX 2 (.slice bL aT.length bK) rfl;have xF:=aC bX.out 0;have xE:=aC bX.out 1;have xD:=aC bX.out 2;go_wp2_with (first | ((with_reducible refine bB (f:=26) rfl ?_);refine cS (some 26) rfl rfl Try.func26 (by kernel_rfl) rfl #[.agg #[.int .i64 aN,.int .i64 aJ,.slice bL aT.length bK]] rfl mS ?_;(with_reducible refine (gG.calls aN aJ _ _ aT t242 t243 _ ?side1 ?side2 A17.out).mono ?_);(case side1 => exact pZ (Kd.cV eP.out HB.out));(case side2 => exact eS.out);rintro e w21 ⟨rfl,hb⟩;refine ⟨_,rfl,?_⟩;replace bX:=aA.mk (aM (cH bX) hb);replace eI:=aA.mk (aM (cH eI) hb);replace HB:=aA.mk (aQ (cR HB mC oW) hb);(try clear hb);(try clear hb2);(try clear hk);(try clear hi);have uV:=bO bX 0 (.int .i64 aN) rfl;have uU:=bO bX 1 (.int .i64 aJ) rfl;have uT:=bO bX 2 (.slice bL aT.length bK) rfl;have uS:=aC bX.out 0;have uR:=aC bX.out 1;have uQ:=aC bX.out 2;have OQ:=bO eI 0 (.int .i64 0) rfl;have OP:=bO eI 1 (.int .i64 0) rfl;have OO:=bO eI 2 (.slice none 0 0) rfl;have OB:=aC eI.out 0;have OA:=aC eI.out 1;have NZ:=aC eI.out 2))
     refine bodyPost_ret (dE rfl _ _ BX 24 #[.int .i64 0,.int .i64 0,.slice none 0 0] (0,0) _ rfl (by (with_reducible repeat first | apply aD | apply aH | apply aE);refine bA (cs:=#[.int .i64 0,.int .i64 0,.slice none 0 0]) ?_ 2 _ rfl;(with_reducible repeat first | apply aD | apply aH | apply aE);refine bA (cs:=#[.int .i64 0,.int .i64 0,.slice none 0 0]) ?_ 1 _ rfl;(with_reducible repeat first | apply aD | apply aH | apply aE);refine bA (cs:=#[.int .i64 0,.int .i64 0,.slice none 0 0]) ?_ 0 _ rfl;(with_reducible repeat first | apply aD | apply aH | apply aE);exact eI.out) Try.underlying24 rfl (by kernel_rfl)) rfl ?_;exact ⟨_,uB,MR,cR HB mC oW⟩
    ·rw [if_neg ZL] at H
     have UZ : decide (t242 < aN) = false:=decide_eq_false ZL;clear ZL;replace H:=Option.bind_eq_some_iff.mp H;obtain ⟨⟨t244,t245,t246⟩,aSM,H⟩:=H;replace H : (aU.l0 kj1 0 aN aJ aT t244 t245 t246) = some (r1,r2,r3,r4):=H;have A24:=aA.mk aSM;clear aSM;have H':=aA.mk H;clear H;have aYP:=oT.out;have aYb:=oS.out;have YI:=bO bX 0 (.int .i64 aN) rfl;have YH:=bO bX 1 (.int .i64 aJ) rfl;have YG:=bO bX 2 (.slice bL aT.length bK) rfl;have XN:=aC bX.out 0;have XM:=aC bX.out 1;have XL:=aC bX.out 2;go_wp2_with (first | ((with_reducible refine bB (f:=26) rfl ?_);refine cS (some 26) rfl rfl Try.func26 (by kernel_rfl) rfl #[.agg #[.int .i64 aN,.int .i64 aJ,.slice bL aT.length bK]] rfl mS ?_;(with_reducible refine (gG.calls aN aJ _ _ aT t242 t243 _ ?side1 ?side2 A17.out).mono ?_);(case side1 => exact pZ (Kd.cV eP.out HB.out));(case side2 => exact eS.out);rintro e w27 ⟨rfl,hb⟩;refine ⟨_,rfl,?_⟩;replace bX:=aA.mk (aM (cH bX) hb);replace eI:=aA.mk (aM (cH eI) hb);replace HB:=aA.mk (aQ (cR HB mC oW) hb);(try clear hb);(try clear hb2);(try clear hk);(try clear hi);have IS:=bO bX 0 (.int .i64 aN) rfl;have IQ:=bO bX 1 (.int .i64 aJ) rfl;have IP:=bO bX 2 (.slice bL aT.length bK) rfl;have IE:=aC bX.out 0;have ID:=aC bX.out 1;have IC:=aC bX.out 2) | ((with_reducible refine bB (f:=45) rfl ?_);refine cS (some 38) rfl rfl Try.func45 (by kernel_rfl) rfl #[.int .i64 aN,.int .i64 aN] rfl mS ?_;(with_reducible refine (dF.calls aN aN t244 t245 t246 _ A24.out).mono ?_);rintro e w29 ⟨bAo,rfl,ho0,hb⟩;refine ⟨_,rfl,?_⟩;have aEM:=aA.mk (Kd.dS ho0 (bU (cR HB mC oW)));replace bX:=aA.mk (aM (cH bX) hb);replace eI:=aA.mk (aM (cH eI) hb);replace HB:=aA.mk (aQ (cR HB mC oW) hb);(try clear hb);(try clear hb2);(try clear hk);(try clear hi);(try clear ho0)) | ((with_reducible refine bH (N:=6) rfl ?_);refine lK (N:=6) (cs:=#[.int .i64 0,.int .i64 0,.slice none 0 0]) (t:=24) ?_;intro EE hg w30 hbox hb;replace aEM:=aA.mk (Kd.cW (eQ aEM.out) hb);have iK:=aA.mk (hbox);have aZJ:=aA.mk (eW hg (cR HB mC oW) : w.heap.size≤EE);have JP:=aA.mk (eW hg (cR HB mC oW) : w.heap.size≤EE);replace HB:=aA.mk (aQ (cR HB mC oW) hb);have pS:=aA.mk (wJ hg (cH bX));have zF:=aA.mk (wK hg (cH bX));replace bX:=aA.mk (aM (cH bX) hb);have zG:=aA.mk (wJ hg (cH eI));have VF:=aA.mk (wK hg (cH eI));replace eI:=aA.mk (aM (cH eI) hb);clear hb hbox hg;have aYN:=zF.out;have aXZ:=pS.out;have aQy:=VF.out;have aQa:=zG.out;have YF:=bO iK 0 (.int .i64 0) rfl;have YE:=bO iK 1 (.int .i64 0) rfl;have YD:=bO iK 2 (.slice none 0 0) rfl;have XK:=aC iK.out 0;have XJ:=aC iK.out 1;have XI:=aC iK.out 2;obtain ⟨aBw,aAP,eo34⟩:=Kd.cM aEM.out;subst eo34))
     go_loopg [7] kj1 (fun kq v7 w' => ∃ (cX : Int) (oB : List Int) (oE : Value),v7 = .int .i64 cX∧aA (aU.l0 kq cX aN aJ aT t244 t245 oB = some (r1,r2,r3,r4))∧aA (kq≤kj1)∧aA (Kd.R (Kd.int .u8) 5 w' w.heap.size (fun _ => True) oE oB)∧aA (w'.heap[LU]? = some (.cells #[.int .i64 aN,.int .i64 aJ,(.slice bL aT.length bK)] 24 (0,0)))∧aA (w'.heap[BX]? = some (.cells #[.int .i64 0,.int .i64 0,(.slice none 0 0)] 24 (0,0)))∧aA (w'.heap[EE]? = some (.cells #[.int .i64 t244,.int .i64 t245,oE] 24 (0,0)))∧aA (Below w.heap.size w w'))
     case atStart => exact ⟨(0),(t246),(.slice aBw t246.length aAP),nL,H',⟨Nat.le_refl _⟩,⟨by (with_reducible repeat first | apply Kd.cK | apply Kd.cJ | apply Kd.cC);exact Kd.cN (Kd.dD (p:=⟨EE,2,none⟩) (Kd.dD (p:=⟨EE,1,none⟩) (Kd.dD (p:=⟨EE,0,none⟩) (Kd.eC aEM.out iK.out (by decide)) (fun _ hk => hk.2) (.int .i64 t244)) (fun _ hk => hk.2) (.int .i64 t245)) (fun _ hk => hk.2) (.slice aBw t246.length aAP)) (fun _ hk => trivial)⟩,⟨by (with_reducible repeat first | apply aD | apply aH | apply aE);refine bF ?_ pS.out _;(with_reducible repeat first | apply aD | apply aH | apply aE);refine bF ?_ pS.out _;(with_reducible repeat first | apply aD | apply aH | apply aE);refine bF ?_ pS.out _;(with_reducible repeat first | apply aD | apply aH | apply aE);exact bX.out⟩,⟨by (with_reducible repeat first | apply aD | apply aH | apply aE);refine bF ?_ zG.out _;(with_reducible repeat first | apply aD | apply aH | apply aE);refine bF ?_ zG.out _;(with_reducible repeat first | apply aD | apply aH | apply aE);refine bF ?_ zG.out _;(with_reducible repeat first | apply aD | apply aH | apply aE);exact eI.out⟩,⟨by (with_reducible repeat first | apply aD | apply aH | apply aE);refine bA (cs:=#[.int .i64 t244,.int .i64 t245,.slice none 0 0]) ?_ 2 _ rfl;(with_reducible repeat first | apply aD | apply aH | apply aE);refine bA (cs:=#[.int .i64 t244,.int .i64 0,.slice none 0 0]) ?_ 1 _ rfl;(with_reducible repeat first | apply aD | apply aH | apply aE);refine bA (cs:=#[.int .i64 0,.int .i64 0,.slice none 0 0]) ?_ 0 _ rfl;(with_reducible repeat first | apply aD | apply aH | apply aE);exact iK.out⟩,⟨jU HB mC oW JP⟩⟩
     case round =>
      clear H';(try clear c1);(try clear c2);(try clear p2);(try clear c3);(try clear c4);(try clear c5);(try clear c6);(try clear c7);(try clear BB);(try clear FR);(try clear YZ);(try clear CE);(try clear ZL);(try clear UZ);(try clear MX);(try clear c25);(try clear c26);(try clear FQ);(try clear c32);(try clear jL);(try clear jK);(try clear jJ);(try clear qZ);(try clear qY);(try clear qX);(try clear qW);(try clear qV);(try clear qU);(try clear xM);(try clear xL);(try clear xK);(try clear uV);(try clear uU);(try clear uT);(try clear OQ);(try clear OP);(try clear OO);(try clear YI);(try clear YH);(try clear YG);(try clear IS);(try clear IQ);(try clear IP);(try clear YF);(try clear YE);(try clear YD);(try clear FE);(try clear FD);(try clear FC);(try clear jI);(try clear jH);(try clear jG);(try clear qT);(try clear qS);(try clear qR);(try clear qQ);(try clear qP);(try clear qO);(try clear xF);(try clear xE);(try clear xD);(try clear uS);(try clear uR);(try clear uQ);(try clear OB);(try clear OA);(try clear NZ);(try clear XN);(try clear XM);(try clear XL);(try clear IE);(try clear ID);(try clear IC);(try clear XK);(try clear XJ);(try clear XI);(try clear FB);(try clear FA);(try clear EZ)
      (try clear p2);obtain ⟨cX,oB,oE,rfl,HA,vJ,eU,bX,eI,iK,HB⟩:=hrel
      cases gk with
      | zero => exact absurd HA.out (by simp [aU.l0])
      | succ k2 =>
       have H:=HA.out;clear HA;simp only [aU.l0] at H
       by_cases c35 : cX < aN
       ·rw [if_pos c35] at H
        have aMR : decide (cX < aN) = true:=decide_eq_true c35;clear c35
        by_cases c36 : 0≤aN
        ·rw [if_pos c36] at H
         have aRr:=eq_true c36;have aRq : decide (0≤aN) = true:=decide_eq_true c36;clear c36
         by_cases c37 : (aN : Int).toNat≤281474976710656
         ·rw [if_pos c37] at H
          have aMQ:=eq_true c37;have aRp : decide ((aN : Int).toNat≤281474976710656) = true:=decide_eq_true c37;clear c37;obtain ⟨y250,hy250⟩ : ∃ y_ : List Int,y_ = (List.replicate (aN : Int).toNat 0):=⟨_,rfl⟩
          replace H : (if 0≤cX then (if cX < (y250.length : Int) then ((aW.f k2 aN aJ aT (y250.set (cX : Int).toNat 1)).bind fun RF => (aU.l1 k2 cX RF.1 0 aN aJ aT t244 t245 oB)) else (none)) else (none)) = some (r1,r2,r3,r4):=by first | (rw [hy250];with_reducible exact H) | (have H2_:=(Option.bind_some _ _).symm.trans H;rw [hy250];with_reducible exact H2_) | (have H2_:=(Option.bind_some _ _).symm.trans H;with_reducible exact H2_) | with_reducible exact H | (rw [hy250];exact H) | exact H
          have Ny250:=aA.mk hy250;clear hy250
          by_cases c38 : 0≤cX
          ·rw [if_pos c38] at H
           have aEB : decide (0≤cX) = true:=decide_eq_true c38;clear c38
           by_cases c39 : cX < (y250.length : Int)
           ·rw [if_pos c39] at H
            have aIE : decide (cX < (y250.length : Int)) = true:=decide_eq_true c39;clear c39;obtain ⟨y253,hy253⟩ : ∃ y_ : List Int,y_ = (y250.set (cX : Int).toNat 1):=⟨_,rfl⟩
            replace H : ((aW.f k2 aN aJ aT y253).bind fun RF => (aU.l1 k2 cX RF.1 0 aN aJ aT t244 t245 oB)) = some (r1,r2,r3,r4):=by first | (rw [hy253];with_reducible exact H) | (have H2_:=(Option.bind_some _ _).symm.trans H;rw [hy253];with_reducible exact H2_) | (have H2_:=(Option.bind_some _ _).symm.trans H;with_reducible exact H2_) | with_reducible exact H | (rw [hy253];exact H) | exact H
            have Ny253:=aA.mk hy253;clear hy253;replace H:=Option.bind_eq_some_iff.mp H;obtain ⟨⟨aNF,aWa,aVZ⟩,aSI,H⟩:=H;replace H : (aU.l1 k2 cX aNF 0 aN aJ aT t244 t245 oB) = some (r1,r2,r3,r4):=H;have A41:=aA.mk aSI;clear aSI;have H':=aA.mk H;clear H;have aMy:=oT.out;have aMr:=oS.out;have aQw:=pS.out;have aPY:=zF.out;have aEd:=bO bX 0 (.int .i64 aN) rfl;have aEc:=bO bX 1 (.int .i64 aJ) rfl;have aEb:=bO bX 2 (.slice bL aT.length bK) rfl;have aDF:=aC bX.out 0;have aDE:=aC bX.out 1;have aDD:=aC bX.out 2;go_wp2_with (first | ((with_reducible refine bH (N:=47) rfl ?_);refine Kd.RO (Kd.int .u8) _ 5 rfl (N:=47) rfl 22 _ _ rfl aN rfl rfl Try.underlying22 (.int .u8 0) 1 yS rfl (by decide) (by omega) 0 (ok:=fun _ => True) (okp:=fun _ => True) rfl (fun _ hk => hk) trivial (of_decide_eq_true mK) (Nat.le_trans (Nat.mul_le_mul_right _ (of_decide_eq_true mK : aN.toNat≤281474976710656)) (by omega)) (Below.refl _ _) (Nat.le_refl _) ?_;intro bAn w45 ho46 hb hg_ hnew_;clear hg_ hnew_;(first | rw [← Ny250.out] at ho46 | (simp only [Int.reduceToNat] at ho46;rw [← Ny250.out] at ho46));have rW:=aA.mk (Kd.dS (Kd.mM ho46 (Kd.uX (eQ eU.out))) (bU (jU HB mC oW JP)));replace eU:=aA.mk (Kd.gS (eQ eU.out) (Kd.lW ho46) hb);replace bX:=aA.mk (aM (cH bX) hb);replace eI:=aA.mk (aM (cH eI) hb);replace iK:=aA.mk (aM (cH iK) hb);replace HB:=aA.mk (aQ (jU HB mC oW JP) hb);clear hb ho46;have p40 : 0≤(cX : Int):=of_decide_eq_true mK;have q40 : (cX : Int) < ((y250.length : Int) : Int):=of_decide_eq_true mK;obtain ⟨go40,aLv,eo40,aQL,gl40,cl40,HG40⟩:=Kd.AE rW.out (by omega);(first | cases eo40 | (injection eo40 with ea_ en_ ec_;(first | subst ea_ | (injection ea_ with ea_;subst ea_));subst ec_;clear en_));have GB40:=aA.mk aQL;have GG40:=aA.mk HG40;clear aQL gl40 HG40;obtain ⟨hx40_0,hf40_0⟩:=Kd.nG 0 rW.out (cX : Int) p40 q40;replace p40:=eq_true p40;replace q40:=eq_true q40;have n_:=aA.mk (Kd.cN (ok':=(fun k_ => some k_≠(oE : Value).ownBlock)) rW.out (fun k_ hk => hk.2));clear rW;have rW:=n_;clear n_;obtain ⟨hy47_,hz47_⟩:=Kd.nG 0 rW.out (cX : Int) (of_decide_eq_true mK) (of_decide_eq_true mK);have HP47:=Kd.RM rW.out (cX : Int) 1) | ((with_reducible refine vX (t:=5) (p:=50) rfl ?_);refine tL (t:=5) (p:=50) (v:=?vo_w48) (w1:=(w45.setCell ⟨go40,(cX : Int).toNat,none⟩ (.int .u8 1))) ?hg ?ho ?hn ?hr ?_;(case ho => rfl);(case hg => rfl);(case hn => rfl);(case hr => first | (go_simp;done) | (go_simp;rfl));intro w48 hw;have hg : w45.grownBy w48 (some go40):=(by rw [hw];exact HP47.2);have hp_ : Kd.R (Kd.int .u8) 5 w48 w.heap.size (fun k_ => some k_≠(oE : Value).ownBlock) (.slice (some ⟨go40,0,none⟩) y250.length aLv) y253:=(by rw [hw,Ny253.out];exact HP47.1);clear HP47;replace eU:=aA.mk (Kd.uY (v:=(.slice (some ⟨go40,0,none⟩) y250.length aLv)) (v1:=(.slice (some ⟨go40,0,none⟩) y250.length aLv)) (ok:=(fun _ => True)) (eQ eU.out) hg (.inl rfl));replace bX:=aA.mk (dJ (cH bX) hg (Kd.jE rW.out bX.out (by decide)));replace eI:=aA.mk (dJ (cH eI) hg (Kd.jE rW.out eI.out (by decide)));replace iK:=aA.mk (dJ (cH iK) hg (Kd.jE rW.out iK.out (by decide)));replace rW:=aA.mk (hp_);replace HB:=aA.mk ((by rw [hw];exact eT (HB.out) GB40.out : Below w.heap.size w w48));clear hg hw hp_;have OH:=bO bX 0 (.int .i64 aN) rfl;have OG:=bO bX 1 (.int .i64 aJ) rfl;have OF:=bO bX 2 (.slice bL aT.length bK) rfl;have NS:=aC bX.out 0;have NR:=aC bX.out 1;have NQ:=aC bX.out 2) | ((with_reducible refine bB (f:=62) rfl ?_);refine cS (some 54) rfl rfl Try.func62 (by kernel_rfl) rfl #[.agg #[.int .i64 aN,.int .i64 aJ,.slice bL aT.length bK],.slice (some ⟨go40,0,none⟩) y253.length aLv] rfl (by (try simp only [List.map_toArray,List.map_cons,List.map_nil]);first | done | (rw [show y253.length = y250.length from (Kd.cD rW.out).1.symm] <;> rfl) | rfl | (simp only [List.length_drop,List.length_take];rfl)) ?_;(with_reducible refine (aW.calls k2 aN aJ _ _ aT _ _ y253 aNF aWa aVZ _ ?side1 ?side2 ?side3 ?side4 A41.out).mono ?_);(case side1 => exact pZ (Kd.cV eP.out HB.out));(case side2 => exact eS.out);(case side3 => exact pZ ((Kd.cD rW.out).2.2));(case side4 => rw [show y253.length = y250.length from (Kd.cD rW.out).1.symm];exact (Kd.cD rW.out).2.1);rintro e w50 ⟨aPl,rfl,ho0,hb⟩;refine ⟨_,rfl,?_⟩;have aRP:=aA.mk (Kd.dS (Kd.mM (Kd.mM ho0 (Kd.uX (eQ eU.out))) (Kd.uX (eQ rW.out))) (bU (jU HB mC oW JP)));replace eU:=aA.mk (Kd.gS (eQ eU.out) (Kd.lW ho0) hb);replace rW:=aA.mk (Kd.gS (eQ rW.out) (Kd.lW ho0) hb);replace bX:=aA.mk (aM (cH bX) hb);replace eI:=aA.mk (aM (cH eI) hb);replace iK:=aA.mk (aM (cH iK) hb);replace HB:=aA.mk (aQ (jU HB mC oW JP) hb);(try clear hb);(try clear hb2);(try clear hk);(try clear hi);(try clear ho0)))
            go_loopg [12] k2 (fun kq v12 w' => ∃ (FU : List Int) (mO : Int) (jP : List Int) (oE : Value),v12 = .int .i64 mO∧aA (aU.l1 kq cX FU mO aN aJ aT t244 t245 jP = some (r1,r2,r3,r4))∧aA (kq≤k2)∧aA (Kd.R (Kd.int .u8) 5 w' w.heap.size (fun k_ => some k_≠(oE : Value).ownBlock) aPl FU)∧aA (Kd.R (Kd.int .u8) 5 w' w.heap.size (fun k_ => some k_≠(aPl : Value).ownBlock) oE jP)∧aA (w'.heap[LU]? = some (.cells #[.int .i64 aN,.int .i64 aJ,(.slice bL aT.length bK)] 24 (0,0)))∧aA (w'.heap[BX]? = some (.cells #[.int .i64 0,.int .i64 0,(.slice none 0 0)] 24 (0,0)))∧aA (w'.heap[EE]? = some (.cells #[.int .i64 t244,.int .i64 t245,oE] 24 (0,0)))∧aA (Below w.heap.size w w'))
            case atStart => exact ⟨(aNF),(0),(oB),(oE),nL,H',⟨Nat.le_refl _⟩,⟨by (with_reducible repeat first | apply Kd.cK | apply Kd.cJ | apply Kd.cC);exact Kd.cN aRP.out (fun _ hk => hk.1.2)⟩,⟨by (with_reducible repeat first | apply Kd.cK | apply Kd.cJ | apply Kd.cC);exact Kd.cN eU.out (fun _ hk => hk.2)⟩,⟨gM bX.out⟩,⟨gM eI.out⟩,⟨gM iK.out⟩,⟨jU HB mC oW JP⟩⟩
            case round =>
             clear H';(try clear c1);(try clear c2);(try clear p2);(try clear c3);(try clear c4);(try clear p4);(try clear q4);(try clear hx4);(try clear hf4);(try clear c5);(try clear c6);(try clear c7);(try clear BB);(try clear FR);(try clear YZ);(try clear CE);(try clear ZL);(try clear UZ);(try clear MX);(try clear c25);(try clear c26);(try clear FQ);(try clear c32);(try clear c35);(try clear aMR);(try clear c36);(try clear aRr);(try clear aRq);(try clear c37);(try clear aMQ);(try clear aRp);(try clear c38);(try clear aEB);(try clear c39);(try clear aIE);(try clear p40);(try clear q40);(try clear hx40);(try clear hf40);(try clear OS);(try clear c43);(try clear c45);(try clear jL);(try clear jK);(try clear jJ);(try clear qZ);(try clear qY);(try clear qX);(try clear qW);(try clear qV);(try clear qU);(try clear xM);(try clear xL);(try clear xK);(try clear uV);(try clear uU);(try clear uT);(try clear OQ);(try clear OP);(try clear OO);(try clear YI);(try clear YH);(try clear YG);(try clear IS);(try clear IQ);(try clear IP);(try clear YF);(try clear YE);(try clear YD);(try clear aEd);(try clear aEc);(try clear aEb);(try clear OH);(try clear OG);(try clear OF);(try clear FE);(try clear FD);(try clear FC);(try clear jI);(try clear jH);(try clear jG);(try clear qT);(try clear qS)
             (try clear qR);(try clear qQ);(try clear qP);(try clear qO);(try clear xF);(try clear xE);(try clear xD);(try clear uS);(try clear uR);(try clear uQ);(try clear OB);(try clear OA);(try clear NZ);(try clear XN);(try clear XM);(try clear XL);(try clear IE);(try clear ID);(try clear IC);(try clear XK);(try clear XJ);(try clear XI);(try clear aDF);(try clear aDE);(try clear aDD);(try clear NS);(try clear NR);(try clear NQ);(try clear FB);(try clear FA);(try clear EZ);(try clear hx40_0);(try clear p2);(try clear p40);(try clear q40);obtain ⟨FU,mO,jP,oE,rfl,HA,zN,aGH,eU,bX,eI,iK,HB⟩:=hrel
             cases gk with
             | zero => exact absurd HA.out (by simp [aU.l1])
             | succ k3 =>
              have H:=HA.out;clear HA;simp only [aU.l1] at H
              by_cases c51 : mO < aN
              ·rw [if_pos c51] at H
               have aRk : decide (mO < aN) = true:=decide_eq_true c51;clear c51
               by_cases c52 : 0≤mO
               ·rw [if_pos c52] at H
                have aZd : decide (0≤mO) = true:=decide_eq_true c52;clear c52
                by_cases KT : mO < (FU.length : Int)
                ·rw [if_pos KT] at H
                 have AN : decide (mO < (FU.length : Int)) = true:=decide_eq_true KT;clear KT;obtain ⟨GX,aIe⟩ : ∃ j_ : Int,(wrap64 ((wrap64 (mO * aN)) + cX)) = j_:=⟨_,rfl⟩
                 replace H : (if 0≤(GX) then (if (GX) < (jP.length : Int) then (aU.l1 k3 cX FU (wrap64 (mO + 1)) aN aJ aT t244 t245 (jP.set ((GX) : Int).toNat (rd FU mO))) else (none)) else (none)) = some (r1,r2,r3,r4):=by first | (rw [aIe] at H;exact H) | (simp only [aIe] at H ⊢;exact H)
                 have aWu : (IntKind.i64.wrap ((wrap64 (mO * aN)) + cX)) = GX:=(bE _).trans aIe
                 by_cases c55 : 0≤(GX)
                 ·rw [if_pos c55] at H
                  have aMM : decide (0≤(GX)) = true:=decide_eq_true c55;clear c55
                  by_cases c56 : (GX) < (jP.length : Int)
                  ·rw [if_pos c56] at H
                   have aZb : decide ((GX) < (jP.length : Int)) = true:=decide_eq_true c56;clear c56;obtain ⟨y260,hy260⟩ : ∃ y_ : List Int,y_ = (jP.set ((GX) : Int).toNat (rd FU mO)):=⟨_,rfl⟩
                   replace H : (aU.l1 k3 cX FU (wrap64 (mO + 1)) aN aJ aT t244 t245 y260) = some (r1,r2,r3,r4):=by first | (rw [hy260];with_reducible exact H) | (have H2_:=(Option.bind_some _ _).symm.trans H;rw [hy260];with_reducible exact H2_) | (have H2_:=(Option.bind_some _ _).symm.trans H;with_reducible exact H2_) | with_reducible exact H | (rw [hy260];exact H) | exact H
                   have Ny260:=aA.mk hy260;clear hy260;have H':=aA.mk H;clear H;have aYA:=oT.out;have aXM:=oS.out;have aYz:=pS.out;have aXL:=zF.out;have aVl:=bO bX 0 (.int .i64 aN) rfl;have aVk:=bO bX 1 (.int .i64 aJ) rfl;have aVj:=bO bX 2 (.slice bL aT.length bK) rfl;have aTX:=aC bX.out 0;have aTW:=aC bX.out 1;have aTV:=aC bX.out 2
                   try go_wp2
                   replace aGH:=aA.mk (Kd.cC aGH.out);replace eU:=aA.mk (Kd.cC eU.out);replace bX:=aA.mk (aH bX.out);replace eI:=aA.mk (aH eI.out);replace iK:=aA.mk (aH iK.out);replace HB:=aA.mk (dT HB.out);obtain ⟨aXi,aWV,eo62⟩:=Kd.cM aGH.out
                   (first | subst eo62 | (injection eo62 with f1_ f2_ f3_;have f4_:=f1_.symm;have f5_:=f3_.symm;clear f1_ f2_ f3_;subst f4_;subst f5_));have aNW : 0≤(mO : Int):=of_decide_eq_true mK;have q259 : mO < (FU.length : Int):=of_decide_eq_true mK;obtain ⟨ad259,e259,hx259_0⟩:=Kd.nU (Kd.cD aGH.out).2.2 mO aNW q259
                   cases e259
                   replace aNW:=eq_true aNW;replace q259:=eq_true q259;have p57 : 0≤((GX) : Int):=of_decide_eq_true mK;have q57 : ((GX) : Int) < ((jP.length : Int) : Int):=of_decide_eq_true mK;obtain ⟨go57,aQX,eo57,aQK,gl57,cl57,HG57⟩:=Kd.AE eU.out (by omega)
                   (first | cases eo57 | (injection eo57 with ea_ en_ ec_;(first | subst ea_ | (injection ea_ with ea_;subst ea_));subst ec_;clear en_));have GB57:=aA.mk aQK;have GG57:=aA.mk HG57;clear aQK gl57 HG57;obtain ⟨hx57_0,hf57_0⟩:=Kd.nG 0 eU.out ((GX) : Int) p57 q57;replace p57:=eq_true p57;replace q57:=eq_true q57;have HP63:=Kd.KX eU.out ((GX) : Int) (rd FU mO);rw [← Ny260.out] at HP63;have HQ63:=aA.mk HP63;clear HP63;refine sG (n:=14) (S:=fun w' => w'.cell? ⟨EE,0,none⟩ = some (.int .i64 t244)∧w'.cell? ⟨EE,1,none⟩ = some (.int .i64 t245)∧w'.cell? ⟨EE,2,none⟩ = some (.slice (some ⟨go57,0,none⟩) jP.length aQX)∧w'.cell? ⟨LU,0,none⟩ = some (.int .i64 aN)∧w'.cell? ⟨LU,1,none⟩ = some (.int .i64 aJ)∧w'.cell? ⟨LU,2,none⟩ = some (.slice bL aT.length bK)∧w'.cell? (ad259.add (mO).toNat) = some (.int .u8 (rd FU mO))) (ds:=[13]) #[false,false,false,false,false,false,false,false,false,false,false,false,false,false] (by kernel_rfl) rfl rfl ⟨(aY iK.out 0).trans rfl,(aY iK.out 1).trans rfl,(aY iK.out 2).trans rfl,(aY bX.out 0).trans rfl,(aY bX.out 1).trans rfl,(aY bX.out 2).trans rfl,hx259_0⟩ (fun hHeld => ?_);refine kL aU.aGZ aU.aCF (fun HT_ HW_ => ?_);generalize wr.drew = w61 at aGH eU bX eI iK HB GG57 HQ63 hf57_0 hx259_0 hx57_0 hHeld ⊢
                   refine bY (i:=0) (N:=some 64) (v:=?_) (a':=?_) (eH 14 1) rfl rfl (bS HT_.out (by kernel_rfl)) (fun _ _ _ h => h) (Or.inl ⟨by rfl,?_⟩) ?_ ?_;rotate_left
                   ·intro w'
                    go_simp;(with_reducible rfl)
                   rotate_left
                   ·simp only [Act.put,cO,cL,cP,bE,bJ]
                    rfl
                   refine bY (i:=2) (N:=some 66) (v:=?_) (a':=?_) (eH 14 5) rfl rfl (bS HT_.out (by kernel_rfl)) (fun _ _ _ h => h) (Or.inl ⟨by rfl,?_⟩) ?_ ?_;rotate_left
                   ·intro w'
                    go_simp;(with_reducible rfl)
                   rotate_left
                   ·simp only [Act.put,cO,cL,cP,bE,bJ]
                    rfl
                   refine bY (i:=3) (N:=some 67) (v:=?_) (a':=?_) (eH 14 13) rfl rfl (bS HT_.out (by kernel_rfl)) (fun _ _ _ h => h) (Or.inl ⟨by rfl,?_⟩) ?_ ?_;rotate_left
                   ·intro w'
                    go_simp;(with_reducible rfl)
                   rotate_left
                   ·simp only [Act.put,cO,cL,cP,bE,bJ]
                    rfl
                   refine bY (i:=6) (N:=some 70) (v:=?_) (a':=?_) (eH 14 77) rfl rfl (bS HT_.out (by kernel_rfl)) (fun _ _ _ h => h) (Or.inl ⟨by rfl,?_⟩) ?_ ?_;rotate_left
                   ·intro w'
                    go_simp;(with_reducible rfl)
                   rotate_left
                   ·simp only [Act.put,cO,cL,cP,bE,bJ]
                    rfl
                   refine bY (i:=8) (N:=some 72) (v:=?_) (a':=?_) (eH 14 333) rfl rfl (bS HT_.out (by kernel_rfl)) (fun _ _ _ h => h) (Or.inl ⟨by rfl,?_⟩) ?_ ?_;rotate_left
                   ·intro w'
                    go_simp;(with_reducible rfl)
                   rotate_left
                   ·simp only [Act.put,cO,cL,cP,bE,bJ]
                    rfl
                   refine bY (i:=9) (N:=some 73) (v:=?_) (a':=?_) (eH 14 845) rfl rfl (bS HT_.out (by kernel_rfl)) (fun _ _ _ h => h) (Or.inl ⟨by rfl,?_⟩) ?_ ?_;rotate_left
                   ·intro w'
                    go_simp;(with_reducible rfl)
                   rotate_left
                   ·simp only [Act.put,cO,cL,cP,bE,bJ]
                    rfl
                   refine bY (i:=10) (N:=some 74) (v:=?_) (a':=?_) (eH 14 1869) rfl rfl (bS HT_.out (by kernel_rfl)) (fun _ _ _ h => h) (Or.inl ⟨by rfl,?_⟩) ?_ ?_;rotate_left
                   ·intro w'
                    go_simp;(with_reducible rfl)
                   rotate_left
                   ·simp only [Act.put,cO,cL,cP,bE,bJ]
                    rfl
                   refine gP (i:=1) (N:=some 65) (v:=?_) (a':=?_) (eH 14 1871) rfl rfl (dM HT_.out HW_.out (by kernel_rfl)) (fun _ _ _ h => h) (Or.inl ⟨by rfl,?_⟩) hHeld ?_ ?_;rotate_left
                   ·rintro w' ⟨s0,s1,s2,s3,s4,s5,s6⟩
                    go_simp;(with_reducible rfl)
                   rotate_left
                   ·simp only [Act.put,cO,cL,cP,bE,bJ]
                    rfl
                   refine gP (i:=4) (N:=some 68) (v:=?_) (a':=?_) (eH 14 1887) rfl rfl (dM HT_.out HW_.out (by kernel_rfl)) (fun _ _ _ h => h) (Or.inl ⟨by rfl,?_⟩) hHeld ?_ ?_;rotate_left
                   ·rintro w' ⟨s0,s1,s2,s3,s4,s5,s6⟩
                    go_simp;(with_reducible rfl)
                   rotate_left
                   ·simp only [Act.put,cO,cL,cP,bE,bJ]
                    rfl
                   refine bY (i:=5) (N:=some 69) (v:=?_) (a':=?_) (eH 14 1919) rfl rfl (bS HT_.out (by kernel_rfl)) (fun _ _ _ h => h) (Or.inl ⟨by rfl,?_⟩) ?_ ?_;rotate_left
                   ·intro w'
                    go_simp;(with_reducible rfl)
                   rotate_left
                   ·simp only [Act.put,cO,cL,cP,bE,bJ]
                    rfl
                   refine bY (i:=7) (N:=some 71) (v:=?_) (a':=?_) (eH 14 2047) rfl rfl (bS HT_.out (by kernel_rfl)) (fun _ _ _ h => h) (Or.inl ⟨by rfl,?_⟩) ?_ ?_;rotate_left
                   ·intro w'
                    go_simp;(with_reducible rfl)
                   rotate_left
                   ·simp only [Act.put,cO,cL,cP,bE,bJ]
                    rfl
                   refine gP (i:=11) (N:=some 75) (v:=?_) (a':=?_) (eH 14 4095) rfl rfl (dM HT_.out HW_.out (by kernel_rfl)) (fun _ _ _ h => h) (Or.inl ⟨by rfl,?_⟩) hHeld ?_ ?_;rotate_left
                   ·rintro w' ⟨s0,s1,s2,s3,s4,s5,s6⟩
                    go_simp;(with_reducible rfl)
                   rotate_left
                   ·simp only [Act.put,cO,cL,cP,bE,bJ]
                    rfl
                   refine bY (i:=12) (N:=some 76) (v:=?_) (a':=?_) (eH 14 8191) rfl rfl (bS HT_.out (by kernel_rfl)) (fun _ _ _ h => h) (Or.inl ⟨by rfl,?_⟩) ?_ ?_;rotate_left
                   ·intro w'
                    go_simp;(with_reducible rfl)
                   rotate_left
                   ·simp only [Act.put,cO,cL,cP,bE,bJ]
                    rfl
                   refine QH (i:=13) (N:=none) (eH 14 16383) rfl rfl (jO HT_.out (by kernel_rfl)) (by decide) (fun K hK => ?_);refine LI (w1:=?_) (by rfl) rfl ?_ ?_;rotate_left
                   ·go_simp
                    rfl
                   refine hK.out _ _ ?_;clear hK K;refine yV (rJ HT_.out (by kernel_rfl)) ?_
                   try go_wp2
                   go_roundg k3
                   case measure => have:=HJ1.out;have:=vJ.out;have:=zN.out;omega
                   case rel => exact ⟨(FU),(wrap64 (mO + 1)),(y260),(.slice (some ⟨go57,0,none⟩) jP.length aQX),nL,H',⟨by have:=HJ1.out;have:=vJ.out;have:=zN.out;omega⟩,⟨by (with_reducible repeat first | apply Kd.cK | apply Kd.cJ | apply Kd.cC);exact Kd.cN (Kd.dD (p:=⟨go57,((GX) : Int).toNat,none⟩) (Kd.cN aGH.out (fun k_ hk => (⟨hk,fun e_ => hk (by rw [e_];rfl)⟩ : _∧k_≠go57))) (fun _ hk => hk.2) (.int .u8 (rd FU mO))) (fun _ hk => hk.1)⟩,⟨eQ HQ63.out⟩,⟨by (with_reducible repeat first | apply aD | apply aH | apply aE);refine bF ?_ (by have h_:=Kd.jE eU.out bX.out (by decide);intro e_;exact h_ (by rw [e_];rfl)) _;(with_reducible repeat first | apply aD | apply aH | apply aE);exact bX.out⟩,⟨by (with_reducible repeat first | apply aD | apply aH | apply aE);refine bF ?_ (by have h_:=Kd.jE eU.out eI.out (by decide);intro e_;exact h_ (by rw [e_];rfl)) _;(with_reducible repeat first | apply aD | apply aH | apply aE);exact eI.out⟩,⟨by (with_reducible repeat first | apply aD | apply aH | apply aE);refine bF ?_ (by have h_:=Kd.jE eU.out iK.out (by decide);intro e_;exact h_ (by rw [e_];rfl)) _;(with_reducible repeat first | apply aD | apply aH | apply aE);exact iK.out⟩,⟨wL HB GB57 mC oW JP⟩⟩
                  ·rw [if_neg c56] at H
                   exact absurd H (by simp)
                 ·rw [if_neg c55] at H
                  exact absurd H (by simp)
                ·rw [if_neg KT] at H
                 exact absurd H (by simp)
               ·rw [if_neg c52] at H
                exact absurd H (by simp)
              ·rw [if_neg c51] at H
               have aRk : decide (mO < aN) = false:=decide_eq_false c51;clear c51;have H':=aA.mk H;clear H;have aQo:=oT.out;have aPQ:=oS.out;have aYv:=pS.out;have aXH:=zF.out;have aUZ:=bO bX 0 (.int .i64 aN) rfl;have aUY:=bO bX 1 (.int .i64 aJ) rfl;have aUX:=bO bX 2 (.slice bL aT.length bK) rfl;have aTL:=aC bX.out 0;have aTK:=aC bX.out 1;have aTJ:=aC bX.out 2
               go_wp2
               go_roundg k3
               case measure => have:=HJ1.out;have:=vJ.out;have:=zN.out;omega
               case rel => exact ⟨(wrap64 (cX + 1)),(jP),(oE),nL,H',⟨by have:=HJ1.out;have:=vJ.out;have:=zN.out;omega⟩,⟨by (with_reducible repeat first | apply Kd.cK | apply Kd.cJ | apply Kd.cC);exact Kd.cN eU.out (fun _ hk => trivial)⟩,⟨gM bX.out⟩,⟨gM eI.out⟩,⟨gM iK.out⟩,⟨jU HB mC oW JP⟩⟩
           ·rw [if_neg c39] at H
            exact absurd H (by simp)
          ·rw [if_neg c38] at H
           exact absurd H (by simp)
         ·rw [if_neg c37] at H
          exact absurd H (by simp)
        ·rw [if_neg c36] at H
         exact absurd H (by simp)
       ·rw [if_neg c35] at H
        have aMR : decide (cX < aN) = false:=decide_eq_false c35;clear c35;simp only [Option.some.injEq,Prod.mk.injEq] at H;obtain ⟨rfl,rfl,rfl,rfl⟩:=H;have aQn:=oT.out;have aPP:=oS.out;have aQm:=pS.out;have aPO:=zF.out;have aLd:=bO bX 0 (.int .i64 aN) rfl;have aLc:=bO bX 1 (.int .i64 aJ) rfl;have aLb:=bO bX 2 (.slice bL aT.length bK) rfl;have aKI:=aC bX.out 0;have aKH:=aC bX.out 1;have aKG:=aC bX.out 2;have aMw:=VF.out;have aMp:=zG.out;have aLa:=bO iK 0 (.int .i64 t244) rfl;have aKZ:=bO iK 1 (.int .i64 t245) rfl;have aKY:=bO iK 2 oE rfl;have aKF:=aC iK.out 0;have aKE:=aC iK.out 1;have aKD:=aC iK.out 2;have aKX:=bO eI 0 (.int .i64 0) rfl;have aKW:=bO eI 1 (.int .i64 0) rfl;have aKV:=bO eI 2 (.slice none 0 0) rfl;have aKC:=aC eI.out 0;have aKB:=aC eI.out 1;have aKA:=aC eI.out 2;obtain ⟨aSu,aQV,eo73⟩:=Kd.cM eU.out;subst eo73
        go_wp2
        refine bodyPost_ret (dE rfl _ _ BX 24 #[.int .i64 t244,.int .i64 t245,.slice aSu oB.length aQV] (0,0) _ rfl (by (with_reducible repeat first | apply aD | apply aH | apply aE);refine bA (cs:=#[.int .i64 t244,.int .i64 t245,.slice none 0 0]) ?_ 2 _ rfl;(with_reducible repeat first | apply aD | apply aH | apply aE);refine bA (cs:=#[.int .i64 t244,.int .i64 0,.slice none 0 0]) ?_ 1 _ rfl;(with_reducible repeat first | apply aD | apply aH | apply aE);refine bA (cs:=#[.int .i64 0,.int .i64 0,.slice none 0 0]) ?_ 0 _ rfl;(with_reducible repeat first | apply aD | apply aH | apply aE);exact eI.out) Try.underlying24 rfl (by kernel_rfl)) rfl ?_;exact ⟨_,uB,by (with_reducible repeat first | apply Kd.cK | apply Kd.cJ | apply Kd.cC);exact Kd.cN (Kd.dD (p:=⟨BX,2,none⟩) (Kd.dD (p:=⟨BX,1,none⟩) (Kd.dD (p:=⟨BX,0,none⟩) (Kd.eC eU.out eI.out (by decide)) (fun _ hk => hk.2) (.int .i64 t244)) (fun _ hk => hk.2) (.int .i64 t245)) (fun _ hk => hk.2) (.slice aSu oB.length aQV)) (fun _ hk => trivial),jU HB mC oW JP⟩
def dP.f (l0 : List Int) : Option (List Int):=(some (([] : List Int) : List Int)).bind fun y261 => (if y261.length + l0.length < 140737488355328 then (some (y261 ++ l0)) else (none))
theorem dP.calls (A0 : Option Addr) (c0 : Nat) (l0 : List Int) (r : List Int) (w : World) (hr0 : Kd.C (Kd.int .u8) w A0 l0.length l0) (hc0 : l0.length≤c0) (h : dP.f l0 = some r) :
  Calls Try.prog 41 #[.slice A0 l0.length c0] w fun e w' => ∃ v0_ : Value,e = .returned (v0_)∧Kd.R (Kd.int .u8) 5 w' w.heap.size (fun _ => True) v0_ r∧Below w.heap.size w w':=by
 have HR0:=aA.mk hr0;have HC0:=aA.mk hc0;clear hr0 hc0;have HB:=aA.mk (Below.refl w.heap.size w);have H : ((some (([] : List Int) : List Int)).bind fun y261 => (if y261.length + l0.length < 140737488355328 then (some (y261 ++ l0)) else (none))) = some r:=h;clear h;obtain ⟨y261,hy261⟩ : ∃ y_ : List Int,y_ = (([] : List Int)):=⟨_,rfl⟩
 replace H : (if y261.length + l0.length < 140737488355328 then (some (y261 ++ l0)) else (none)) = some r:=by first | (rw [hy261];with_reducible exact H) | (have H2_:=(Option.bind_some _ _).symm.trans H;rw [hy261];with_reducible exact H2_) | (have H2_:=(Option.bind_some _ _).symm.trans H;with_reducible exact H2_) | with_reducible exact H | (rw [hy261];exact H) | exact H
 have Ny261:=aA.mk hy261;clear hy261
 by_cases c2 : y261.length + l0.length < 140737488355328
 ·rw [if_pos c2] at H
  have LMc2:=aA.mk c2;clear c2;obtain ⟨y264,hy264⟩ : ∃ y_ : List Int,y_ = (y261 ++ l0):=⟨_,rfl⟩
  replace H : (some y264) = some r:=by first | (rw [hy264];with_reducible exact H) | (have H2_:=(Option.bind_some _ _).symm.trans H;rw [hy264];with_reducible exact H2_) | (have H2_:=(Option.bind_some _ _).symm.trans H;with_reducible exact H2_) | with_reducible exact H | (rw [hy264];exact H) | exact H
  have Ny264:=aA.mk hy264;clear hy264;obtain rfl:=Option.some.inj H;go_enter Try.func41,Try.ntmps41;go_wp2_with (first | ((with_reducible refine bH (N:=3) rfl ?_);refine Kd.aJa (Kd.int .u8) _ 5 ?hg (N:=3) ?hd (xs:=([] : List Int)) (inner:=[]) (ok:=fun _ => True) (okp:=fun _ => True) ?hr ?hp (fun _ hk => hk) trivial (Below.refl _ _) (Nat.le_refl _) (by simp) ?_;(case hd => rfl);(case hg => rfl);(case hr => first | (go_simp;done) | (go_simp;rfl));(case hp => exact (eF.none _ _));intro aVR w3 ho4 hb hg_ hnew_;clear hg_ hnew_;(first | rw [← Ny261.out] at ho4 | (simp only [Int.reduceToNat] at ho4;rw [← Ny261.out] at ho4));have aNe:=aA.mk (Kd.dS ho4 (bU (cG HB)));replace HB:=aA.mk (aQ (cG HB) hb);clear hb ho4) | ((with_reducible refine rH (b:=.append) (xs:=#[.tmp 3,.tmp 4]) rfl ?_);at_builtin;refine Kd.yJ (Kd.int .u8) (w0:=w) w.heap.size rfl (.tmp 3) (.tmp 4) 22 5 (.int .u8 0) 1 rfl Try.underlying22 yS rfl (by decide) (by omega) aVR y261 l0 _ _ _ (fun _ => True) (fun _ => False) rfl rfl ?aO ?aR (fun _ _ h => h) (fun _ h => h.elim) ?aF ?aB ?aS ?aL ?_;(case aR => exact pZ (Kd.cV HR0.out HB.out));(case aB => exact (cG HB));(case aF => exact (fun _ _ => trivial));(case aO => exact (eQ aNe.out));(case aS => exact (bU (cG HB)));(case aL => have:=LMc2.out;omega);intro bAm w5 ho hb hg hat;rw [← Ny264.out] at ho;have tN:=aA.mk (hb);have tM:=aA.mk (ho);clear HB aNe;have HB:=tN;have aRO:=tM;clear tN tM;clear ho hb hg hat))
  go_ret;exact ⟨_,uB,eQ aRO.out,cG HB⟩
 ·rw [if_neg c2] at H
  exact absurd H (by simp)
end Go.Proofs.Yteofcbkjhdadpaa.Pr
