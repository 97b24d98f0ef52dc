import Derived.Test.YteofcbkjhdadpaaCBuildTopsx0
import Derived.Test.YteofcbkjhdadpaaCBuildTopsx1
import Derived.Test.YteofcbkjhdadpaaCBuildTopsx2
import Derived.Test.YteofcbkjhdadpaaCBuildTopsq
set_option maxHeartbeats 8000000
set_option maxRecDepth 100000
set_option linter.unusedSimpArgs false
set_option linter.unusedVariables false
namespace Go.Proofs.Yteofcbkjhdadpaa.Pr
open Go.RowKit Go.Proofs.aI.bE Go.Proofs.aI.fB Go.Proofs.aI.iS
attribute [local go_sem] kQ kO nK nJ jD jC kP kN   -- for this text's walks alone
mutual
def aX.j0 : Nat→Bool→Int→Int→List Int→Int→Int→List Int→Option (Int×Int×List Int×Int)
 | 0,_,_,_,_,_,_,_ => none
 | k + 1,x24,tN,uW,xD,xC,tM,xB => if x24 = true then (some (0,0,([] : List Int),3)) else ((eK.f tN tM).bind fun YG => (aX.l0 k 0 tN uW xD xC tM xB YG.1 YG.2.1 YG.2.2))
def aX.l0 : Nat→Int→Int→Int→List Int→Int→Int→List Int→Int→Int→List Int→Option (Int×Int×List Int×Int)
 | 0,_,_,_,_,_,_,_,_,_,_ => none
 | k + 1,x7,tN,uW,xD,xC,tM,xB,AR,tL,xA => if x7 < tN then (aX.l1 k x7 0 tN uW xD xC tM xB AR tL xA) else (some (AR,tL,xA,0))
def aX.l1 : Nat→Int→Int→Int→Int→List Int→Int→Int→List Int→Int→Int→List Int→Option (Int×Int×List Int×Int)
 | 0,_,_,_,_,_,_,_,_,_,_,_ => none
 | k + 1,x7,x8,tN,uW,xD,xC,tM,xB,AR,tL,xA => if x8 < tM then (aX.l2 k x7 x8 0 tN uW xD xC tM xB AR tL xA) else (aX.l0 k (wrap64 (x7 + 1)) tN uW xD xC tM xB AR tL xA)
def aX.l2 : Nat→Int→Int→Int→Int→Int→List Int→Int→Int→List Int→Int→Int→List Int→Option (Int×Int×List Int×Int)
 | 0,_,_,_,_,_,_,_,_,_,_,_,_ => none
 | k + 1,x7,x8,x9,tN,uW,xD,xC,tM,xB,AR,tL,xA => if x9 < uW then (if 0≤(wrap64 ((wrap64 (x7 * tL)) + x8)) then (if (wrap64 ((wrap64 (x7 * tL)) + x8)) < (xA.length : Int) then ((cQ.f tN uW xD x7 x9).bind fun aBy => ((cQ.f xC tM xB x9 x8).bind fun ZQ => ((dH.f aBy ZQ).bind fun UE => (aX.l2 k x7 x8 (wrap64 (x9 + 1)) tN uW xD xC tM xB AR tL (xA.set ((wrap64 ((wrap64 (x7 * tL)) + x8)) : Int).toNat (Go.bits .xor .u8 (rd xA (wrap64 ((wrap64 (x7 * tL)) + x8))) UE)))))) else (none)) else (none)) else (aX.l1 k x7 (wrap64 (x8 + 1)) tN uW xD xC tM xB AR tL xA)
end
def aX.f (k : Nat) (aQ : Int) (aK : Int) (aV : List Int) (fU : Int) (fT : Int) (gA : List Int) : Option (Int×Int×List Int×Int):=(bF.f aQ aK aV).bind fun aIn => (if aIn = true then ((bF.f fU fT gA).bind fun ZR => (if ZR = true then (aX.j0 k (aK != fU) aQ aK aV fU fT gA) else (aX.j0 k true aQ aK aV fU fT gA))) else (aX.j0 k true aQ aK aV fU fT gA))
def aX.T13 : Bool×List (List Nat×List Nat):=(true,[([],[]),([0],[0]),([],[]),([],[]),([3],[3]),([2,4],[2,4]),([],[]),([5,6],[5,6]),([1,7],[1,7]),([8],[8]),([],[]),([],[]),([],[]),([10,11,12],[10,11,12]),([],[]),([],[]),([],[]),([14,15,16,13],[14,15,16]),([13,17,17],[13,17]),([9,18],[9,18]),([1,7,0,1,2,3,4,5,6,7,8,9,10,11,12,13,14,15,16,17,18,19],[1,7]),([20,19,18,0,1,2,3,4,5,6,7,8,9,10,11,12,13,14,15,16,17,18,19],[19,20])])
def aX.B13 : List Nat:=[0,1,0,0,8,28,0,124,255,511,0,0,0,7168,0,0,0,130048,261120,524287,1048575,2097151]
theorem aX.aKD : rV .any (opsOf Try.f53 13) = aX.T13:=by kernel_rfl
theorem aX.aFY : mQ aX.T13.2 aX.B13 = true:=by kernel_rfl
theorem aX.calls (k : Nat) (aQ : Int) (aK : Int) (cG : Option Addr) (cF : Nat) (aV : List Int) (fU : Int) (fT : Int) (vP : Option Addr) (vI : Nat) (gA : List Int) (r1 : Int) (r2 : Int) (r3 : List Int) (r4 : Int) (w : World) (hr0_2 : Kd.C (Kd.int .u8) w cG aV.length aV) (hc0_2 : aV.length≤cF) (hr1_2 : Kd.C (Kd.int .u8) w vP gA.length gA) (hc1_2 : gA.length≤vI) (h : aX.f k aQ aK aV fU fT gA = some (r1,r2,r3,r4)) :
  Calls Try.prog 53 #[.agg #[.int .i64 aQ,.int .i64 aK,.slice cG aV.length cF],.agg #[.int .i64 fU,.int .i64 fT,.slice vP gA.length vI]] w fun e w' => ∃ vQ : Value,e = .returned (.tuple #[.agg #[.int .i64 r1,.int .i64 r2,vQ],.int .i64 r4])∧Kd.R (Kd.int .u8) 5 w' w.heap.size (fun _ => True) vQ r3∧Below w.heap.size w w':=by
 have CQ:=Try.underlying24;have iH:=aA.mk hr0_2;have iN:=aA.mk hc0_2;clear hr0_2 hc0_2;have aED:=aA.mk hr1_2;have aEG:=aA.mk hc1_2;clear hr1_2 hc1_2;have HB:=aA.mk (Below.refl w.heap.size w);have H : ((bF.f aQ aK aV).bind fun aIn => (if aIn = true then ((bF.f fU fT gA).bind fun ZR => (if ZR = true then (aX.j0 k (aK != fU) aQ aK aV fU fT gA) else (aX.j0 k true aQ aK aV fU fT gA))) else (aX.j0 k true aQ aK aV fU fT gA))) = some (r1,r2,r3,r4):=h;clear h;have HC3:=aA.mk H;clear H;go_enter Try.func53,Try.ntmps53;go_upto_region 1 with (first | ((with_reducible refine bU (N:=2) rfl ?_);refine pG (N:=2) (cs:=#[.int .i64 aQ,.int .i64 aK,.slice cG aV.length cF]) (t:=24) ?_;intro QW hg w4 hbox hb;have dB:=aA.mk (hbox);have bHO:=aA.mk (gE hg (dN HB) : w.heap.size≤QW);have nU:=aA.mk (gE hg (dN HB) : w.heap.size≤QW);replace HB:=aA.mk (aM (dN HB) hb);clear hb hbox hg) | ((with_reducible refine bU (N:=3) rfl ?_);refine pG (N:=3) (cs:=#[.int .i64 fU,.int .i64 fT,.slice vP gA.length vI]) (t:=24) ?_;intro QV hg w5 hbox hb;have dS:=aA.mk (hbox);have bHN:=aA.mk (gE hg (dR HB nU) : w.heap.size≤QV);have pD:=aA.mk (gE hg (dR HB nU) : w.heap.size≤QV);replace HB:=aA.mk (aM (dR HB nU) hb);have qQ:=aA.mk (lQ hg (bT dB));have qP:=aA.mk (lR hg (bT dB));replace dB:=aA.mk (aH (bT dB) hb);clear hb hbox hg) | ((with_reducible refine bU (N:=4) rfl ?_);refine pG (N:=4) (cs:=#[.int .i64 0,.int .i64 0,.slice none 0 0]) (t:=24) ?_;intro HQ hg w6 hbox hb;have gN:=aA.mk (hbox);have bHM:=aA.mk (gE hg (eA HB nU pD) : w.heap.size≤HQ);have sH:=aA.mk (gE hg (eA HB nU pD) : w.heap.size≤HQ);replace HB:=aA.mk (aM (eA HB nU pD) hb);have sS:=aA.mk (lQ hg (bT dB));have sR:=aA.mk (lR hg (bT dB));replace dB:=aA.mk (aH (bT dB) hb);have wZ:=aA.mk (lQ hg (bT dS));have wX:=aA.mk (lR hg (bT dS));replace dS:=aA.mk (aH (bT dS) hb);clear hb hbox hg))
 (try simp only [Act.put,cV,cT,cW])
 go_cut [24] (fun v24 wc => ∃ (kq : Nat) (NY : Bool),v24 = .bool NY∧aA (aX.j0 kq NY aQ aK aV fU fT gA = some (r1,r2,r3,r4))∧aA (kq≤k)∧aA (wc.heap[QW]? = some (.cells #[.int .i64 aQ,.int .i64 aK,(.slice cG aV.length cF)] 24 (0,0)))∧aA (wc.heap[QV]? = some (.cells #[.int .i64 fU,.int .i64 fT,(.slice vP gA.length vI)] 24 (0,0)))∧aA (wc.heap[HQ]? = some (.cells #[.int .i64 0,.int .i64 0,(.slice none 0 0)] 24 (0,0)))∧aA (Below w.heap.size w wc))
 case first =>
  have H:=HC3.out;clear HC3;replace H:=Option.bind_eq_some_iff.mp H;obtain ⟨aIn,A70,H⟩:=H;replace H : (if aIn = true then ((bF.f fU fT gA).bind fun ZR => (if ZR = true then (aX.j0 k (aK != fU) aQ aK aV fU fT gA) else (aX.j0 k true aQ aK aV fU fT gA))) else (aX.j0 k true aQ aK aV fU fT gA)) = some (r1,r2,r3,r4):=H;have A7:=aA.mk A70;clear A70
  by_cases c8 : aIn = true
  ·subst c8
   have H1 : ((bF.f fU fT gA).bind fun ZR => (if ZR = true then (aX.j0 k (aK != fU) aQ aK aV fU fT gA) else (aX.j0 k true aQ aK aV fU fT gA))) = some (r1,r2,r3,r4):=by rw [if_pos rfl] at H;exact H
   clear H;have H:=H1;clear H1;replace H:=Option.bind_eq_some_iff.mp H;obtain ⟨ZR,A90,H⟩:=H;replace H : (if ZR = true then (aX.j0 k (aK != fU) aQ aK aV fU fT gA) else (aX.j0 k true aQ aK aV fU fT gA)) = some (r1,r2,r3,r4):=H;have A9:=aA.mk A90;clear A90
   by_cases NF : ZR = true
   ·subst NF
    have H1 : (aX.j0 k (aK != fU) aQ aK aV fU fT gA) = some (r1,r2,r3,r4):=by rw [if_pos rfl] at H;exact H
    clear H;have H:=H1;clear H1;have H':=aA.mk H;clear H;have aDS:=qQ.out;have aDQ:=qP.out;have aRn:=sS.out;have aQY:=sR.out;have nQ:=bR dB 0 (.int .i64 aQ) rfl;have nP:=bR dB 1 (.int .i64 aK) rfl;have nO:=bR dB 2 (.slice cG aV.length cF) rfl;have nN:=aD dB.out 0;have nM:=aD dB.out 1;have nL:=aD dB.out 2;go_wp2_with (first | ((with_reducible refine bN (f:=17) rfl ?_);refine eB (some 11) rfl rfl Try.func17 (by kernel_rfl) rfl #[.agg #[.int .i64 aQ,.int .i64 aK,.slice cG aV.length cF]] rfl pX ?_;(with_reducible refine (bF.calls aQ aK _ _ aV true _ ?side1 ?side2 A7.out).mono ?_);(case side1 => exact sW (Kd.eN iH.out HB.out));(case side2 => exact iN.out);rintro e w14 ⟨rfl,hb⟩;refine ⟨_,rfl,?_⟩;replace dB:=aA.mk (aH (bT dB) hb);replace dS:=aA.mk (aH (bT dS) hb);replace gN:=aA.mk (aH (bT gN) hb);replace HB:=aA.mk (aM (jU HB nU pD sH) hb);(try clear hb);(try clear hb2);(try clear hk);(try clear hi);have aDR:=wZ.out;have aDP:=wX.out;have tW:=bR dS 0 (.int .i64 fU) rfl;have tV:=bR dS 1 (.int .i64 fT) rfl;have tU:=bR dS 2 (.slice vP gA.length vI) rfl;have tT:=aD dS.out 0;have tS:=aD dS.out 1;have tR:=aD dS.out 2) | (go_at_call 17;(with_reducible refine (bF.calls fU fT _ _ gA true _ ?side1 ?side2 A9.out).mono ?_);(case side1 => exact sW (Kd.eN aED.out HB.out));(case side2 => exact aEG.out);rintro e w17 ⟨rfl,hb⟩;replace dB:=aA.mk (aH (bT dB) hb);replace dS:=aA.mk (aH (bT dS) hb);replace gN:=aA.mk (aH (bT gN) hb);replace HB:=aA.mk (aM (jU HB nU pD sH) hb);(try clear hb);(try clear hb2);(try clear hk);(try clear hi);have vG:=bR dB 0 (.int .i64 aQ) rfl;have vF:=bR dB 1 (.int .i64 aK) rfl;have vE:=bR dB 2 (.slice cG aV.length cF) rfl;have vD:=aD dB.out 0;have vC:=aD dB.out 1;have vB:=aD dB.out 2;have xK:=bR dS 0 (.int .i64 fU) rfl;have xJ:=bR dS 1 (.int .i64 fT) rfl;have xI:=bR dS 2 (.slice vP gA.length vI) rfl;have xH:=aD dS.out 0;have xG:=aD dS.out 1;have xF:=aD dS.out 2))
    go_meet
    case rel => exact ⟨_,((aK != fU)),rT,H',⟨q_o⟩,⟨hJ dB.out⟩,⟨hJ dS.out⟩,⟨hJ gN.out⟩,⟨jU HB nU pD sH⟩⟩
   ·replace NF:=Bool.eq_false_iff.mpr NF
    subst NF;have H1 : (aX.j0 k true aQ aK aV fU fT gA) = some (r1,r2,r3,r4):=by rw [if_neg (show ¬ (false = true) by decide)] at H;exact H
    clear H;have H:=H1;clear H1;have H':=aA.mk H;clear H;have aVj:=qQ.out;have aUO:=qP.out;have aRm:=sS.out;have aQX:=sR.out;have BW:=bR dB 0 (.int .i64 aQ) rfl;have BV:=bR dB 1 (.int .i64 aK) rfl;have BU:=bR dB 2 (.slice cG aV.length cF) rfl;have BH:=aD dB.out 0;have BG:=aD dB.out 1;have BF:=aD dB.out 2;go_wp2_with (first | ((with_reducible refine bN (f:=17) rfl ?_);refine eB (some 11) rfl rfl Try.func17 (by kernel_rfl) rfl #[.agg #[.int .i64 aQ,.int .i64 aK,.slice cG aV.length cF]] rfl pX ?_;(with_reducible refine (bF.calls aQ aK _ _ aV true _ ?side1 ?side2 A7.out).mono ?_);(case side1 => exact sW (Kd.eN iH.out HB.out));(case side2 => exact iN.out);rintro e w23 ⟨rfl,hb⟩;refine ⟨_,rfl,?_⟩;replace dB:=aA.mk (aH (bT dB) hb);replace dS:=aA.mk (aH (bT dS) hb);replace gN:=aA.mk (aH (bT gN) hb);replace HB:=aA.mk (aM (jU HB nU pD sH) hb);(try clear hb);(try clear hb2);(try clear hk);(try clear hi);have aRk:=wZ.out;have aQV:=wX.out;have BR:=bR dS 0 (.int .i64 fU) rfl;have BQ:=bR dS 1 (.int .i64 fT) rfl;have BP:=bR dS 2 (.slice vP gA.length vI) rfl;have BE:=aD dS.out 0;have BD:=aD dS.out 1;have BC:=aD dS.out 2) | (go_at_call 17;(with_reducible refine (bF.calls fU fT _ _ gA false _ ?side1 ?side2 A9.out).mono ?_);(case side1 => exact sW (Kd.eN aED.out HB.out));(case side2 => exact aEG.out);rintro e w26 ⟨rfl,hb⟩;replace dB:=aA.mk (aH (bT dB) hb);replace dS:=aA.mk (aH (bT dS) hb);replace gN:=aA.mk (aH (bT gN) hb);replace HB:=aA.mk (aM (jU HB nU pD sH) hb);(try clear hb);(try clear hb2);(try clear hk);(try clear hi)))
    go_meet
    case rel => exact ⟨_,(true),rT,H',⟨q_o⟩,⟨hJ dB.out⟩,⟨hJ dS.out⟩,⟨hJ gN.out⟩,⟨jU HB nU pD sH⟩⟩
  ·replace c8:=Bool.eq_false_iff.mpr c8
   subst c8;have H1 : (aX.j0 k true aQ aK aV fU fT gA) = some (r1,r2,r3,r4):=by rw [if_neg (show ¬ (false = true) by decide)] at H;exact H
   clear H;have H:=H1;clear H1;have H':=aA.mk H;clear H;have aRj:=qQ.out;have aQU:=qP.out;have aRi:=sS.out;have aQT:=sR.out;have FF:=bR dB 0 (.int .i64 aQ) rfl;have FE:=bR dB 1 (.int .i64 aK) rfl;have FD:=bR dB 2 (.slice cG aV.length cF) rfl;have EZ:=aD dB.out 0;have EY:=aD dB.out 1;have EX:=aD dB.out 2;go_wp2_with (first | ((with_reducible refine bN (f:=17) rfl ?_);refine eB (some 11) rfl rfl Try.func17 (by kernel_rfl) rfl #[.agg #[.int .i64 aQ,.int .i64 aK,.slice cG aV.length cF]] rfl pX ?_;(with_reducible refine (bF.calls aQ aK _ _ aV false _ ?side1 ?side2 A7.out).mono ?_);(case side1 => exact sW (Kd.eN iH.out HB.out));(case side2 => exact iN.out);rintro e w30 ⟨rfl,hb⟩;refine ⟨_,rfl,?_⟩;replace dB:=aA.mk (aH (bT dB) hb);replace dS:=aA.mk (aH (bT dS) hb);replace gN:=aA.mk (aH (bT gN) hb);replace HB:=aA.mk (aM (jU HB nU pD sH) hb);(try clear hb);(try clear hb2);(try clear hk);(try clear hi)))
   go_meet
   case rel => exact ⟨_,(true),rT,H',⟨q_o⟩,⟨hJ dB.out⟩,⟨hJ dS.out⟩,⟨hJ gN.out⟩,⟨jU HB nU pD sH⟩⟩
 case rest =>
  clear HC3;(try clear c1);(try clear c2);(try clear p2);(try clear c5);(try clear c8);(try clear NF);(try clear CV);(try clear yK);(try clear c15);(try clear UK);(try clear ZF);(try clear EH);(try clear c24);(try clear c27);(try clear c28);(try clear nQ);(try clear nP);(try clear nO);(try clear tW);(try clear tV);(try clear tU);(try clear vG);(try clear vF);(try clear vE);(try clear xK);(try clear xJ);(try clear xI);(try clear BW);(try clear BV);(try clear BU);(try clear BR);(try clear BQ);(try clear BP);(try clear FF);(try clear FE);(try clear FD);(try clear nN);(try clear nM);(try clear nL);(try clear tT);(try clear tS);(try clear tR);(try clear vD);(try clear vC);(try clear vB);(try clear xH);(try clear xG);(try clear xF);(try clear BH);(try clear BG);(try clear BF);(try clear BE);(try clear BD);(try clear BC);(try clear EZ);(try clear EY);(try clear EX);obtain ⟨kq,NY,rfl,HA,HJ2,dB,dS,gN,HB⟩:=hcut
  cases kq with
  | zero => exact absurd HA.out (by simp [aX.j0])
  | succ kj2 =>
   have H:=HA.out;clear HA;simp only [aX.j0] at H
   by_cases ZE : NY = true
   ·subst ZE
    have H1 : (some (0,0,([] : List Int),3)) = some (r1,r2,r3,r4):=by rw [if_pos rfl] at H;exact H
    clear H;have H:=H1;clear H1;simp only [Option.some.injEq,Prod.mk.injEq] at H;obtain ⟨rfl,rfl,rfl,rfl⟩:=H;have aRh:=sR.out;have aQS:=sS.out;have aRg:=wX.out;have aQR:=wZ.out;have BO:=bR gN 0 (.int .i64 0) rfl;have BN:=bR gN 1 (.int .i64 0) rfl;have BM:=bR gN 2 (.slice none 0 0) rfl;have BB:=aD gN.out 0;have BA:=aD gN.out 1;have AZ:=aD gN.out 2
    go_wp2
    refine bodyPost_ret (dX rfl _ _ HQ 24 #[.int .i64 0,.int .i64 0,.slice none 0 0] (0,0) _ rfl (by (with_reducible repeat first | apply aE | apply aG | apply aC);refine bC (cs:=#[.int .i64 0,.int .i64 0,.slice none 0 0]) ?_ 2 _ rfl;(with_reducible repeat first | apply aE | apply aG | apply aC);refine bC (cs:=#[.int .i64 0,.int .i64 0,.slice none 0 0]) ?_ 1 _ rfl;(with_reducible repeat first | apply aE | apply aG | apply aC);refine bC (cs:=#[.int .i64 0,.int .i64 0,.slice none 0 0]) ?_ 0 _ rfl;(with_reducible repeat first | apply aE | apply aG | apply aC);exact gN.out) Try.underlying24 rfl (by kernel_rfl)) rfl ?_;exact ⟨_,yE,RP,jU HB nU pD sH⟩
   ·replace ZE:=Bool.eq_false_iff.mpr ZE
    subst ZE;have H1 : ((eK.f aQ fT).bind fun YG => (aX.l0 kj2 0 aQ aK aV fU fT gA YG.1 YG.2.1 YG.2.2)) = some (r1,r2,r3,r4):=by rw [if_neg (show ¬ (false = true) by decide)] at H;exact H
    clear H;have H:=H1;clear H1;replace H:=Option.bind_eq_some_iff.mp H;obtain ⟨⟨AL,AK,aKH⟩,aZx,H⟩:=H;replace H : (aX.l0 kj2 0 aQ aK aV fU fT gA AL AK aKH) = some (r1,r2,r3,r4):=H;have A35:=aA.mk aZx;clear aZx;have H':=aA.mk H;clear H;have aRf:=qQ.out;have aQQ:=qP.out;have aRe:=sS.out;have aQP:=sR.out;have VX:=bR dB 0 (.int .i64 aQ) rfl;have VW:=bR dB 1 (.int .i64 aK) rfl;have VV:=bR dB 2 (.slice cG aV.length cF) rfl;have VL:=aD dB.out 0;have VK:=aD dB.out 1;have VJ:=aD dB.out 2;have bGS:=wZ.out;have bGh:=wX.out;have aCF:=bR dS 0 (.int .i64 fU) rfl;have aCE:=bR dS 1 (.int .i64 fT) rfl;have aCD:=bR dS 2 (.slice vP gA.length vI) rfl;have aCk:=aD dS.out 0;have aCj:=aD dS.out 1;have aCi:=aD dS.out 2;go_wp2_with (first | ((with_reducible refine bN (f:=45) rfl ?_);refine eB (some 30) rfl rfl Try.func45 (by kernel_rfl) rfl #[.int .i64 aQ,.int .i64 fT] rfl pX ?_;(with_reducible refine (eK.calls aQ fT AL AK aKH _ A35.out).mono ?_);rintro e w41 ⟨bIB,rfl,ho0,hb⟩;refine ⟨_,rfl,?_⟩;have aHV:=aA.mk (Kd.dY ho0 (cD (jU HB nU pD sH)));replace dB:=aA.mk (aH (bT dB) hb);replace dS:=aA.mk (aH (bT dS) hb);replace gN:=aA.mk (aH (bT gN) hb);replace HB:=aA.mk (aM (jU HB nU pD sH) hb);(try clear hb);(try clear hb2);(try clear hk);(try clear hi);(try clear ho0)) | ((with_reducible refine bU (N:=6) rfl ?_);refine pG (N:=6) (cs:=#[.int .i64 0,.int .i64 0,.slice none 0 0]) (t:=24) ?_;intro HJ hg w42 hbox hb;replace aHV:=aA.mk (Kd.aY (cN aHV.out) hb);have iY:=aA.mk (hbox);have bHL:=aA.mk (gE hg (jU HB nU pD sH) : w.heap.size≤HJ);have RJ:=aA.mk (gE hg (jU HB nU pD sH) : w.heap.size≤HJ);replace HB:=aA.mk (aM (jU HB nU pD sH) hb);have uO:=aA.mk (lQ hg (bT dB));have DY:=aA.mk (lR hg (bT dB));replace dB:=aA.mk (aH (bT dB) hb);have wY:=aA.mk (lQ hg (bT dS));have LK:=aA.mk (lR hg (bT dS));replace dS:=aA.mk (aH (bT dS) hb);have DZ:=aA.mk (lQ hg (bT gN));have aAZ:=aA.mk (lR hg (bT gN));replace gN:=aA.mk (aH (bT gN) hb);clear hb hbox hg;have aLL:=DY.out;have aLJ:=uO.out;have aRc:=LK.out;have aQN:=wY.out;have bGQ:=aAZ.out;have bGf:=DZ.out;have QJ:=bR iY 0 (.int .i64 0) rfl;have QI:=bR iY 1 (.int .i64 0) rfl;have QH:=bR iY 2 (.slice none 0 0) rfl;have PR:=aD iY.out 0;have PQ:=aD iY.out 1;have PO:=aD iY.out 2;obtain ⟨aZa,aXI,eo47⟩:=Kd.cZ aHV.out;subst eo47))
    go_loopg [7] kj2 (fun kq v7 w' => ∃ (dD : Int) (yX : List Int) (nY : Value),v7 = .int .i64 dD∧aA (aX.l0 kq dD aQ aK aV fU fT gA AL AK yX = some (r1,r2,r3,r4))∧aA (kq≤kj2)∧aA (Kd.R (Kd.int .u8) 5 w' w.heap.size (fun _ => True) nY yX)∧aA (w'.heap[QW]? = some (.cells #[.int .i64 aQ,.int .i64 aK,(.slice cG aV.length cF)] 24 (0,0)))∧aA (w'.heap[QV]? = some (.cells #[.int .i64 fU,.int .i64 fT,(.slice vP gA.length vI)] 24 (0,0)))∧aA (w'.heap[HQ]? = some (.cells #[.int .i64 0,.int .i64 0,(.slice none 0 0)] 24 (0,0)))∧aA (w'.heap[HJ]? = some (.cells #[.int .i64 AL,.int .i64 AK,nY] 24 (0,0)))∧aA (Below w.heap.size w w'))
    case atStart => exact ⟨(0),(aKH),(.slice aZa aKH.length aXI),rT,H',⟨Nat.le_refl _⟩,⟨by (with_reducible repeat first | apply Kd.bX | apply Kd.bW | apply Kd.bQ);exact Kd.cE (Kd.cU (p:=⟨HJ,2,none⟩) (Kd.cU (p:=⟨HJ,1,none⟩) (Kd.cU (p:=⟨HJ,0,none⟩) (Kd.eM aHV.out iY.out (by decide)) (fun _ hk => hk.2) (.int .i64 AL)) (fun _ hk => hk.2) (.int .i64 AK)) (fun _ hk => hk.2) (.slice aZa aKH.length aXI)) (fun _ hk => trivial)⟩,⟨by (with_reducible repeat first | apply aE | apply aG | apply aC);refine aN ?_ uO.out _;(with_reducible repeat first | apply aE | apply aG | apply aC);refine aN ?_ uO.out _;(with_reducible repeat first | apply aE | apply aG | apply aC);refine aN ?_ uO.out _;(with_reducible repeat first | apply aE | apply aG | apply aC);exact dB.out⟩,⟨by (with_reducible repeat first | apply aE | apply aG | apply aC);refine aN ?_ wY.out _;(with_reducible repeat first | apply aE | apply aG | apply aC);refine aN ?_ wY.out _;(with_reducible repeat first | apply aE | apply aG | apply aC);refine aN ?_ wY.out _;(with_reducible repeat first | apply aE | apply aG | apply aC);exact dS.out⟩,⟨by (with_reducible repeat first | apply aE | apply aG | apply aC);refine aN ?_ DZ.out _;(with_reducible repeat first | apply aE | apply aG | apply aC);refine aN ?_ DZ.out _;(with_reducible repeat first | apply aE | apply aG | apply aC);refine aN ?_ DZ.out _;(with_reducible repeat first | apply aE | apply aG | apply aC);exact gN.out⟩,⟨by (with_reducible repeat first | apply aE | apply aG | apply aC);refine bC (cs:=#[.int .i64 AL,.int .i64 AK,.slice none 0 0]) ?_ 2 _ rfl;(with_reducible repeat first | apply aE | apply aG | apply aC);refine bC (cs:=#[.int .i64 AL,.int .i64 0,.slice none 0 0]) ?_ 1 _ rfl;(with_reducible repeat first | apply aE | apply aG | apply aC);refine bC (cs:=#[.int .i64 0,.int .i64 0,.slice none 0 0]) ?_ 0 _ rfl;(with_reducible repeat first | apply aE | apply aG | apply aC);exact iY.out⟩,⟨vV HB nU pD sH RJ⟩⟩
    case round =>
     clear H';(try clear c1);(try clear c2);(try clear p2);(try clear c3);(try clear c4);(try clear c5);(try clear c8);(try clear NF);(try clear CV);(try clear yK);(try clear c15);(try clear UK);(try clear ZF);(try clear EH);(try clear c24);(try clear c27);(try clear c28);(try clear ZE);(try clear c32);(try clear c33);(try clear c36);(try clear c37);(try clear c39);(try clear c43);(try clear c44);(try clear c45);(try clear nQ);(try clear nP);(try clear nO);(try clear tW);(try clear tV);(try clear tU);(try clear vG);(try clear vF);(try clear vE);(try clear xK);(try clear xJ);(try clear xI);(try clear BW);(try clear BV);(try clear BU);(try clear BR);(try clear BQ);(try clear BP);(try clear FF);(try clear FE);(try clear FD);(try clear BO);(try clear BN);(try clear BM);(try clear VX);(try clear VW);(try clear VV);(try clear aCF);(try clear aCE);(try clear aCD);(try clear QJ);(try clear QI);(try clear QH);(try clear nN);(try clear nM);(try clear nL);(try clear tT);(try clear tS);(try clear tR);(try clear vD);(try clear vC);(try clear vB);(try clear xH);(try clear xG);(try clear xF);(try clear BH);(try clear BG);(try clear BF);(try clear BE);(try clear BD);(try clear BC);(try clear EZ);(try clear EY);(try clear EX)
     (try clear BB);(try clear BA);(try clear AZ);(try clear VL);(try clear VK);(try clear VJ);(try clear aCk);(try clear aCj);(try clear aCi);(try clear PR);(try clear PQ);(try clear PO);(try clear p2);obtain ⟨dD,yX,nY,rfl,HA,yL,fN,dB,dS,gN,iY,HB⟩:=hrel
     cases gk with
     | zero => exact absurd HA.out (by simp [aX.l0])
     | succ k2 =>
      have H:=HA.out;clear HA;simp only [aX.l0] at H
      by_cases c48 : dD < aQ
      ·rw [if_pos c48] at H
       have aMm : decide (dD < aQ) = true:=decide_eq_true c48;clear c48;have H':=aA.mk H;clear H;have aVb:=qQ.out;have aUG:=qP.out;have aVa:=sS.out;have aUF:=sR.out;have aRb:=uO.out;have aQM:=DY.out;have QG:=bR dB 0 (.int .i64 aQ) rfl;have QF:=bR dB 1 (.int .i64 aK) rfl;have QE:=bR dB 2 (.slice cG aV.length cF) rfl;have PN:=aD dB.out 0;have PM:=aD dB.out 1;have PL:=aD dB.out 2
       go_wp2
       go_loopg [8] k2 (fun kq v8 w' => ∃ (EK : Int) (CX : List Int) (nY : Value),v8 = .int .i64 EK∧aA (aX.l1 kq dD EK aQ aK aV fU fT gA AL AK CX = some (r1,r2,r3,r4))∧aA (kq≤k2)∧aA (Kd.R (Kd.int .u8) 5 w' w.heap.size (fun _ => True) nY CX)∧aA (w'.heap[QW]? = some (.cells #[.int .i64 aQ,.int .i64 aK,(.slice cG aV.length cF)] 24 (0,0)))∧aA (w'.heap[QV]? = some (.cells #[.int .i64 fU,.int .i64 fT,(.slice vP gA.length vI)] 24 (0,0)))∧aA (w'.heap[HQ]? = some (.cells #[.int .i64 0,.int .i64 0,(.slice none 0 0)] 24 (0,0)))∧aA (w'.heap[HJ]? = some (.cells #[.int .i64 AL,.int .i64 AK,nY] 24 (0,0)))∧aA (Below w.heap.size w w'))
       case atStart => exact ⟨(0),(yX),(nY),rT,H',⟨Nat.le_refl _⟩,⟨cN fN.out⟩,⟨hJ dB.out⟩,⟨hJ dS.out⟩,⟨hJ gN.out⟩,⟨hJ iY.out⟩,⟨vV HB nU pD sH RJ⟩⟩
       case round =>
        clear H';(try clear c1);(try clear c2);(try clear p2);(try clear c3);(try clear c4);(try clear c5);(try clear c8);(try clear NF);(try clear CV);(try clear yK);(try clear c15);(try clear UK);(try clear ZF);(try clear EH);(try clear c24);(try clear c27);(try clear c28);(try clear ZE);(try clear c32);(try clear c33);(try clear c36);(try clear c37);(try clear c39);(try clear c43);(try clear c44);(try clear c45);(try clear c48);(try clear aMm);(try clear c49);(try clear c50);(try clear c51);(try clear nQ);(try clear nP);(try clear nO);(try clear tW);(try clear tV);(try clear tU);(try clear vG);(try clear vF);(try clear vE);(try clear xK);(try clear xJ);(try clear xI);(try clear BW);(try clear BV);(try clear BU);(try clear BR);(try clear BQ);(try clear BP);(try clear FF);(try clear FE);(try clear FD);(try clear BO);(try clear BN);(try clear BM);(try clear VX);(try clear VW);(try clear VV);(try clear aCF);(try clear aCE);(try clear aCD);(try clear QJ);(try clear QI);(try clear QH);(try clear QG);(try clear QF);(try clear QE);(try clear nN);(try clear nM);(try clear nL);(try clear tT);(try clear tS);(try clear tR);(try clear vD);(try clear vC);(try clear vB);(try clear xH);(try clear xG);(try clear xF);(try clear BH);(try clear BG)
        (try clear BF);(try clear BE);(try clear BD);(try clear BC);(try clear EZ);(try clear EY);(try clear EX);(try clear BB);(try clear BA);(try clear AZ);(try clear VL);(try clear VK);(try clear VJ);(try clear aCk);(try clear aCj);(try clear aCi);(try clear PR);(try clear PQ);(try clear PO);(try clear PN);(try clear PM);(try clear PL);(try clear p2);obtain ⟨EK,CX,nY,rfl,HA,UN,fN,dB,dS,gN,iY,HB⟩:=hrel
        cases gk with
        | zero => exact absurd HA.out (by simp [aX.l1])
        | succ k3 =>
         have H:=HA.out;clear HA;simp only [aX.l1] at H
         by_cases SU : EK < fT
         ·rw [if_pos SU] at H
          have GA : decide (EK < fT) = true:=decide_eq_true SU;clear SU;have H':=aA.mk H;clear H;have aUZ:=qP.out;have aUE:=qQ.out;have aUY:=wZ.out;have aUD:=wX.out;have aRa:=wY.out;have aQL:=LK.out;have QD:=bR dS 0 (.int .i64 fU) rfl;have QC:=bR dS 1 (.int .i64 fT) rfl;have QB:=bR dS 2 (.slice vP gA.length vI) rfl;have PK:=aD dS.out 0;have PJ:=aD dS.out 1;have PI:=aD dS.out 2
          go_wp2
          go_loopg [9] k3 (fun kq v9 w' => ∃ (EJ : Int) (fX : List Int) (nY : Value),v9 = .int .i64 EJ∧aA (aX.l2 kq dD EK EJ aQ aK aV fU fT gA AL AK fX = some (r1,r2,r3,r4))∧aA (kq≤k3)∧aA (Kd.R (Kd.int .u8) 5 w' w.heap.size (fun _ => True) nY fX)∧aA (w'.heap[QW]? = some (.cells #[.int .i64 aQ,.int .i64 aK,(.slice cG aV.length cF)] 24 (0,0)))∧aA (w'.heap[QV]? = some (.cells #[.int .i64 fU,.int .i64 fT,(.slice vP gA.length vI)] 24 (0,0)))∧aA (w'.heap[HQ]? = some (.cells #[.int .i64 0,.int .i64 0,(.slice none 0 0)] 24 (0,0)))∧aA (w'.heap[HJ]? = some (.cells #[.int .i64 AL,.int .i64 AK,nY] 24 (0,0)))∧aA (Below w.heap.size w w'))
          case atStart => exact ⟨(0),(CX),(nY),rT,H',⟨Nat.le_refl _⟩,⟨cN fN.out⟩,⟨hJ dB.out⟩,⟨hJ dS.out⟩,⟨hJ gN.out⟩,⟨hJ iY.out⟩,⟨vV HB nU pD sH RJ⟩⟩
          case round =>
           clear H';(try clear c1);(try clear c2);(try clear p2);(try clear c3);(try clear c4);(try clear c5);(try clear c8);(try clear NF);(try clear CV);(try clear yK);(try clear c15);(try clear UK);(try clear ZF);(try clear EH);(try clear c24);(try clear c27);(try clear c28);(try clear ZE);(try clear c32);(try clear c33);(try clear c36);(try clear c37);(try clear c39);(try clear c43);(try clear c44);(try clear c45);(try clear c48);(try clear aMm);(try clear c49);(try clear c50);(try clear c51);(try clear SU);(try clear GA);(try clear c54);(try clear c55);(try clear c56);(try clear nQ);(try clear nP);(try clear nO);(try clear tW);(try clear tV);(try clear tU);(try clear vG);(try clear vF);(try clear vE);(try clear xK);(try clear xJ);(try clear xI);(try clear BW);(try clear BV);(try clear BU);(try clear BR);(try clear BQ);(try clear BP);(try clear FF);(try clear FE);(try clear FD);(try clear BO);(try clear BN);(try clear BM);(try clear VX);(try clear VW);(try clear VV);(try clear aCF);(try clear aCE);(try clear aCD);(try clear QJ);(try clear QI);(try clear QH);(try clear QG);(try clear QF);(try clear QE);(try clear QD);(try clear QC);(try clear QB);(try clear nN);(try clear nM);(try clear nL);(try clear tT);(try clear tS);(try clear tR);(try clear vD)
           (try clear vC);(try clear vB);(try clear xH);(try clear xG);(try clear xF);(try clear BH);(try clear BG);(try clear BF);(try clear BE);(try clear BD);(try clear BC);(try clear EZ);(try clear EY);(try clear EX);(try clear BB);(try clear BA);(try clear AZ);(try clear VL);(try clear VK);(try clear VJ);(try clear aCk);(try clear aCj);(try clear aCi);(try clear PR);(try clear PQ);(try clear PO);(try clear PN);(try clear PM);(try clear PL);(try clear PK);(try clear PJ);(try clear PI);(try clear p2);obtain ⟨EJ,fX,nY,rfl,HA,HK4,fN,dB,dS,gN,iY,HB⟩:=hrel
           cases gk with
           | zero => exact absurd HA.out (by simp [aX.l2])
           | succ k4 =>
            have H:=HA.out;clear HA;simp only [aX.l2] at H
            by_cases c58 : EJ < aK
            ·rw [if_pos c58] at H
             have aXR : decide (EJ < aK) = true:=decide_eq_true c58;clear c58;obtain ⟨kG,XR⟩ : ∃ j_ : Int,(wrap64 ((wrap64 (dD * AK)) + EK)) = j_:=⟨_,rfl⟩
             replace H : (if 0≤(kG) then (if (kG) < (fX.length : Int) then ((cQ.f aQ aK aV dD EJ).bind fun aBy => ((cQ.f fU fT gA EJ EK).bind fun ZQ => ((dH.f aBy ZQ).bind fun UE => (aX.l2 k4 dD EK (wrap64 (EJ + 1)) aQ aK aV fU fT gA AL AK (fX.set ((kG) : Int).toNat (Go.bits .xor .u8 (rd fX (kG)) UE)))))) else (none)) else (none)) = some (r1,r2,r3,r4):=by first | (rw [XR] at H;exact H) | (simp only [XR] at H ⊢;exact H)
             have aSZ : (IntKind.i64.wrap ((wrap64 (dD * AK)) + EK)) = kG:=(bG _).trans XR
             by_cases c60 : 0≤(kG)
             ·rw [if_pos c60] at H
              have aRz : decide (0≤(kG)) = true:=decide_eq_true c60;clear c60
              by_cases c61 : (kG) < (fX.length : Int)
              ·rw [if_pos c61] at H
               have aXQ : decide ((kG) < (fX.length : Int)) = true:=decide_eq_true c61;clear c61;replace H:=Option.bind_eq_some_iff.mp H;obtain ⟨aBy,aNe,H⟩:=H;replace H : ((cQ.f fU fT gA EJ EK).bind fun ZQ => ((dH.f aBy ZQ).bind fun UE => (aX.l2 k4 dD EK (wrap64 (EJ + 1)) aQ aK aV fU fT gA AL AK (fX.set ((kG) : Int).toNat (Go.bits .xor .u8 (rd fX (kG)) UE))))) = some (r1,r2,r3,r4):=H;have A62:=aA.mk aNe;clear aNe;replace H:=Option.bind_eq_some_iff.mp H;obtain ⟨ZQ,aNd,H⟩:=H;replace H : ((dH.f aBy ZQ).bind fun UE => (aX.l2 k4 dD EK (wrap64 (EJ + 1)) aQ aK aV fU fT gA AL AK (fX.set ((kG) : Int).toNat (Go.bits .xor .u8 (rd fX (kG)) UE)))) = some (r1,r2,r3,r4):=H;have A63:=aA.mk aNd;clear aNd;replace H:=Option.bind_eq_some_iff.mp H;obtain ⟨UE,aZs,H⟩:=H;replace H : (aX.l2 k4 dD EK (wrap64 (EJ + 1)) aQ aK aV fU fT gA AL AK (fX.set ((kG) : Int).toNat (Go.bits .xor .u8 (rd fX (kG)) UE))) = some (r1,r2,r3,r4):=H;have A64:=aA.mk aZs;clear aZs;obtain ⟨y288,hy288⟩ : ∃ y_ : List Int,y_ = (fX.set ((kG) : Int).toNat (Go.bits .xor .u8 (rd fX (kG)) UE)):=⟨_,rfl⟩
               replace H : (aX.l2 k4 dD EK (wrap64 (EJ + 1)) aQ aK aV fU fT gA AL AK y288) = some (r1,r2,r3,r4):=by first | (rw [hy288];with_reducible exact H) | (have H2_:=(Option.bind_some _ _).symm.trans H;rw [hy288];with_reducible exact H2_) | (have H2_:=(Option.bind_some _ _).symm.trans H;with_reducible exact H2_) | with_reducible exact H | (rw [hy288];exact H) | exact H
               have Ny288:=aA.mk hy288;clear hy288;have H':=aA.mk H;clear H;have bGI:=qQ.out;have bFX:=qP.out;have aUV:=sS.out;have aUA:=sR.out;have aQZ:=uO.out;have aQK:=DY.out;have aPp:=bR dB 0 (.int .i64 aQ) rfl;have aPo:=bR dB 1 (.int .i64 aK) rfl;have aPn:=bR dB 2 (.slice cG aV.length cF) rfl;have aOw:=aD dB.out 0;have aOv:=aD dB.out 1;have aOu:=aD dB.out 2
               try go_wp2
               replace fN:=aA.mk (Kd.bQ fN.out);replace dB:=aA.mk (aG dB.out);replace dS:=aA.mk (aG dS.out);replace gN:=aA.mk (aG gN.out);replace iY:=aA.mk (aG iY.out);replace HB:=aA.mk (dO HB.out);obtain ⟨bJu,aXE,eo71⟩:=Kd.cZ fN.out
               (first | subst eo71 | (injection eo71 with f1_ f2_ f3_;have f4_:=f1_.symm;have f5_:=f3_.symm;clear f1_ f2_ f3_;subst f4_;subst f5_));have aSM : 0≤((kG) : Int):=of_decide_eq_true pH;have q284 : (kG) < (fX.length : Int):=of_decide_eq_true pH;obtain ⟨ad284,e284,hx284_0⟩:=Kd.rG (Kd.bM fN.out).2.2 (kG) aSM q284
               cases e284
               replace aSM:=eq_true aSM;replace q284:=eq_true q284;refine qR (n:=22) (S:=fun w' => w'.cell? ⟨HJ,0,none⟩ = some (.int .i64 AL)∧w'.cell? ⟨HJ,1,none⟩ = some (.int .i64 AK)∧w'.cell? ⟨HJ,2,none⟩ = some (.slice (some ad284) fX.length aXE)∧w'.cell? ⟨QW,0,none⟩ = some (.int .i64 aQ)∧w'.cell? ⟨QW,1,none⟩ = some (.int .i64 aK)∧w'.cell? ⟨QW,2,none⟩ = some (.slice cG aV.length cF)∧w'.cell? ⟨QV,0,none⟩ = some (.int .i64 fU)∧w'.cell? ⟨QV,1,none⟩ = some (.int .i64 fT)∧w'.cell? ⟨QV,2,none⟩ = some (.slice vP gA.length vI)∧w'.cell? (ad284.add ((kG)).toNat) = some (.int .u8 (rd fX (kG)))) (ds:=[21]) #[false,false,false,false,false,false,false,false,false,false,false,false,false,false,false,false,false,false,false,false,false,false] (by kernel_rfl) rfl rfl ⟨(aU iY.out 0).trans rfl,(aU iY.out 1).trans rfl,(aU iY.out 2).trans rfl,(aU dB.out 0).trans rfl,(aU dB.out 1).trans rfl,(aU dB.out 2).trans rfl,(aU dS.out 0).trans rfl,(aU dS.out 1).trans rfl,(aU dS.out 2).trans rfl,hx284_0⟩ (fun hHeld => ?_);refine jO aX.aKD aX.aFY (fun HT_ HW_ => ?_);generalize wr.drew = w70 at fN dB dS gN iY HB hx284_0 hHeld ⊢;refine cB (i:=0) (N:=some 49) (v:=?_) (a':=?_) (eE 22 1) rfl rfl (bK HT_.out (by kernel_rfl)) (fun _ _ _ h => h) (Or.inl ⟨by rfl,?_⟩) ?_ ?_
               rotate_left
               ·intro w'
                go_simp;(with_reducible rfl)
               rotate_left
               ·simp only [Act.put,cV,cT,cW,bG,bH]
                rfl
               refine cB (i:=2) (N:=some 51) (v:=?_) (a':=?_) (eE 22 5) rfl rfl (bK HT_.out (by kernel_rfl)) (fun _ _ _ h => h) (Or.inl ⟨by rfl,?_⟩) ?_ ?_;rotate_left
               ·intro w'
                go_simp;(with_reducible rfl)
               rotate_left
               ·simp only [Act.put,cV,cT,cW,bG,bH]
                rfl
               refine cB (i:=3) (N:=some 52) (v:=?_) (a':=?_) (eE 22 13) rfl rfl (bK HT_.out (by kernel_rfl)) (fun _ _ _ h => h) (Or.inl ⟨by rfl,?_⟩) ?_ ?_;rotate_left
               ·intro w'
                go_simp;(with_reducible rfl)
               rotate_left
               ·simp only [Act.put,cV,cT,cW,bG,bH]
                rfl
               refine cB (i:=6) (N:=some 55) (v:=?_) (a':=?_) (eE 22 77) rfl rfl (bK HT_.out (by kernel_rfl)) (fun _ _ _ h => h) (Or.inl ⟨by rfl,?_⟩) ?_ ?_;rotate_left
               ·intro w'
                go_simp;(with_reducible rfl)
               rotate_left
               ·simp only [Act.put,cV,cT,cW,bG,bH]
                rfl
               refine cB (i:=11) (N:=some 60) (v:=?_) (a':=?_) (eE 22 2125) rfl rfl (bK HT_.out (by kernel_rfl)) (fun _ _ _ h => h) (Or.inl ⟨by rfl,?_⟩) ?_ ?_;rotate_left
               ·intro w'
                go_simp;(with_reducible rfl)
               rotate_left
               ·simp only [Act.put,cV,cT,cW,bG,bH]
                rfl
               refine cB (i:=12) (N:=some 61) (v:=?_) (a':=?_) (eE 22 6221) rfl rfl (bK HT_.out (by kernel_rfl)) (fun _ _ _ h => h) (Or.inl ⟨by rfl,?_⟩) ?_ ?_;rotate_left
               ·intro w'
                go_simp;(with_reducible rfl)
               rotate_left
               ·simp only [Act.put,cV,cT,cW,bG,bH]
                rfl
               refine cB (i:=15) (N:=some 64) (v:=?_) (a':=?_) (eE 22 38989) rfl rfl (bK HT_.out (by kernel_rfl)) (fun _ _ _ h => h) (Or.inl ⟨by rfl,?_⟩) ?_ ?_;rotate_left
               ·intro w'
                go_simp;(with_reducible rfl)
               rotate_left
               ·simp only [Act.put,cV,cT,cW,bG,bH]
                rfl
               refine cB (i:=16) (N:=some 65) (v:=?_) (a':=?_) (eE 22 104525) rfl rfl (bK HT_.out (by kernel_rfl)) (fun _ _ _ h => h) (Or.inl ⟨by rfl,?_⟩) ?_ ?_;rotate_left
               ·intro w'
                go_simp;(with_reducible rfl)
               rotate_left
               ·simp only [Act.put,cV,cT,cW,bG,bH]
                rfl
               refine hY (i:=1) (N:=some 50) (v:=?_) (a':=?_) (eE 22 104527) rfl rfl (dZ HT_.out HW_.out (by kernel_rfl)) (fun _ _ _ h => h) (Or.inl ⟨by rfl,?_⟩) hHeld ?_ ?_;rotate_left
               ·rintro w' ⟨s0,s1,s2,s3,s4,s5,s6,s7,s8,s9⟩
                go_simp;(with_reducible rfl)
               rotate_left
               ·simp only [Act.put,cV,cT,cW,bG,bH]
                rfl
               refine hY (i:=4) (N:=some 53) (v:=?_) (a':=?_) (eE 22 104543) rfl rfl (dZ HT_.out HW_.out (by kernel_rfl)) (fun _ _ _ h => h) (Or.inl ⟨by rfl,?_⟩) hHeld ?_ ?_;rotate_left
               ·rintro w' ⟨s0,s1,s2,s3,s4,s5,s6,s7,s8,s9⟩
                go_simp;(with_reducible rfl)
               rotate_left
               ·simp only [Act.put,cV,cT,cW,bG,bH]
                rfl
               refine cB (i:=5) (N:=some 54) (v:=?_) (a':=?_) (eE 22 104575) rfl rfl (bK HT_.out (by kernel_rfl)) (fun _ _ _ h => h) (Or.inl ⟨by rfl,?_⟩) ?_ ?_;rotate_left
               ·intro w'
                go_simp;(with_reducible rfl)
               rotate_left
               ·simp only [Act.put,cV,cT,cW,bG,bH]
                rfl
               refine cB (i:=7) (N:=some 56) (v:=?_) (a':=?_) (eE 22 104703) rfl rfl (bK HT_.out (by kernel_rfl)) (fun _ _ _ h => h) (Or.inl ⟨by rfl,?_⟩) ?_ ?_;rotate_left
               ·intro w'
                go_simp;(with_reducible rfl)
               rotate_left
               ·simp only [Act.put,cV,cT,cW,bG,bH]
                rfl
               refine cB (i:=8) (N:=some 57) (v:=?_) (a':=?_) (eE 22 104959) rfl rfl (bK HT_.out (by kernel_rfl)) (fun _ _ _ h => h) (Or.inl ⟨by rfl,?_⟩) ?_ ?_;rotate_left
               ·intro w'
                go_simp;(with_reducible rfl)
               rotate_left
               ·simp only [Act.put,cV,cT,cW,bG,bH]
                rfl
               refine hY (i:=9) (N:=some 58) (v:=?_) (a':=?_) (eE 22 105471) rfl rfl (dZ HT_.out HW_.out (by kernel_rfl)) (fun _ _ _ h => h) (Or.inl ⟨by rfl,?_⟩) hHeld ?_ ?_;rotate_left
               ·rintro w' ⟨s0,s1,s2,s3,s4,s5,s6,s7,s8,s9⟩
                go_simp;(with_reducible rfl)
               rotate_left
               ·simp only [Act.put,cV,cT,cW,bG,bH]
                rfl
               refine hY (i:=10) (N:=some 59) (v:=?_) (a':=?_) (eE 22 106495) rfl rfl (dZ HT_.out HW_.out (by kernel_rfl)) (fun _ _ _ h => h) (Or.inl ⟨by rfl,?_⟩) hHeld ?_ ?_;rotate_left
               ·rintro w' ⟨s0,s1,s2,s3,s4,s5,s6,s7,s8,s9⟩
                go_simp;(with_reducible rfl)
               rotate_left
               ·simp only [Act.put,cV,cT,cW,bG,bH]
                rfl
               refine hY (i:=14) (N:=some 63) (v:=?_) (a':=?_) (eE 22 122879) rfl rfl (dZ HT_.out HW_.out (by kernel_rfl)) (fun _ _ _ h => h) (Or.inl ⟨by rfl,?_⟩) hHeld ?_ ?_;rotate_left
               ·rintro w' ⟨s0,s1,s2,s3,s4,s5,s6,s7,s8,s9⟩
                go_simp;(with_reducible rfl)
               rotate_left
               ·simp only [Act.put,cV,cT,cW,bG,bH]
                rfl
               refine yR (i:=13) (N:=some 62) (eE 22 131071) rfl rfl (iU HT_.out (by kernel_rfl)) (by decide) (fun K hK => ?_);refine xS Try.func25 (by kernel_rfl) rfl #[.agg #[.int .i64 aQ,.int .i64 aK,.slice cG aV.length cF],.int .i64 dD,.int .i64 EJ] (by rfl) rfl rfl pX ?_
               with_reducible refine (cQ.calls aQ aK _ _ aV dD EJ aBy _ ?side1 ?side2 A62.out).mono ?_
               (case side1 => exact sW (Kd.eN iH.out HB.out))
               (case side2 => exact iN.out);rintro e w72 ⟨rfl,hb⟩;have HS9_:=(hb.cell (World.block_lt_of_cell? _ _ (hHeld.2.2.2.2.2.2.2.2.2))).trans (hHeld.2.2.2.2.2.2.2.2.2);refine ⟨_,rfl,?_⟩;replace fN:=aA.mk (Kd.aY (cN fN.out) hb);replace dB:=aA.mk (aH (bT dB) hb);replace dS:=aA.mk (aH (bT dS) hb);replace gN:=aA.mk (aH (bT gN) hb);replace iY:=aA.mk (aH (bT iY) hb);replace HB:=aA.mk (aM (vV HB nU pD sH RJ) hb);(try clear hb);(try clear hb2);(try clear hk);(try clear hi);refine hK.out _ _ ⟨(aU iY.out 0).trans rfl,(aU iY.out 1).trans rfl,(aU iY.out 2).trans rfl,(aU dB.out 0).trans rfl,(aU dB.out 1).trans rfl,(aU dB.out 2).trans rfl,(aU dS.out 0).trans rfl,(aU dS.out 1).trans rfl,(aU dS.out 2).trans rfl,HS9_⟩ (fun hHeld => ?_);clear hK K;refine kY (a':=?_) ?_ ?_;rotate_left
               ·show Act.put _ (some 62) _ = _
                simp only [Act.put,cV,cT,cW,bG,bH];rfl
               refine yR (i:=17) (N:=some 66) (eE 22 262143) rfl rfl (iU HT_.out (by kernel_rfl)) (by decide) (fun K hK => ?_);refine xS Try.func25 (by kernel_rfl) rfl #[.agg #[.int .i64 fU,.int .i64 fT,.slice vP gA.length vI],.int .i64 EJ,.int .i64 EK] (by rfl) rfl rfl pX ?_
               with_reducible refine (cQ.calls fU fT _ _ gA EJ EK ZQ _ ?side1 ?side2 A63.out).mono ?_
               (case side1 => exact sW (Kd.eN aED.out HB.out))
               (case side2 => exact aEG.out);rintro e w73 ⟨rfl,hb⟩;have HS9_:=(hb.cell (World.block_lt_of_cell? _ _ (hHeld.2.2.2.2.2.2.2.2.2))).trans (hHeld.2.2.2.2.2.2.2.2.2);refine ⟨_,rfl,?_⟩;replace fN:=aA.mk (Kd.aY (cN fN.out) hb);replace dB:=aA.mk (aH (bT dB) hb);replace dS:=aA.mk (aH (bT dS) hb);replace gN:=aA.mk (aH (bT gN) hb);replace iY:=aA.mk (aH (bT iY) hb);replace HB:=aA.mk (aM (vV HB nU pD sH RJ) hb);(try clear hb);(try clear hb2);(try clear hk);(try clear hi);refine hK.out _ _ ⟨(aU iY.out 0).trans rfl,(aU iY.out 1).trans rfl,(aU iY.out 2).trans rfl,(aU dB.out 0).trans rfl,(aU dB.out 1).trans rfl,(aU dB.out 2).trans rfl,(aU dS.out 0).trans rfl,(aU dS.out 1).trans rfl,(aU dS.out 2).trans rfl,HS9_⟩ (fun hHeld => ?_);clear hK K;refine kY (a':=?_) ?_ ?_;rotate_left
               ·show Act.put _ (some 66) _ = _
                simp only [Act.put,cV,cT,cW,bG,bH];rfl
               refine yR (i:=18) (N:=some 67) (eE 22 524287) rfl rfl (iU HT_.out (by kernel_rfl)) (by decide) (fun K hK => ?_);refine xS Try.func24 (by kernel_rfl) rfl #[.int .u8 aBy,.int .u8 ZQ] (by rfl) rfl rfl pX ?_
               with_reducible refine (dH.calls aBy ZQ UE _ A64.out).mono ?_
               rintro e w' ⟨rfl,⟨nd,rfl⟩⟩;refine ⟨_,rfl,?_⟩;have p65 : 0≤((kG) : Int):=of_decide_eq_true pH;have q65 : ((kG) : Int) < ((fX.length : Int) : Int):=of_decide_eq_true pH;obtain ⟨go65,bIZ,eo65,aXo,gl65,cl65,HG65⟩:=Kd.CT fN.out (by omega)
               (first | cases eo65 | (injection eo65 with ea_ en_ ec_;(first | subst ea_ | (injection ea_ with ea_;subst ea_));subst ec_;clear en_));have GB65:=aA.mk aXo;have GG65:=aA.mk HG65;clear aXo gl65 HG65
               (first | simp only [add_plain] at hx284_0 | skip);obtain ⟨hx65_0,hf65_0⟩:=Kd.rQ 0 fN.out ((kG) : Int) p65 q65;replace p65:=eq_true p65;replace q65:=eq_true q65;have HP74:=Kd.NH fN.out ((kG) : Int) (Go.bits .xor .u8 (rd fX (kG)) UE);rw [← Ny288.out] at HP74;have HQ74:=aA.mk HP74;clear HP74;refine hK.out _ _ ⟨(aU iY.out 0).trans rfl,(aU iY.out 1).trans rfl,(aU iY.out 2).trans rfl,(aU dB.out 0).trans rfl,(aU dB.out 1).trans rfl,(aU dB.out 2).trans rfl,(aU dS.out 0).trans rfl,(aU dS.out 1).trans rfl,(aU dS.out 2).trans rfl,hHeld.2.2.2.2.2.2.2.2.2⟩ (fun hHeld => ?_);clear hK K;refine kY (a':=?_) ?_ ?_;rotate_left
               ·show Act.put _ (some 67) _ = _
                simp only [Act.put,cV,cT,cW,bG,bH];rfl
               refine cB (i:=19) (N:=some 68) (v:=?_) (a':=?_) (eE 22 1048575) rfl rfl (bK HT_.out (by kernel_rfl)) (fun _ _ _ h => h) (Or.inl ⟨by rfl,?_⟩) ?_ ?_;rotate_left
               ·intro w'
                go_simp;(with_reducible rfl)
               rotate_left
               ·simp only [Act.put,cV,cT,cW,bG,bH]
                rfl
               refine cB (i:=20) (N:=some 69) (v:=?_) (a':=?_) (eE 22 2097151) rfl rfl (bK HT_.out (by kernel_rfl)) (fun _ _ _ h => h) (Or.inl ⟨by rfl,?_⟩) ?_ ?_;rotate_left
               ·intro w'
                go_simp;(with_reducible rfl)
               rotate_left
               ·simp only [Act.put,cV,cT,cW,bG,bH]
                rfl
               refine OZ (i:=21) (N:=none) (eE 22 4194303) rfl rfl (iU HT_.out (by kernel_rfl)) (by decide) (fun K hK => ?_);refine GN (w1:=?_) (by rfl) rfl ?_ ?_;rotate_left
               ·go_simp
                rfl
               refine hK.out _ _ ?_;clear hK K;refine vY (oG HT_.out (by kernel_rfl)) ?_
               try go_wp2
               go_roundg k4
               case measure => have:=HJ2.out;have:=yL.out;have:=UN.out;have:=HK4.out;omega
               case rel => exact ⟨(wrap64 (EJ + 1)),(y288),(.slice (some ⟨go65,0,none⟩) fX.length aXE),rT,H',⟨by have:=HJ2.out;have:=yL.out;have:=UN.out;have:=HK4.out;omega⟩,⟨cN HQ74.out⟩,⟨by (with_reducible repeat first | apply aE | apply aG | apply aC);refine aN ?_ (by have h_:=Kd.oY fN.out dB.out (by decide);intro e_;exact h_ (by rw [e_];rfl)) _;(with_reducible repeat first | apply aE | apply aG | apply aC);exact dB.out⟩,⟨by (with_reducible repeat first | apply aE | apply aG | apply aC);refine aN ?_ (by have h_:=Kd.oY fN.out dS.out (by decide);intro e_;exact h_ (by rw [e_];rfl)) _;(with_reducible repeat first | apply aE | apply aG | apply aC);exact dS.out⟩,⟨by (with_reducible repeat first | apply aE | apply aG | apply aC);refine aN ?_ (by have h_:=Kd.oY fN.out gN.out (by decide);intro e_;exact h_ (by rw [e_];rfl)) _;(with_reducible repeat first | apply aE | apply aG | apply aC);exact gN.out⟩,⟨by (with_reducible repeat first | apply aE | apply aG | apply aC);refine aN ?_ (by have h_:=Kd.oY fN.out iY.out (by decide);intro e_;exact h_ (by rw [e_];rfl)) _;(with_reducible repeat first | apply aE | apply aG | apply aC);exact iY.out⟩,⟨aIG HB GB65 nU pD sH RJ⟩⟩
              ·rw [if_neg c61] at H
               exact absurd H (by simp)
             ·rw [if_neg c60] at H
              exact absurd H (by simp)
            ·rw [if_neg c58] at H
             have aXR : decide (EJ < aK) = false:=decide_eq_false c58;clear c58;have H':=aA.mk H;clear H;have aUS:=qQ.out;have aUx:=qP.out;have bGE:=sS.out;have bFT:=sR.out;have bGD:=uO.out;have bFS:=DY.out;have bBd:=bR dB 0 (.int .i64 aQ) rfl;have bBc:=bR dB 1 (.int .i64 aK) rfl;have bBb:=bR dB 2 (.slice cG aV.length cF) rfl;have bAe:=aD dB.out 0;have bAd:=aD dB.out 1;have bAc:=aD dB.out 2
             go_wp2
             go_roundg k4
             case measure => have:=HJ2.out;have:=yL.out;have:=UN.out;have:=HK4.out;omega
             case rel => exact ⟨(wrap64 (EK + 1)),(fX),(nY),rT,H',⟨by have:=HJ2.out;have:=yL.out;have:=UN.out;have:=HK4.out;omega⟩,⟨cN fN.out⟩,⟨hJ dB.out⟩,⟨hJ dS.out⟩,⟨hJ gN.out⟩,⟨hJ iY.out⟩,⟨vV HB nU pD sH RJ⟩⟩
         ·rw [if_neg SU] at H
          have GA : decide (EK < fT) = false:=decide_eq_false SU;clear SU;have H':=aA.mk H;clear H;have bGC:=qP.out;have bFR:=qQ.out;have bGB:=wZ.out;have bFQ:=wX.out;have bGA:=wY.out;have bFP:=LK.out;have bBa:=bR dS 0 (.int .i64 fU) rfl;have bAZ:=bR dS 1 (.int .i64 fT) rfl;have bAY:=bR dS 2 (.slice vP gA.length vI) rfl;have bAb:=aD dS.out 0;have bAa:=aD dS.out 1;have aZZ:=aD dS.out 2
          go_wp2
          go_roundg k3
          case measure => have:=HJ2.out;have:=yL.out;have:=UN.out;omega
          case rel => exact ⟨(wrap64 (dD + 1)),(CX),(nY),rT,H',⟨by have:=HJ2.out;have:=yL.out;have:=UN.out;omega⟩,⟨cN fN.out⟩,⟨hJ dB.out⟩,⟨hJ dS.out⟩,⟨hJ gN.out⟩,⟨hJ iY.out⟩,⟨vV HB nU pD sH RJ⟩⟩
      ·rw [if_neg c48] at H
       have aMm : decide (dD < aQ) = false:=decide_eq_false c48;clear c48;simp only [Option.some.injEq,Prod.mk.injEq] at H;obtain ⟨rfl,rfl,rfl,rfl⟩:=H;have bGz:=qQ.out;have bFO:=qP.out;have bGy:=sS.out;have bFN:=sR.out;have bGx:=uO.out;have bFM:=DY.out;have bAX:=bR dB 0 (.int .i64 aQ) rfl;have bAW:=bR dB 1 (.int .i64 aK) rfl;have bAV:=bR dB 2 (.slice cG aV.length cF) rfl;have aZY:=aD dB.out 0;have aZX:=aD dB.out 1;have aZW:=aD dB.out 2;have bGw:=LK.out;have bFL:=wY.out;have bGv:=aAZ.out;have bFK:=DZ.out;have bAU:=bR iY 0 (.int .i64 AL) rfl;have bAT:=bR iY 1 (.int .i64 AK) rfl;have bAS:=bR iY 2 nY rfl;have aZV:=aD iY.out 0;have aZU:=aD iY.out 1;have aZT:=aD iY.out 2;have aUR:=wX.out;have aUw:=wZ.out;have bAR:=bR gN 0 (.int .i64 0) rfl;have bAQ:=bR gN 1 (.int .i64 0) rfl;have bAP:=bR gN 2 (.slice none 0 0) rfl;have aZS:=aD gN.out 0;have aZR:=aD gN.out 1;have aZQ:=aD gN.out 2;obtain ⟨aYW,aXC,eo92⟩:=Kd.cZ fN.out;subst eo92
       go_wp2
       refine bodyPost_ret (dX rfl _ _ HQ 24 #[.int .i64 AL,.int .i64 AK,.slice aYW yX.length aXC] (0,0) _ rfl (by (with_reducible repeat first | apply aE | apply aG | apply aC);refine bC (cs:=#[.int .i64 AL,.int .i64 AK,.slice none 0 0]) ?_ 2 _ rfl;(with_reducible repeat first | apply aE | apply aG | apply aC);refine bC (cs:=#[.int .i64 AL,.int .i64 0,.slice none 0 0]) ?_ 1 _ rfl;(with_reducible repeat first | apply aE | apply aG | apply aC);refine bC (cs:=#[.int .i64 0,.int .i64 0,.slice none 0 0]) ?_ 0 _ rfl;(with_reducible repeat first | apply aE | apply aG | apply aC);exact gN.out) Try.underlying24 rfl (by kernel_rfl)) rfl ?_;exact ⟨_,yE,by (with_reducible repeat first | apply Kd.bX | apply Kd.bW | apply Kd.bQ);exact Kd.cE (Kd.cU (p:=⟨HQ,2,none⟩) (Kd.cU (p:=⟨HQ,1,none⟩) (Kd.cU (p:=⟨HQ,0,none⟩) (Kd.eM fN.out gN.out (by decide)) (fun _ hk => hk.2) (.int .i64 AL)) (fun _ hk => hk.2) (.int .i64 AK)) (fun _ hk => hk.2) (.slice aYW yX.length aXC)) (fun _ hk => trivial),vV HB nU pD sH RJ⟩
end Go.Proofs.Yteofcbkjhdadpaa.Pr
