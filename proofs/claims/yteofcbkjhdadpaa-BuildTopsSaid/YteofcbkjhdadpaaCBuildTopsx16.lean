import Derived.Test.YteofcbkjhdadpaaCBuildTopsx0
import Derived.Test.YteofcbkjhdadpaaCBuildTopsx1
import Derived.Test.YteofcbkjhdadpaaCBuildTopsx2
import Derived.Test.YteofcbkjhdadpaaCBuildTopsx9
import Derived.Test.YteofcbkjhdadpaaCBuildTopsx11
import Derived.Test.YteofcbkjhdadpaaCBuildTopsx12
import Derived.Test.YteofcbkjhdadpaaCBuildTopsx14
import Derived.Test.YteofcbkjhdadpaaCBuildTopsx15
import Derived.Test.YteofcbkjhdadpaaCBuildTopsq
set_option maxHeartbeats 8000000
set_option maxRecDepth 100000
set_option linter.unusedSimpArgs false
set_option linter.unusedVariables false
namespace Go.Proofs.Yteofcbkjhdadpaa.Pr
open Go.RowKit Go.Proofs.aI.bE Go.Proofs.aI.fB Go.Proofs.aI.iS
attribute [local go_sem] kQ kO nK nJ jD jC kP kN   -- for this text's walks alone
mutual
def rW.j0 : Nat→Int→Int→List Int→Int→Int→Bool→Int→Int→List Int→Int→Int→List Int→Option (Bool)
 | 0,_,_,_,_,_,_,_,_,_,_,_,_ => none
 | k + 1,x0,x1,x2,x8,x10,x52,NT,NS,NR,NQ,NP,NO => if x52 = true then ((cP.f k).bind fun bCx => (if bCx = true then (if x8 = 2 then (some (x10 == 2)) else (some false)) else (some false))) else (if x8 = 0 then (rW.j1 k x0 x1 x2 (x10 != 0) NT NS NR NQ NP NO) else (rW.j1 k x0 x1 x2 true NT NS NR NQ NP NO))
def rW.j1 : Nat→Int→Int→List Int→Bool→Int→Int→List Int→Int→Int→List Int→Option (Bool)
 | 0,_,_,_,_,_,_,_,_,_,_ => none
 | k + 1,x0,x1,x2,x67,NT,NS,NR,NQ,NP,NO => if x67 = true then (some false) else ((bA.f k (wrap64 (x0)) (wrap64 (x1)) x2).bind fun aUh => ((bB.f k NT NS NR aUh).bind fun aHI => ((bB.f k NQ NP NO aUh).bind fun aHH => ((gS.f aHI.1 aHI.2.1 aHI.2.2.1).bind fun aYf => ((gS.f aHH.1 aHH.2.1 aHH.2.2.1).bind fun aYe => ((bA.f k (wrap64 (x0)) 0 ([] : List Int)).bind fun aUg => ((bB.f k NT NS NR aUg).bind fun aMy => ((bB.f k NQ NP NO aUg).bind fun aMx => ((cC.f k (wrap64 (x0))).bind fun aAW => ((cP.f k).bind fun bCw => (if bCw = true then (if aHI.2.2.2 = 0 then (if aHH.2.2.2 = 0 then (if aYf.1 = (wrap64 (x0)) then (if aYe.1 = (wrap64 (x0)) then ((bI.f aMy.1 aMy.2.1 aMy.2.2.1 aAW.1 aAW.2.1 aAW.2.2.1).bind fun bCv => (if bCv = true then ((bI.f aMx.1 aMx.2.1 aMx.2.2.1 aAW.1 aAW.2.1 aAW.2.2.1).bind fun bCu => (some bCu)) else (some false))) else (some false)) else (some false)) else (some false)) else (some false)) else (some false))))))))))))
end
mutual
def bD.l0 : Nat→Int→Int→Int→List Int→Int→Int→List Int→Option (Int×Int×List Int×Int)
 | 0,_,_,_,_,_,_,_ => none
 | k + 1,x5,IX,IW,NN,NM,NL,IV => if x5 < IW then (bD.l1 k x5 0 IX IW NN NM NL IV) else (some (NM,NL,IV,0))
def bD.l1 : Nat→Int→Int→Int→Int→List Int→Int→Int→List Int→Option (Int×Int×List Int×Int)
 | 0,_,_,_,_,_,_,_,_ => none
 | k + 1,x5,x6,IX,IW,NN,NM,NL,IV => if x6 < IX then ((cQ.f IX IW NN x6 x5).bind fun aEW => (if IV.length < 140737488355328 then (bD.l1 k x5 (wrap64 (x6 + 1)) IX IW NN NM NL (IV ++ [aEW])) else (none))) else (bD.l0 k (wrap64 (x5 + 1)) IX IW NN NM NL IV)
end
def bD.f (k : Nat) (aQ : Int) (aK : Int) (aV : List Int) : Option (Int×Int×List Int×Int):=(bF.f aQ aK aV).bind fun aIj => (if aIj = true then (bD.l0 k 0 aQ aK aV aK aQ ([] : List Int)) else (some (0,0,([] : List Int),3)))
def bD.T10 : Bool×List (List Nat×List Nat):=(true,[([],[]),([0],[0]),([],[]),([],[]),([],[]),([2,3,4],[2,3,4]),([5],[5]),([1,6,5],[1,6]),([0,1,2,3,4,5,6,7],[]),([8,7,7,0,1,2,3,4,5,6,7],[7,8])])
def bD.B10 : List Nat:=[0,1,0,0,0,28,60,127,255,511]
theorem bD.aKE : rV .any (opsOf Try.f19 10) = bD.T10:=by kernel_rfl
theorem bD.aFZ : mQ bD.T10.2 bD.B10 = true:=by kernel_rfl
theorem bD.calls (k : Nat) (aQ : Int) (aK : Int) (cG : Option Addr) (cF : Nat) (aV : List Int) (r1 : Int) (r2 : Int) (r3 : List Int) (r4 : Int) (w : World) (hr0_2 : Kd.C (Kd.int .u8) w cG aV.length aV) (hc0_2 : aV.length≤cF) (h : bD.f k aQ aK aV = some (r1,r2,r3,r4)) :
  Calls Try.prog 19 #[.agg #[.int .i64 aQ,.int .i64 aK,.slice cG aV.length cF]] w fun e w' => ∃ vQ : Value,e = .returned (.tuple #[.agg #[.int .i64 r1,.int .i64 r2,vQ],.int .i64 r4])∧Kd.R (Kd.int .u8) 5 w' w.heap.size (fun _ => True) vQ r3∧Below w.heap.size w w':=by
 have CQ:=Try.underlying24;have iH:=aA.mk hr0_2;have iN:=aA.mk hc0_2;clear hr0_2 hc0_2;have HB:=aA.mk (Below.refl w.heap.size w);have H : ((bF.f aQ aK aV).bind fun aIj => (if aIj = true then (bD.l0 k 0 aQ aK aV aK aQ ([] : List Int)) else (some (0,0,([] : List Int),3)))) = some (r1,r2,r3,r4):=h;clear h;replace H:=Option.bind_eq_some_iff.mp H;obtain ⟨aIj,A20,H⟩:=H;replace H : (if aIj = true then (bD.l0 k 0 aQ aK aV aK aQ ([] : List Int)) else (some (0,0,([] : List Int),3))) = some (r1,r2,r3,r4):=H;have A2:=aA.mk A20;clear A20
 by_cases c3 : aIj = true
 ·subst c3
  have H1 : (bD.l0 k 0 aQ aK aV aK aQ ([] : List Int)) = some (r1,r2,r3,r4):=by rw [if_pos rfl] at H;exact H
  clear H;have H:=H1;clear H1;have H':=aA.mk H;clear H;go_enter Try.func19,Try.ntmps19;go_wp2_with (first | ((with_reducible refine bU (N:=1) rfl ?_);refine pG (N:=1) (cs:=#[.int .i64 aQ,.int .i64 aK,.slice cG aV.length cF]) (t:=24) ?_;intro LY hg w4 hbox hb;have dV:=aA.mk (hbox);have aYJ:=aA.mk (gE hg (dN HB) : w.heap.size≤LY);have tK:=aA.mk (gE hg (dN HB) : w.heap.size≤LY);replace HB:=aA.mk (aM (dN HB) hb);clear hb hbox hg) | ((with_reducible refine bU (N:=2) rfl ?_);refine pG (N:=2) (cs:=#[.int .i64 0,.int .i64 0,.slice none 0 0]) (t:=24) ?_;intro FX hg w5 hbox hb;have jM:=aA.mk (hbox);have aYI:=aA.mk (gE hg (dR HB tK) : w.heap.size≤FX);have AH:=aA.mk (gE hg (dR HB tK) : w.heap.size≤FX);replace HB:=aA.mk (aM (dR HB tK) hb);have wT:=aA.mk (lQ hg (bT dV));have wS:=aA.mk (lR hg (bT dV));replace dV:=aA.mk (aH (bT dV) hb);clear hb hbox hg;have aUX:=wT.out;have aUC:=wS.out;have qZ:=bR dV 0 (.int .i64 aQ) rfl;have qY:=bR dV 1 (.int .i64 aK) rfl;have qX:=bR dV 2 (.slice cG aV.length cF) rfl;have qW:=aD dV.out 0;have qV:=aD dV.out 1;have qU:=aD dV.out 2) | ((with_reducible refine bN (f:=17) rfl ?_);refine eB (some 8) rfl rfl Try.func17 (by kernel_rfl) rfl #[.agg #[.int .i64 aQ,.int .i64 aK,.slice cG aV.length cF]] rfl pX ?_;(with_reducible refine (bF.calls aQ aK _ _ aV true _ ?side1 ?side2 A2.out).mono ?_);(case side1 => exact sW (Kd.eN iH.out HB.out));(case side2 => exact iN.out);rintro e w8 ⟨rfl,hb⟩;refine ⟨_,rfl,?_⟩;replace dV:=aA.mk (aH (bT dV) hb);replace jM:=aA.mk (aH (bT jM) hb);replace HB:=aA.mk (aM (eA HB tK AH) hb);(try clear hb);(try clear hb2);(try clear hk);(try clear hi);have zW:=bR dV 0 (.int .i64 aQ) rfl;have zV:=bR dV 1 (.int .i64 aK) rfl;have zU:=bR dV 2 (.slice cG aV.length cF) rfl;have zT:=aD dV.out 0;have zS:=aD dV.out 1;have zR:=aD dV.out 2) | ((with_reducible refine bU (N:=4) rfl ?_);refine pG (N:=4) (cs:=#[.int .i64 0,.int .i64 0,.slice none 0 0]) (t:=24) ?_;intro TO hg w10 hbox hb;have iX:=aA.mk (hbox);have bHF:=aA.mk (gE hg (eA HB tK AH) : w.heap.size≤TO);have TY:=aA.mk (gE hg (eA HB tK AH) : w.heap.size≤TO);replace HB:=aA.mk (aM (eA HB tK AH) hb);have qO:=aA.mk (lQ hg (bT dV));have zF:=aA.mk (lR hg (bT dV));replace dV:=aA.mk (aH (bT dV) hb);have wR:=aA.mk (lQ hg (bT jM));have SX:=aA.mk (lR hg (bT jM));replace jM:=aA.mk (aH (bT jM) hb);clear hb hbox hg;have aDS:=zF.out;have aDQ:=qO.out;have aRn:=SX.out;have aQY:=wR.out;have nQ:=bR iX 0 (.int .i64 0) rfl;have nP:=bR iX 1 (.int .i64 0) rfl;have nO:=bR iX 2 (.slice none 0 0) rfl;have nN:=aD iX.out 0;have nM:=aD iX.out 1;have nL:=aD iX.out 2))
  go_loopg [5] k (fun kq v5 w' => ∃ (kM : Int) (yW : List Int) (rI : Value),v5 = .int .i64 kM∧aA (bD.l0 kq kM aQ aK aV aK aQ yW = some (r1,r2,r3,r4))∧aA (kq≤k)∧aA (Kd.R (Kd.int .u8) 5 w' w.heap.size (fun _ => True) rI yW)∧aA (w'.heap[LY]? = some (.cells #[.int .i64 aQ,.int .i64 aK,(.slice cG aV.length cF)] 24 (0,0)))∧aA (w'.heap[FX]? = some (.cells #[.int .i64 0,.int .i64 0,(.slice none 0 0)] 24 (0,0)))∧aA (w'.heap[TO]? = some (.cells #[.int .i64 aK,.int .i64 aQ,rI] 24 (0,0)))∧aA (Below w.heap.size w w'))
  case atStart => exact ⟨(0),(([] : List Int)),(.slice none 0 0),rT,H',⟨Nat.le_refl _⟩,⟨RP⟩,⟨by (with_reducible repeat first | apply aE | apply aG | apply aC);refine aN ?_ qO.out _;(with_reducible repeat first | apply aE | apply aG | apply aC);refine aN ?_ qO.out _;(with_reducible repeat first | apply aE | apply aG | apply aC);refine aN ?_ qO.out _;(with_reducible repeat first | apply aE | apply aG | apply aC);exact dV.out⟩,⟨by (with_reducible repeat first | apply aE | apply aG | apply aC);refine aN ?_ wR.out _;(with_reducible repeat first | apply aE | apply aG | apply aC);refine aN ?_ wR.out _;(with_reducible repeat first | apply aE | apply aG | apply aC);refine aN ?_ wR.out _;(with_reducible repeat first | apply aE | apply aG | apply aC);exact jM.out⟩,⟨by (with_reducible repeat first | apply aE | apply aG | apply aC);refine bC (cs:=#[.int .i64 aK,.int .i64 aQ,.slice none 0 0]) ?_ 2 _ rfl;(with_reducible repeat first | apply aE | apply aG | apply aC);refine bC (cs:=#[.int .i64 aK,.int .i64 0,.slice none 0 0]) ?_ 1 _ rfl;(with_reducible repeat first | apply aE | apply aG | apply aC);refine bC (cs:=#[.int .i64 0,.int .i64 0,.slice none 0 0]) ?_ 0 _ rfl;(with_reducible repeat first | apply aE | apply aG | apply aC);exact iX.out⟩,⟨jU HB tK AH TY⟩⟩
  case round =>
   clear H';(try clear c1);(try clear p2);(try clear c3);(try clear c6);(try clear CV);(try clear yK);(try clear nQ);(try clear nP);(try clear nO);(try clear qZ);(try clear qY);(try clear qX);(try clear zW);(try clear zV);(try clear zU);(try clear nN);(try clear nM);(try clear nL);(try clear qW);(try clear qV);(try clear qU);(try clear zT);(try clear zS);(try clear zR);obtain ⟨kM,yW,rI,rfl,HA,FP,kI,dV,jM,iX,HB⟩:=hrel
   cases gk with
   | zero => exact absurd HA.out (by simp [bD.l0])
   | succ k1 =>
    have H:=HA.out;clear HA;simp only [bD.l0] at H
    by_cases ND : kM < aK
    ·rw [if_pos ND] at H
     have aMv : decide (kM < aK) = true:=decide_eq_true ND;clear ND;have H':=aA.mk H;clear H;have aDR:=wT.out;have aDP:=wS.out;have bGX:=qO.out;have bGm:=zF.out;have aPT:=bR dV 0 (.int .i64 aQ) rfl;have aPS:=bR dV 1 (.int .i64 aK) rfl;have aPR:=bR dV 2 (.slice cG aV.length cF) rfl;have aPa:=aD dV.out 0;have aOZ:=aD dV.out 1;have aOY:=aD dV.out 2
     go_wp2
     go_loopg [6] k1 (fun kq v6 w' => ∃ (CW : Int) (sJ : List Int) (rI : Value),v6 = .int .i64 CW∧aA (bD.l1 kq kM CW aQ aK aV aK aQ sJ = some (r1,r2,r3,r4))∧aA (kq≤k1)∧aA (Kd.R (Kd.int .u8) 5 w' w.heap.size (fun _ => True) rI sJ)∧aA (w'.heap[LY]? = some (.cells #[.int .i64 aQ,.int .i64 aK,(.slice cG aV.length cF)] 24 (0,0)))∧aA (w'.heap[FX]? = some (.cells #[.int .i64 0,.int .i64 0,(.slice none 0 0)] 24 (0,0)))∧aA (w'.heap[TO]? = some (.cells #[.int .i64 aK,.int .i64 aQ,rI] 24 (0,0)))∧aA (Below w.heap.size w w'))
     case atStart => exact ⟨(0),(yW),(rI),rT,H',⟨Nat.le_refl _⟩,⟨cN kI.out⟩,⟨hJ dV.out⟩,⟨hJ jM.out⟩,⟨hJ iX.out⟩,⟨jU HB tK AH TY⟩⟩
     case round =>
      clear H';(try clear c1);(try clear p2);(try clear c3);(try clear c6);(try clear CV);(try clear yK);(try clear ND);(try clear aMv);(try clear c15);(try clear c16);(try clear UK);(try clear nQ);(try clear nP);(try clear nO);(try clear aPT);(try clear aPS);(try clear aPR);(try clear qZ);(try clear qY);(try clear qX);(try clear zW);(try clear zV);(try clear zU);(try clear nN);(try clear nM);(try clear nL);(try clear aPa);(try clear aOZ);(try clear aOY);(try clear qW);(try clear qV);(try clear qU);(try clear zT);(try clear zS);(try clear zR);(try clear p2);obtain ⟨CW,sJ,rI,rfl,HA,yL,kI,dV,jM,iX,HB⟩:=hrel
      cases gk with
      | zero => exact absurd HA.out (by simp [bD.l1])
      | succ k2 =>
       have H:=HA.out;clear HA;simp only [bD.l1] at H
       by_cases ZG : CW < aQ
       ·rw [if_pos ZG] at H
        have aAU : decide (CW < aQ) = true:=decide_eq_true ZG;clear ZG;replace H:=Option.bind_eq_some_iff.mp H;obtain ⟨aEW,aZG,H⟩:=H;replace H : (if sJ.length < 140737488355328 then (bD.l1 k2 kM (wrap64 (CW + 1)) aQ aK aV aK aQ (sJ ++ [aEW])) else (none)) = some (r1,r2,r3,r4):=H;have A19:=aA.mk aZG;clear aZG
        by_cases ZF : sJ.length < 140737488355328
        ·rw [if_pos ZF] at H
         have LMc20:=aA.mk ZF;clear ZF;obtain ⟨y598,hy598⟩ : ∃ y_ : List Int,y_ = (sJ ++ [aEW]):=⟨_,rfl⟩
         replace H : (bD.l1 k2 kM (wrap64 (CW + 1)) aQ aK aV aK aQ y598) = some (r1,r2,r3,r4):=by first | (rw [hy598];with_reducible exact H) | (have H2_:=(Option.bind_some _ _).symm.trans H;rw [hy598];with_reducible exact H2_) | (have H2_:=(Option.bind_some _ _).symm.trans H;with_reducible exact H2_) | with_reducible exact H | (rw [hy598];exact H) | exact H
         have Ny598:=aA.mk hy598;clear hy598;have H':=aA.mk H;clear H;have aRm:=wT.out;have aQX:=wS.out;have aRl:=qO.out;have aQW:=zF.out;have FI:=bR dV 0 (.int .i64 aQ) rfl;have FH:=bR dV 1 (.int .i64 aK) rfl;have FG:=bR dV 2 (.slice cG aV.length cF) rfl;have FC:=aD dV.out 0;have FB:=aD dV.out 1;have FA:=aD dV.out 2
         try go_wp2
         replace kI:=aA.mk (Kd.bQ kI.out);replace dV:=aA.mk (aG dV.out);replace jM:=aA.mk (aG jM.out);replace iX:=aA.mk (aG iX.out);replace HB:=aA.mk (dO HB.out);refine qR (n:=10) (S:=fun w' => w'.cell? ⟨TO,0,none⟩ = some (.int .i64 aK)∧w'.cell? ⟨TO,1,none⟩ = some (.int .i64 aQ)∧w'.cell? ⟨TO,2,none⟩ = some (rI)∧w'.cell? ⟨LY,0,none⟩ = some (.int .i64 aQ)∧w'.cell? ⟨LY,1,none⟩ = some (.int .i64 aK)∧w'.cell? ⟨LY,2,none⟩ = some (.slice cG aV.length cF)) (ds:=[9]) #[false,false,false,false,false,false,false,false,false,false] (by kernel_rfl) rfl rfl ⟨(aU iX.out 0).trans rfl,(aU iX.out 1).trans rfl,(aU iX.out 2).trans rfl,(aU dV.out 0).trans rfl,(aU dV.out 1).trans rfl,(aU dV.out 2).trans rfl⟩ (fun hHeld => ?_);refine jO bD.aKE bD.aFZ (fun HT_ HW_ => ?_);generalize wr.drew = w24 at kI dV jM iX HB hHeld ⊢;refine cB (i:=0) (N:=some 28) (v:=?_) (a':=?_) (eE 10 1) rfl rfl (bK HT_.out (by kernel_rfl)) (fun _ _ _ h => h) (Or.inl ⟨by rfl,?_⟩) ?_ ?_;rotate_left
         ·intro w'
          go_simp;(with_reducible rfl)
         rotate_left
         ·simp only [Act.put,cV,cT,cW,bG,bH]
          rfl
         refine cB (i:=3) (N:=some 31) (v:=?_) (a':=?_) (eE 10 9) rfl rfl (bK HT_.out (by kernel_rfl)) (fun _ _ _ h => h) (Or.inl ⟨by rfl,?_⟩) ?_ ?_;rotate_left
         ·intro w'
          go_simp;(with_reducible rfl)
         rotate_left
         ·simp only [Act.put,cV,cT,cW,bG,bH]
          rfl
         refine cB (i:=4) (N:=some 32) (v:=?_) (a':=?_) (eE 10 25) rfl rfl (bK HT_.out (by kernel_rfl)) (fun _ _ _ h => h) (Or.inl ⟨by rfl,?_⟩) ?_ ?_;rotate_left
         ·intro w'
          go_simp;(with_reducible rfl)
         rotate_left
         ·simp only [Act.put,cV,cT,cW,bG,bH]
          rfl
         refine hY (i:=1) (N:=some 29) (v:=?_) (a':=?_) (eE 10 27) rfl rfl (dZ HT_.out HW_.out (by kernel_rfl)) (fun _ _ _ h => h) (Or.inl ⟨by rfl,?_⟩) hHeld ?_ ?_;rotate_left
         ·rintro w' ⟨s0,s1,s2,s3,s4,s5⟩
          go_simp;(with_reducible rfl)
         rotate_left
         ·simp only [Act.put,cV,cT,cW,bG,bH]
          rfl
         refine hY (i:=2) (N:=some 30) (v:=?_) (a':=?_) (eE 10 31) rfl rfl (dZ HT_.out HW_.out (by kernel_rfl)) (fun _ _ _ h => h) (Or.inl ⟨by rfl,?_⟩) hHeld ?_ ?_;rotate_left
         ·rintro w' ⟨s0,s1,s2,s3,s4,s5⟩
          go_simp;(with_reducible rfl)
         rotate_left
         ·simp only [Act.put,cV,cT,cW,bG,bH]
          rfl
         refine yR (i:=5) (N:=some 33) (eE 10 63) rfl rfl (iU HT_.out (by kernel_rfl)) (by decide) (fun K hK => ?_);refine xS Try.func25 (by kernel_rfl) rfl #[.agg #[.int .i64 aQ,.int .i64 aK,.slice cG aV.length cF],.int .i64 CW,.int .i64 kM] (by rfl) rfl rfl pX ?_
         with_reducible refine (cQ.calls aQ aK _ _ aV CW kM aEW _ ?side1 ?side2 A19.out).mono ?_
         (case side1 => exact sW (Kd.eN iH.out HB.out))
         (case side2 => exact iN.out);rintro e w25 ⟨rfl,hb⟩;refine ⟨_,rfl,?_⟩;replace kI:=aA.mk (Kd.aY (cN kI.out) hb);replace dV:=aA.mk (aH (bT dV) hb);replace jM:=aA.mk (aH (bT jM) hb);replace iX:=aA.mk (aH (bT iX) hb);replace HB:=aA.mk (aM (jU HB tK AH TY) hb);(try clear hb);(try clear hb2);(try clear hk);(try clear hi);refine hK.out _ _ ⟨(aU iX.out 0).trans rfl,(aU iX.out 1).trans rfl,(aU iX.out 2).trans rfl,(aU dV.out 0).trans rfl,(aU dV.out 1).trans rfl,(aU dV.out 2).trans rfl⟩ (fun hHeld => ?_);clear hK K;refine kY (a':=?_) ?_ ?_;rotate_left
         ·show Act.put _ (some 33) _ = _
          simp only [Act.put,cV,cT,cW,bG,bH];rfl
         refine yR (i:=6) (N:=some 34) (eE 10 127) rfl rfl (iU HT_.out (by kernel_rfl)) (by decide) (fun K hK => ?_);refine aSk (w1:=?_) (v:=?_) (by rfl) rfl ?_ ?_;rotate_left 2
         ·go_simp
          constructor
          ·rfl
          ·rfl
         refine hK.out _ _ ⟨(aU (aC iX.out _) 0).trans rfl,(aU (aC iX.out _) 1).trans rfl,(aU (aC iX.out _) 2).trans rfl,(aU (aC dV.out _) 0).trans rfl,(aU (aC dV.out _) 1).trans rfl,(aU (aC dV.out _) 2).trans rfl⟩ (fun hHeld => ?_);clear hK K;refine kY (a':=?_) ?_ ?_;rotate_left
         ·show Act.put _ (some 34) _ = _
          simp only [Act.put,cV,cT,cW,bG,bH];rfl
         refine yR (i:=7) (N:=some 35) (eE 10 255) rfl rfl (iU HT_.out (by kernel_rfl)) (by decide) (fun K hK => ?_);refine Kd.aAi (Kd.int .u8) (w0:=w) w.heap.size (by rfl) (.tmp 29) (.tmp 34) 22 5 (.int .u8 0) 1 rfl Try.underlying22 FV rfl (by decide) (by omega) rI sJ aEW [.int .u8 aEW] (fun _ => True) (fun _ => False) rfl rfl ?aP (fun _ hk => hk.elim) ?aF ?aO ?aB ?aS ?aL ?_
         (case aP => exact rfl)
         (case aB => exact (jU HB tK AH TY))
         (case aF => exact (fun _ _ => trivial))
         (case aO => exact (cN kI.out))
         (case aS => exact (cD (jU HB tK AH TY)))
         (case aL => have:=LMc20.out;omega);intro bIv w26 ho hb hg hat;rw [← Ny598.out] at ho;have mT:=aA.mk (fL (bT dV) hg (Kd.oY kI.out dV.out (by decide)));have mS:=aA.mk (fL (bT jM) hg (Kd.oY kI.out jM.out (by decide)));have tD:=aA.mk (fL (bT iX) hg (Kd.oY kI.out iX.out (by decide)));have uE:=aA.mk (hb);have uD:=aA.mk (ho);clear dV;clear jM;clear iX;clear HB;clear kI;have dV:=mT;have jM:=mS;have iX:=tD;have HB:=uE;have aRM:=uD;clear mT mS tD uE uD;clear ho hb hg hat;obtain ⟨RO,NB,eo27⟩:=Kd.cZ aRM.out
         (first | subst eo27 | (injection eo27 with f1_ f2_ f3_;have f4_:=f1_.symm;have f5_:=f3_.symm;clear f1_ f2_ f3_;subst f4_;subst f5_));refine hK.out _ _ ⟨(aU iX.out 0).trans rfl,(aU iX.out 1).trans rfl,(aU iX.out 2).trans rfl,(aU dV.out 0).trans rfl,(aU dV.out 1).trans rfl,(aU dV.out 2).trans rfl⟩ (fun hHeld => ?_);clear hK K;refine kY (a':=?_) ?_ ?_;rotate_left
         ·show Act.put _ (some 35) _ = _
          simp only [Act.put,cV,cT,cW,bG,bH];rfl
         refine cB (i:=8) (N:=some 36) (v:=?_) (a':=?_) (eE 10 511) rfl rfl (bK HT_.out (by kernel_rfl)) (fun _ _ _ h => h) (Or.inl ⟨by rfl,?_⟩) ?_ ?_;rotate_left
         ·intro w'
          go_simp;(with_reducible rfl)
         rotate_left
         ·simp only [Act.put,cV,cT,cW,bG,bH]
          rfl
         refine OZ (i:=9) (N:=none) (eE 10 1023) rfl rfl (iU HT_.out (by kernel_rfl)) (by decide) (fun K hK => ?_);have hs28:=bR iX 2 rI rfl;have hfs28:=aD iX.out 2;have hns28_0:=qO.out;have hns28_1:=wR.out;have hms28_0:=zF.out;have hms28_1:=SX.out;refine GN (w1:=?_) (by rfl) rfl ?_ ?_;rotate_left
         ·go_simp
          rfl
         refine hK.out _ _ ?_;clear hK K;refine vY (oG HT_.out (by kernel_rfl)) ?_
         try go_wp2
         go_roundg k2
         case measure => have:=FP.out;have:=yL.out;omega
         case rel => exact ⟨(wrap64 (CW + 1)),(y598),(.slice RO y598.length NB),rT,H',⟨by have:=FP.out;have:=yL.out;omega⟩,⟨by (with_reducible repeat first | apply Kd.bX | apply Kd.bW | apply Kd.bQ);exact Kd.cE (Kd.cU (p:=⟨TO,2,none⟩) (Kd.eM aRM.out iX.out (by decide)) (fun _ hk => hk.2) (.slice RO y598.length NB)) (fun _ hk => trivial)⟩,⟨by (with_reducible repeat first | apply aE | apply aG | apply aC);refine aN ?_ qO.out _;(with_reducible repeat first | apply aE | apply aG | apply aC);exact dV.out⟩,⟨by (with_reducible repeat first | apply aE | apply aG | apply aC);refine aN ?_ wR.out _;(with_reducible repeat first | apply aE | apply aG | apply aC);exact jM.out⟩,⟨by (with_reducible repeat first | apply aE | apply aG | apply aC);refine bC (cs:=#[.int .i64 aK,.int .i64 aQ,rI]) ?_ 2 _ rfl;(with_reducible repeat first | apply aE | apply aG | apply aC);exact iX.out⟩,⟨jU HB tK AH TY⟩⟩
        ·rw [if_neg ZF] at H
         exact absurd H (by simp)
       ·rw [if_neg ZG] at H
        have aAU : decide (CW < aQ) = false:=decide_eq_false ZG;clear ZG;have H':=aA.mk H;clear H;have aVg:=wT.out;have aUL:=wS.out;have bGV:=qO.out;have bGk:=zF.out;have aPN:=bR dV 0 (.int .i64 aQ) rfl;have aPM:=bR dV 1 (.int .i64 aK) rfl;have aPL:=bR dV 2 (.slice cG aV.length cF) rfl;have aOU:=aD dV.out 0;have aOT:=aD dV.out 1;have aOS:=aD dV.out 2
        go_wp2
        go_roundg k2
        case measure => have:=FP.out;have:=yL.out;omega
        case rel => exact ⟨(wrap64 (kM + 1)),(sJ),(rI),rT,H',⟨by have:=FP.out;have:=yL.out;omega⟩,⟨cN kI.out⟩,⟨hJ dV.out⟩,⟨hJ jM.out⟩,⟨hJ iX.out⟩,⟨jU HB tK AH TY⟩⟩
    ·rw [if_neg ND] at H
     have aMv : decide (kM < aK) = false:=decide_eq_false ND;clear ND;simp only [Option.some.injEq,Prod.mk.injEq] at H;obtain ⟨rfl,rfl,rfl,rfl⟩:=H;have aRh:=wT.out;have aQS:=wS.out;have aRg:=qO.out;have aQR:=zF.out;have BO:=bR dV 0 (.int .i64 aQ) rfl;have BN:=bR dV 1 (.int .i64 aK) rfl;have BM:=bR dV 2 (.slice cG aV.length cF) rfl;have BB:=aD dV.out 0;have BA:=aD dV.out 1;have AZ:=aD dV.out 2;have aVf:=SX.out;have aUK:=wR.out;have aPK:=bR iX 0 (.int .i64 aK) rfl;have aPJ:=bR iX 1 (.int .i64 aQ) rfl;have aPI:=bR iX 2 rI rfl;have aOR:=aD iX.out 0;have aOQ:=aD iX.out 1;have aOP:=aD iX.out 2;have bBE:=bR jM 0 (.int .i64 0) rfl;have bBD:=bR jM 1 (.int .i64 0) rfl;have bBC:=bR jM 2 (.slice none 0 0) rfl;have bAF:=aD jM.out 0;have bAE:=aD jM.out 1;have bAD:=aD jM.out 2;obtain ⟨aQz,aQb,eo38⟩:=Kd.cZ kI.out;subst eo38
     go_wp2
     refine bodyPost_ret (dX rfl _ _ FX 24 #[.int .i64 aK,.int .i64 aQ,.slice aQz yW.length aQb] (0,0) _ rfl (by (with_reducible repeat first | apply aE | apply aG | apply aC);refine bC (cs:=#[.int .i64 aK,.int .i64 aQ,.slice none 0 0]) ?_ 2 _ rfl;(with_reducible repeat first | apply aE | apply aG | apply aC);refine bC (cs:=#[.int .i64 aK,.int .i64 0,.slice none 0 0]) ?_ 1 _ rfl;(with_reducible repeat first | apply aE | apply aG | apply aC);refine bC (cs:=#[.int .i64 0,.int .i64 0,.slice none 0 0]) ?_ 0 _ rfl;(with_reducible repeat first | apply aE | apply aG | apply aC);exact jM.out) Try.underlying24 rfl (by kernel_rfl)) rfl ?_;exact ⟨_,yE,by (with_reducible repeat first | apply Kd.bX | apply Kd.bW | apply Kd.bQ);exact Kd.cE (Kd.cU (p:=⟨FX,2,none⟩) (Kd.cU (p:=⟨FX,1,none⟩) (Kd.cU (p:=⟨FX,0,none⟩) (Kd.eM kI.out jM.out (by decide)) (fun _ hk => hk.2) (.int .i64 aK)) (fun _ hk => hk.2) (.int .i64 aQ)) (fun _ hk => hk.2) (.slice aQz yW.length aQb)) (fun _ hk => trivial),jU HB tK AH TY⟩
 ·replace c3:=Bool.eq_false_iff.mpr c3
  subst c3;have H1 : (some (0,0,([] : List Int),3)) = some (r1,r2,r3,r4):=by rw [if_neg (show ¬ (false = true) by decide)] at H;exact H
  clear H;have H:=H1;clear H1;simp only [Option.some.injEq,Prod.mk.injEq] at H;obtain ⟨rfl,rfl,rfl,rfl⟩:=H;go_enter Try.func19,Try.ntmps19;go_wp2_with (first | ((with_reducible refine bU (N:=1) rfl ?_);refine pG (N:=1) (cs:=#[.int .i64 aQ,.int .i64 aK,.slice cG aV.length cF]) (t:=24) ?_;intro LY hg w39 hbox hb;have dV:=aA.mk (hbox);have aYJ:=aA.mk (gE hg (dN HB) : w.heap.size≤LY);have tK:=aA.mk (gE hg (dN HB) : w.heap.size≤LY);replace HB:=aA.mk (aM (dN HB) hb);clear hb hbox hg) | ((with_reducible refine bU (N:=2) rfl ?_);refine pG (N:=2) (cs:=#[.int .i64 0,.int .i64 0,.slice none 0 0]) (t:=24) ?_;intro FX hg w40 hbox hb;have jM:=aA.mk (hbox);have aYI:=aA.mk (gE hg (dR HB tK) : w.heap.size≤FX);have AH:=aA.mk (gE hg (dR HB tK) : w.heap.size≤FX);replace HB:=aA.mk (aM (dR HB tK) hb);have wT:=aA.mk (lQ hg (bT dV));have wS:=aA.mk (lR hg (bT dV));replace dV:=aA.mk (aH (bT dV) hb);clear hb hbox hg;have aVe:=wT.out;have aUJ:=wS.out;have aCz:=bR dV 0 (.int .i64 aQ) rfl;have aCy:=bR dV 1 (.int .i64 aK) rfl;have aCx:=bR dV 2 (.slice cG aV.length cF) rfl;have aCe:=aD dV.out 0;have aCd:=aD dV.out 1;have aCc:=aD dV.out 2) | ((with_reducible refine bN (f:=17) rfl ?_);refine eB (some 8) rfl rfl Try.func17 (by kernel_rfl) rfl #[.agg #[.int .i64 aQ,.int .i64 aK,.slice cG aV.length cF]] rfl pX ?_;(with_reducible refine (bF.calls aQ aK _ _ aV false _ ?side1 ?side2 A2.out).mono ?_);(case side1 => exact sW (Kd.eN iH.out HB.out));(case side2 => exact iN.out);rintro e w43 ⟨rfl,hb⟩;refine ⟨_,rfl,?_⟩;replace dV:=aA.mk (aH (bT dV) hb);replace jM:=aA.mk (aH (bT jM) hb);replace HB:=aA.mk (aM (eA HB tK AH) hb);(try clear hb);(try clear hb2);(try clear hk);(try clear hi);have VU:=bR jM 0 (.int .i64 0) rfl;have VT:=bR jM 1 (.int .i64 0) rfl;have VS:=bR jM 2 (.slice none 0 0) rfl;have VI:=aD jM.out 0;have VH:=aD jM.out 1;have VG:=aD jM.out 2))
  refine bodyPost_ret (dX rfl _ _ FX 24 #[.int .i64 0,.int .i64 0,.slice none 0 0] (0,0) _ rfl (by (with_reducible repeat first | apply aE | apply aG | apply aC);refine bC (cs:=#[.int .i64 0,.int .i64 0,.slice none 0 0]) ?_ 2 _ rfl;(with_reducible repeat first | apply aE | apply aG | apply aC);refine bC (cs:=#[.int .i64 0,.int .i64 0,.slice none 0 0]) ?_ 1 _ rfl;(with_reducible repeat first | apply aE | apply aG | apply aC);refine bC (cs:=#[.int .i64 0,.int .i64 0,.slice none 0 0]) ?_ 0 _ rfl;(with_reducible repeat first | apply aE | apply aG | apply aC);exact jM.out) Try.underlying24 rfl (by kernel_rfl)) rfl ?_;exact ⟨_,yE,RP,eA HB tK AH⟩
end Go.Proofs.Yteofcbkjhdadpaa.Pr
