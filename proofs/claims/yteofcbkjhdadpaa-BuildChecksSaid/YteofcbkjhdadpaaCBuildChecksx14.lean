import Derived.Test.YteofcbkjhdadpaaCBuildChecksx0
import Derived.Test.YteofcbkjhdadpaaCBuildChecksx2
import Derived.Test.YteofcbkjhdadpaaCBuildChecksx3
import Derived.Test.YteofcbkjhdadpaaCBuildChecksq
set_option maxHeartbeats 8000000
set_option maxRecDepth 100000
set_option linter.unusedSimpArgs false
set_option linter.unusedVariables false
namespace Go.Proofs.Yteofcbkjhdadpaa.Pr
open Go.RowKit Go.Proofs.aH.bJ Go.Proofs.aH.eI Go.Proofs.aH.fW
attribute [local go_sem] iN iL kP kO gK gJ iM iK   -- for this text's walks alone
mutual
def bD.l0 : Nat→List Int→Int→Int→Int→List Int→Option (Int×Int×List Int×Int)
 | 0,_,_,_,_,_ => none
 | k + 1,x1,x6,KO,KN,OQ => if x6 < (x1.length : Int) then (if 0≤x6 then (if (rd x1 x6) < 0 then (some (0,0,([] : List Int),2)) else (if (rd x1 x6) ≥ KO then (some (0,0,([] : List Int),2)) else (bD.l0 k x1 (wrap64 (x6 + 1)) KO KN OQ))) else (none)) else (if (x1.length : Int) > 64 then (some (0,0,([] : List Int),4)) else (bD.l1 k x1 0 KO KN OQ (x1.length : Int) KN ([] : List Int)))
def bD.l1 : Nat→List Int→Int→Int→Int→List Int→Int→Int→List Int→Option (Int×Int×List Int×Int)
 | 0,_,_,_,_,_,_,_,_ => none
 | k + 1,x1,x8,KO,KN,OQ,aHS,aHR,aCp => if x8 < (x1.length : Int) then (if 0≤x8 then ((cD.f k KO KN OQ (rd x1 x8)).bind fun aFW => (if aCp.length + aFW.1.length < 140737488355328 then (bD.l1 k x1 (wrap64 (x8 + 1)) KO KN OQ aHS aHR (aCp ++ aFW.1)) else (none))) else (none)) else (some (aHS,aHR,aCp,0))
end
def bD.f (k : Nat) (aK : Int) (aI : Int) (aQ : List Int) (l1 : List Int) : Option (Int×Int×List Int×Int):=(bA.f aK aI aQ).bind fun aKr => (if aKr = true then (bD.l0 k l1 0 aK aI aQ) else (some (0,0,([] : List Int),3)))
def bD.T6 : Bool×List (List Nat×List Nat):=(true,[([],[]),([],[]),([0,1],[0,1]),([2],[2]),([3],[3]),([4],[4]),([5],[5]),([5],[5]),([6,7,5],[5,6,7]),([8,5],[5,8]),([5],[5]),([10,5],[5,10]),([9,11,5],[5,9,11]),([5,12],[5,12])])
def bD.B6 : List Nat:=[0,0,3,7,15,31,63,63,255,511,63,1087,4095,8191]
theorem bD.aUa : rV .any (opsOf Try.f22 6) = bD.T6:=by kernel_rfl
theorem bD.aOw : nB bD.T6.2 bD.B6 = true:=by kernel_rfl
def bD.T14 : Bool×List (List Nat×List Nat):=(true,[([],[]),([],[]),([],[]),([1,2],[1,2]),([3],[3]),([0,4],[0,4]),([5],[5]),([6],[6]),([6],[6]),([7,5,0,1,2,3,4,5,6,7],[7]),([8,9,0,1,2,3,4,5,6,7,8,9],[8])])
def bD.B14 : List Nat:=[0,0,0,6,14,31,63,127,127,255,1023]
theorem bD.aVK : rV .any (opsOf Try.f22 14) = bD.T14:=by kernel_rfl
theorem bD.aUW : nB bD.T14.2 bD.B14 = true:=by kernel_rfl
theorem bD.calls (k : Nat) (aK : Int) (aI : Int) (bI : Option Addr) (bH : Nat) (aQ : List Int) (A1 : Option Addr) (c1 : Nat) (l1 : List Int) (r1 : Int) (r2 : Int) (r3 : List Int) (r4 : Int) (w : World) (hr0_2 : Kd.C (Kd.int .u8) w bI aQ.length aQ) (hc0_2 : aQ.length≤bH) (hr1 : Kd.C (Kd.int .i64) w A1 l1.length l1) (hc1 : l1.length≤c1) (h : bD.f k aK aI aQ l1 = some (r1,r2,r3,r4)) :
  Calls Try.prog 22 #[.agg #[.int .i64 aK,.int .i64 aI,.slice bI aQ.length bH],.slice A1 l1.length c1] w fun e w' => ∃ uT : Value,e = .returned (.tuple #[.agg #[.int .i64 r1,.int .i64 r2,uT],.int .i64 r4])∧Kd.R (Kd.int .u8) 5 w' w.heap.size (fun _ => True) uT r3∧Below w.heap.size w w':=by
 have zL:=Try.underlying24;have dY:=aA.mk hr0_2;have eC:=aA.mk hc0_2;clear hr0_2 hc0_2;have pQ:=aA.mk hr1;have HC1:=aA.mk hc1;clear hr1 hc1;have HB:=aA.mk (Below.refl w.heap.size w);have H : ((bA.f aK aI aQ).bind fun aKr => (if aKr = true then (bD.l0 k l1 0 aK aI aQ) else (some (0,0,([] : List Int),3)))) = some (r1,r2,r3,r4):=h;clear h;replace H:=Option.bind_eq_some_iff.mp H;obtain ⟨aKr,A30,H⟩:=H;replace H : (if aKr = true then (bD.l0 k l1 0 aK aI aQ) else (some (0,0,([] : List Int),3))) = some (r1,r2,r3,r4):=H;have A3:=aA.mk A30;clear A30
 by_cases c4 : aKr = true
 ·subst c4
  have H1 : (bD.l0 k l1 0 aK aI aQ) = some (r1,r2,r3,r4):=by rw [if_pos rfl] at H;exact H
  clear H;have H:=H1;clear H1;have H':=aA.mk H;clear H;go_enter Try.func22,Try.ntmps22;go_wp2_with (first | ((with_reducible refine bK (N:=2) rfl ?_);refine lS (N:=2) (cs:=#[.int .i64 aK,.int .i64 aI,.slice bI aQ.length bH]) (t:=24) ?_;intro zS hg w5 hbox hb;have eL:=aA.mk (hbox);have bAd:=aA.mk (eP hg (cX HB) : w.heap.size≤zS);have pT:=aA.mk (eP hg (cX HB) : w.heap.size≤zS);replace HB:=aA.mk (aN (cX HB) hb);clear hb hbox hg) | ((with_reducible refine bK (N:=4) rfl ?_);refine lS (N:=4) (cs:=#[.int .i64 0,.int .i64 0,.slice none 0 0]) (t:=24) ?_;intro BR hg w6 hbox hb;have eO:=aA.mk (hbox);have bAc:=aA.mk (eP hg (cL HB pT) : w.heap.size≤BR);have wO:=aA.mk (eP hg (cL HB pT) : w.heap.size≤BR);replace HB:=aA.mk (aN (cL HB pT) hb);have uN:=aA.mk (sU hg (cH eL));have uM:=aA.mk (sV hg (cH eL));replace eL:=aA.mk (aJ (cH eL) hb);clear hb hbox hg;have aXh:=uN.out;have aWC:=uM.out;have NP:=bL eL 0 (.int .i64 aK) rfl;have NO:=bL eL 1 (.int .i64 aI) rfl;have NN:=bL eL 2 (.slice bI aQ.length bH) rfl;have NM:=aC eL.out 0;have NL:=aC eL.out 1;have NK:=aC eL.out 2) | ((with_reducible refine bE (f:=17) rfl ?_);refine cO (some 12) rfl rfl Try.func17 (by kernel_rfl) rfl #[.agg #[.int .i64 aK,.int .i64 aI,.slice bI aQ.length bH]] rfl lU ?_;(with_reducible refine (bA.calls aK aI _ _ aQ true _ ?side1 ?side2 A3.out).mono ?_);(case side1 => exact nY (Kd.cP dY.out HB.out));(case side2 => exact eC.out);rintro e w9 ⟨rfl,hb⟩;refine ⟨_,rfl,?_⟩;replace eL:=aA.mk (aJ (cH eL) hb);replace eO:=aA.mk (aJ (cH eO) hb);replace HB:=aA.mk (aN (dA HB pT wO) hb);(try clear hb);(try clear hb2);(try clear hk);(try clear hi)))
  go_loopg [6] k (fun kq v6 w' => ∃ (iF : Int) (mY : Int) (jQ : Int),v6 = .int .i64 iF∧aA (bD.l0 kq l1 iF aK aI aQ = some (r1,r2,r3,r4))∧aA (kq≤k)∧aA (w'.heap[zS]? = some (.cells #[.int .i64 aK,.int .i64 aI,(.slice bI aQ.length bH)] 24 (0,0)))∧aA (w'.heap[BR]? = some (.cells #[.int .i64 mY,.int .i64 jQ,(.slice none 0 0)] 24 (0,0)))∧aA (Below w.heap.size w w'))
  case atStart => exact ⟨(0),(0),(0),mU,H',⟨Nat.le_refl _⟩,⟨gP eL.out⟩,⟨gP eO.out⟩,⟨dA HB pT wO⟩⟩
  case round =>
   clear H';(try clear c1);(try clear c2);(try clear p2);(try clear c4);(try clear c7);(try clear NP);(try clear NO);(try clear NN);(try clear NM);(try clear NL);(try clear NK);obtain ⟨iF,mY,jQ,rfl,HA,yS,eL,eO,HB⟩:=hrel
   cases gk with
   | zero => exact absurd HA.out (by simp [bD.l0])
   | succ k1 =>
    have H:=HA.out;clear HA;simp only [bD.l0] at H
    by_cases QW : iF < (l1.length : Int)
    ·rw [if_pos QW] at H
     have aOl : decide (iF < (l1.length : Int)) = true:=decide_eq_true QW;clear QW
     by_cases DR : 0≤iF
     ·rw [if_pos DR] at H
      have MP : decide (0≤iF) = true:=decide_eq_true DR;clear DR
      by_cases yR : (rd l1 iF) < 0
      ·rw [if_pos yR] at H
       have UI : decide ((rd l1 iF) < 0) = true:=decide_eq_true yR;clear yR;simp only [Option.some.injEq,Prod.mk.injEq] at H;obtain ⟨rfl,rfl,rfl,rfl⟩:=H
       try go_wp2
       replace eL:=aA.mk (aG eL.out);replace eO:=aA.mk (aG eO.out);replace HB:=aA.mk (eD HB.out);have VC : 0≤(iF : Int):=of_decide_eq_true mD;have q506 : iF < (l1.length : Int):=of_decide_eq_true mD;obtain ⟨ad506,e506,hx506_0⟩:=Kd.mX pQ.out iF VC q506;have CY:=hx506_0
       cases e506
       replace hx506_0:=(HB.out.cell (World.block_lt_of_cell? w _ hx506_0)).trans hx506_0;replace VC:=eq_true VC;replace q506:=eq_true q506;refine qD (n:=14) (S:=fun w' => w'.cell? (ad506.add (iF).toNat) = some (.int .i64 (rd l1 iF))) (ds:=[]) #[false,false,false,false,false,false,false,false,false,false,false,false,false,false] (by kernel_rfl) rfl rfl (((HB.out.cell (World.block_lt_of_cell? w _ CY)).trans CY)) (fun hHeld => ?_);refine jR bD.aUa bD.aOw (fun HT_ HW_ => ?_);generalize wr.drew = w13 at eL eO HB hx506_0 hHeld ⊢;refine bZ (i:=0) (N:=some 21) (v:=?_) (a':=?_) (eB 14 1) rfl rfl (bM HT_.out (by kernel_rfl)) (fun _ _ _ h => h) (Or.inl ⟨by rfl,?_⟩) ?_ ?_;rotate_left
       ·intro w'
        go_simp;(with_reducible rfl)
       rotate_left
       ·simp only [Act.put,cT,cS,cU,bF,bG]
        rfl
       refine bZ (i:=1) (N:=some 22) (v:=?_) (a':=?_) (eB 14 3) rfl rfl (bM HT_.out (by kernel_rfl)) (fun _ _ _ h => h) (Or.inl ⟨by rfl,?_⟩) ?_ ?_;rotate_left
       ·intro w'
        go_simp;(with_reducible rfl)
       rotate_left
       ·simp only [Act.put,cT,cS,cU,bF,bG]
        rfl
       refine bZ (i:=2) (N:=some 23) (v:=?_) (a':=?_) (eB 14 7) rfl rfl (bM HT_.out (by kernel_rfl)) (fun _ _ _ h => h) (Or.inl ⟨by rfl,?_⟩) ?_ ?_;rotate_left
       ·intro w'
        go_simp;(with_reducible rfl)
       rotate_left
       ·simp only [Act.put,cT,cS,cU,bF,bG]
        rfl
       refine gN (i:=3) (N:=some 24) (v:=?_) (a':=?_) (eB 14 15) rfl rfl (dT HT_.out HW_.out (by kernel_rfl)) (fun _ _ _ h => h) (Or.inl ⟨by rfl,?_⟩) hHeld ?_ ?_;rotate_left
       ·intro w' s0
        go_simp;(with_reducible rfl)
       rotate_left
       ·simp only [Act.put,cT,cS,cU,bF,bG]
        rfl
       refine bZ (i:=4) (N:=some 25) (v:=?_) (a':=?_) (eB 14 31) rfl rfl (bM HT_.out (by kernel_rfl)) (fun _ _ _ h => h) (Or.inl ⟨by rfl,?_⟩) ?_ ?_;rotate_left
       ·intro w'
        go_simp;(with_reducible rfl)
       rotate_left
       ·simp only [Act.put,cT,cS,cU,bF,bG]
        rfl
       refine bZ (i:=5) (N:=some 26) (v:=?_) (a':=?_) (eB 14 63) rfl rfl (bM HT_.out (by kernel_rfl)) (fun _ _ _ h => h) (Or.inl ⟨by rfl,?_⟩) ?_ ?_;rotate_left
       ·intro w'
        go_simp;(with_reducible rfl)
       rotate_left
       ·simp only [Act.put,cT,cS,cU,bF,bG]
        rfl
       refine bZ (i:=6) (N:=some 27) (v:=undef) (a':=?_) (eB 14 127) rfl rfl (bM HT_.out (by kernel_rfl)) (fun _ _ _ h => h) (Or.inr ⟨by rfl,rfl⟩) ?_ ?_;rotate_left
       ·simp only [Act.put,cT,cS,cU,bF,bG]
        rfl
       refine bZ (i:=7) (N:=some 28) (v:=undef) (a':=?_) (eB 14 255) rfl rfl (bM HT_.out (by kernel_rfl)) (fun _ _ _ h => h) (Or.inr ⟨by rfl,rfl⟩) ?_ ?_;rotate_left
       ·simp only [Act.put,cT,cS,cU,bF,bG]
        rfl
       refine bZ (i:=8) (N:=some 29) (v:=undef) (a':=?_) (eB 14 511) rfl rfl (bM HT_.out (by kernel_rfl)) (fun _ _ _ h => h) (Or.inr ⟨by rfl,rfl⟩) ?_ ?_;rotate_left
       ·simp only [Act.put,cT,cS,cU,bF,bG]
        rfl
       refine bZ (i:=9) (N:=some 30) (v:=undef) (a':=?_) (eB 14 1023) rfl rfl (bM HT_.out (by kernel_rfl)) (fun _ _ _ h => h) (Or.inr ⟨by rfl,rfl⟩) ?_ ?_;rotate_left
       ·simp only [Act.put,cT,cS,cU,bF,bG]
        rfl
       refine bZ (i:=10) (N:=some 31) (v:=undef) (a':=?_) (eB 14 2047) rfl rfl (bM HT_.out (by kernel_rfl)) (fun _ _ _ h => h) (Or.inr ⟨by rfl,rfl⟩) ?_ ?_;rotate_left
       ·simp only [Act.put,cT,cS,cU,bF,bG]
        rfl
       refine bZ (i:=11) (N:=some 32) (v:=undef) (a':=?_) (eB 14 4095) rfl rfl (bM HT_.out (by kernel_rfl)) (fun _ _ _ h => h) (Or.inr ⟨by rfl,rfl⟩) ?_ ?_;rotate_left
       ·simp only [Act.put,cT,cS,cU,bF,bG]
        rfl
       refine bZ (i:=12) (N:=some 33) (v:=undef) (a':=?_) (eB 14 8191) rfl rfl (bM HT_.out (by kernel_rfl)) (fun _ _ _ h => h) (Or.inr ⟨by rfl,rfl⟩) ?_ ?_;rotate_left
       ·simp only [Act.put,cT,cS,cU,bF,bG]
        rfl
       refine bZ (i:=13) (N:=some 34) (v:=?_) (a':=?_) (eB 14 16383) rfl rfl (bM HT_.out (by kernel_rfl)) (fun _ _ _ h => h) (Or.inl ⟨by rfl,?_⟩) ?_ ?_;rotate_left
       ·intro w'
        go_simp;(with_reducible rfl)
       rotate_left
       ·simp only [Act.put,cT,cS,cU,bF,bG]
        rfl
       refine wV (oD HT_.out (by kernel_rfl)) ?_;have bGN:=uM.out;have bGu:=uN.out;have vY:=bL eO 0 (.int .i64 mY) rfl;have vX:=bL eO 1 (.int .i64 jQ) rfl;have vW:=bL eO 2 (.slice none 0 0) rfl;have vP:=aC eO.out 0;have vO:=aC eO.out 1;have vN:=aC eO.out 2
       try go_wp2
       refine bodyPost_ret (dU rfl _ _ BR 24 #[.int .i64 0,.int .i64 0,.slice none 0 0] (0,0) _ rfl (by (with_reducible repeat first | apply aE | apply aG | apply aD);refine aZ (cs:=#[.int .i64 0,.int .i64 0,.slice none 0 0]) ?_ 2 _ rfl;(with_reducible repeat first | apply aE | apply aG | apply aD);refine aZ (cs:=#[.int .i64 0,.int .i64 jQ,.slice none 0 0]) ?_ 1 _ rfl;(with_reducible repeat first | apply aE | apply aG | apply aD);refine aZ (cs:=#[.int .i64 mY,.int .i64 jQ,.slice none 0 0]) ?_ 0 _ rfl;(with_reducible repeat first | apply aE | apply aG | apply aD);exact eO.out) Try.underlying24 rfl (by kernel_rfl)) rfl ?_;exact ⟨_,tZ,IW,dA HB pT wO⟩
      ·rw [if_neg yR] at H
       have UI : decide ((rd l1 iF) < 0) = false:=decide_eq_false yR;clear yR
       by_cases c16 : (rd l1 iF) ≥ aK
       ·rw [if_pos c16] at H
        have aTg : decide (aK≤(rd l1 iF)) = true:=decide_eq_true c16;clear c16;simp only [Option.some.injEq,Prod.mk.injEq] at H;obtain ⟨rfl,rfl,rfl,rfl⟩:=H
        try go_wp2
        replace eL:=aA.mk (aG eL.out);replace eO:=aA.mk (aG eO.out);replace HB:=aA.mk (eD HB.out);have VC : 0≤(iF : Int):=of_decide_eq_true mD;have q506 : iF < (l1.length : Int):=of_decide_eq_true mD;obtain ⟨ad506,e506,hx506_0⟩:=Kd.mX pQ.out iF VC q506;have CY:=hx506_0
        cases e506
        replace hx506_0:=(HB.out.cell (World.block_lt_of_cell? w _ hx506_0)).trans hx506_0;replace VC:=eq_true VC;replace q506:=eq_true q506;have aFg : 0≤(iF : Int):=of_decide_eq_true mD;have q507 : iF < (l1.length : Int):=of_decide_eq_true mD;obtain ⟨ad507,e507,hx507_0⟩:=Kd.mX pQ.out iF aFg q507;have QD:=hx507_0;obtain rfl : ad506 = ad507:=(by injection e507)
        replace hx507_0:=(HB.out.cell (World.block_lt_of_cell? w _ hx507_0)).trans hx507_0;replace aFg:=eq_true aFg;replace q507:=eq_true q507;refine qD (n:=14) (S:=fun w' => w'.cell? ⟨zS,0,none⟩ = some (.int .i64 aK)∧w'.cell? ⟨zS,1,none⟩ = some (.int .i64 aI)∧w'.cell? ⟨zS,2,none⟩ = some (.slice bI aQ.length bH)∧w'.cell? (ad506.add (iF).toNat) = some (.int .i64 (rd l1 iF))∧w'.cell? (ad506.add (iF).toNat) = some (.int .i64 (rd l1 iF))) (ds:=[]) #[false,false,false,false,false,false,false,false,false,false,false,false,false,false] (by kernel_rfl) rfl rfl ⟨(bB eL.out 0).trans rfl,(bB eL.out 1).trans rfl,(bB eL.out 2).trans rfl,((HB.out.cell (World.block_lt_of_cell? w _ CY)).trans CY),((HB.out.cell (World.block_lt_of_cell? w _ QD)).trans QD)⟩ (fun hHeld => ?_);refine jR bD.aUa bD.aOw (fun HT_ HW_ => ?_);generalize wr.drew = w17 at eL eO HB hx506_0 hx507_0 hHeld ⊢;refine bZ (i:=0) (N:=some 21) (v:=?_) (a':=?_) (eB 14 1) rfl rfl (bM HT_.out (by kernel_rfl)) (fun _ _ _ h => h) (Or.inl ⟨by rfl,?_⟩) ?_ ?_;rotate_left
        ·intro w'
         go_simp;(with_reducible rfl)
        rotate_left
        ·simp only [Act.put,cT,cS,cU,bF,bG]
         rfl
        refine bZ (i:=1) (N:=some 22) (v:=?_) (a':=?_) (eB 14 3) rfl rfl (bM HT_.out (by kernel_rfl)) (fun _ _ _ h => h) (Or.inl ⟨by rfl,?_⟩) ?_ ?_;rotate_left
        ·intro w'
         go_simp;(with_reducible rfl)
        rotate_left
        ·simp only [Act.put,cT,cS,cU,bF,bG]
         rfl
        refine bZ (i:=2) (N:=some 23) (v:=?_) (a':=?_) (eB 14 7) rfl rfl (bM HT_.out (by kernel_rfl)) (fun _ _ _ h => h) (Or.inl ⟨by rfl,?_⟩) ?_ ?_;rotate_left
        ·intro w'
         go_simp;(with_reducible rfl)
        rotate_left
        ·simp only [Act.put,cT,cS,cU,bF,bG]
         rfl
        refine gN (i:=3) (N:=some 24) (v:=?_) (a':=?_) (eB 14 15) rfl rfl (dT HT_.out HW_.out (by kernel_rfl)) (fun _ _ _ h => h) (Or.inl ⟨by rfl,?_⟩) hHeld ?_ ?_;rotate_left
        ·rintro w' ⟨s0,s1,s2,s3,s4⟩
         go_simp;(with_reducible rfl)
        rotate_left
        ·simp only [Act.put,cT,cS,cU,bF,bG]
         rfl
        refine bZ (i:=4) (N:=some 25) (v:=?_) (a':=?_) (eB 14 31) rfl rfl (bM HT_.out (by kernel_rfl)) (fun _ _ _ h => h) (Or.inl ⟨by rfl,?_⟩) ?_ ?_;rotate_left
        ·intro w'
         go_simp;(with_reducible rfl)
        rotate_left
        ·simp only [Act.put,cT,cS,cU,bF,bG]
         rfl
        refine bZ (i:=5) (N:=some 26) (v:=?_) (a':=?_) (eB 14 63) rfl rfl (bM HT_.out (by kernel_rfl)) (fun _ _ _ h => h) (Or.inl ⟨by rfl,?_⟩) ?_ ?_;rotate_left
        ·intro w'
         go_simp;(with_reducible rfl)
        rotate_left
        ·simp only [Act.put,cT,cS,cU,bF,bG]
         rfl
        refine bZ (i:=6) (N:=some 27) (v:=?_) (a':=?_) (eB 14 127) rfl rfl (bM HT_.out (by kernel_rfl)) (fun _ _ _ h => h) (Or.inl ⟨by rfl,?_⟩) ?_ ?_;rotate_left
        ·intro w'
         go_simp;(with_reducible rfl)
        rotate_left
        ·simp only [Act.put,cT,cS,cU,bF,bG]
         rfl
        refine bZ (i:=7) (N:=some 28) (v:=?_) (a':=?_) (eB 14 255) rfl rfl (bM HT_.out (by kernel_rfl)) (fun _ _ _ h => h) (Or.inl ⟨by rfl,?_⟩) ?_ ?_;rotate_left
        ·intro w'
         go_simp;(with_reducible rfl)
        rotate_left
        ·simp only [Act.put,cT,cS,cU,bF,bG]
         rfl
        refine bZ (i:=8) (N:=some 29) (v:=?_) (a':=?_) (eB 14 511) rfl rfl (bM HT_.out (by kernel_rfl)) (fun _ _ _ h => h) (Or.inl ⟨by rfl,?_⟩) ?_ ?_;rotate_left
        ·intro w'
         go_simp;(with_reducible rfl)
        rotate_left
        ·simp only [Act.put,cT,cS,cU,bF,bG]
         rfl
        refine bZ (i:=10) (N:=some 31) (v:=?_) (a':=?_) (eB 14 1535) rfl rfl (bM HT_.out (by kernel_rfl)) (fun _ _ _ h => h) (Or.inl ⟨by rfl,?_⟩) ?_ ?_;rotate_left
        ·intro w'
         go_simp;(with_reducible rfl)
        rotate_left
        ·simp only [Act.put,cT,cS,cU,bF,bG]
         rfl
        refine gN (i:=9) (N:=some 30) (v:=?_) (a':=?_) (eB 14 2047) rfl rfl (dT HT_.out HW_.out (by kernel_rfl)) (fun _ _ _ h => h) (Or.inl ⟨by rfl,?_⟩) hHeld ?_ ?_;rotate_left
        ·rintro w' ⟨s0,s1,s2,s3,s4⟩
         go_simp;(with_reducible rfl)
        rotate_left
        ·simp only [Act.put,cT,cS,cU,bF,bG]
         rfl
        refine gN (i:=11) (N:=some 32) (v:=?_) (a':=?_) (eB 14 4095) rfl rfl (dT HT_.out HW_.out (by kernel_rfl)) (fun _ _ _ h => h) (Or.inl ⟨by rfl,?_⟩) hHeld ?_ ?_;rotate_left
        ·rintro w' ⟨s0,s1,s2,s3,s4⟩
         go_simp;(with_reducible rfl)
        rotate_left
        ·simp only [Act.put,cT,cS,cU,bF,bG]
         rfl
        refine bZ (i:=12) (N:=some 33) (v:=?_) (a':=?_) (eB 14 8191) rfl rfl (bM HT_.out (by kernel_rfl)) (fun _ _ _ h => h) (Or.inl ⟨by rfl,?_⟩) ?_ ?_;rotate_left
        ·intro w'
         go_simp;(with_reducible rfl)
        rotate_left
        ·simp only [Act.put,cT,cS,cU,bF,bG]
         rfl
        refine bZ (i:=13) (N:=some 34) (v:=?_) (a':=?_) (eB 14 16383) rfl rfl (bM HT_.out (by kernel_rfl)) (fun _ _ _ h => h) (Or.inl ⟨by rfl,?_⟩) ?_ ?_;rotate_left
        ·intro w'
         go_simp;(with_reducible rfl)
        rotate_left
        ·simp only [Act.put,cT,cS,cU,bF,bG]
         rfl
        refine wV (oD HT_.out (by kernel_rfl)) ?_;have aFx:=uM.out;have aFu:=uN.out;have mQ:=bL eO 0 (.int .i64 mY) rfl;have mP:=bL eO 1 (.int .i64 jQ) rfl;have mO:=bL eO 2 (.slice none 0 0) rfl;have mN:=aC eO.out 0;have mM:=aC eO.out 1;have mL:=aC eO.out 2
        try go_wp2
        refine bodyPost_ret (dU rfl _ _ BR 24 #[.int .i64 0,.int .i64 0,.slice none 0 0] (0,0) _ rfl (by (with_reducible repeat first | apply aE | apply aG | apply aD);refine aZ (cs:=#[.int .i64 0,.int .i64 0,.slice none 0 0]) ?_ 2 _ rfl;(with_reducible repeat first | apply aE | apply aG | apply aD);refine aZ (cs:=#[.int .i64 0,.int .i64 jQ,.slice none 0 0]) ?_ 1 _ rfl;(with_reducible repeat first | apply aE | apply aG | apply aD);refine aZ (cs:=#[.int .i64 mY,.int .i64 jQ,.slice none 0 0]) ?_ 0 _ rfl;(with_reducible repeat first | apply aE | apply aG | apply aD);exact eO.out) Try.underlying24 rfl (by kernel_rfl)) rfl ?_;exact ⟨_,tZ,IW,dA HB pT wO⟩
       ·rw [if_neg c16] at H
        have aTg : decide (aK≤(rd l1 iF)) = false:=decide_eq_false c16;clear c16;have H':=aA.mk H;clear H
        try go_wp2
        replace eL:=aA.mk (aG eL.out);replace eO:=aA.mk (aG eO.out);replace HB:=aA.mk (eD HB.out);have VC : 0≤(iF : Int):=of_decide_eq_true mD;have q506 : iF < (l1.length : Int):=of_decide_eq_true mD;obtain ⟨ad506,e506,hx506_0⟩:=Kd.mX pQ.out iF VC q506;have CY:=hx506_0
        cases e506
        replace hx506_0:=(HB.out.cell (World.block_lt_of_cell? w _ hx506_0)).trans hx506_0;replace VC:=eq_true VC;replace q506:=eq_true q506;have aFg : 0≤(iF : Int):=of_decide_eq_true mD;have q507 : iF < (l1.length : Int):=of_decide_eq_true mD;obtain ⟨ad507,e507,hx507_0⟩:=Kd.mX pQ.out iF aFg q507;have QD:=hx507_0;obtain rfl : ad506 = ad507:=(by injection e507)
        replace hx507_0:=(HB.out.cell (World.block_lt_of_cell? w _ hx507_0)).trans hx507_0;replace aFg:=eq_true aFg;replace q507:=eq_true q507;refine qD (n:=14) (S:=fun w' => w'.cell? ⟨zS,0,none⟩ = some (.int .i64 aK)∧w'.cell? ⟨zS,1,none⟩ = some (.int .i64 aI)∧w'.cell? ⟨zS,2,none⟩ = some (.slice bI aQ.length bH)∧w'.cell? (ad506.add (iF).toNat) = some (.int .i64 (rd l1 iF))∧w'.cell? (ad506.add (iF).toNat) = some (.int .i64 (rd l1 iF))) (ds:=[]) #[false,false,false,false,false,false,false,false,false,false,false,false,false,false] (by kernel_rfl) rfl rfl ⟨(bB eL.out 0).trans rfl,(bB eL.out 1).trans rfl,(bB eL.out 2).trans rfl,((HB.out.cell (World.block_lt_of_cell? w _ CY)).trans CY),((HB.out.cell (World.block_lt_of_cell? w _ QD)).trans QD)⟩ (fun hHeld => ?_);refine jR bD.aUa bD.aOw (fun HT_ HW_ => ?_);generalize wr.drew = w20 at eL eO HB hx506_0 hx507_0 hHeld ⊢;refine bZ (i:=0) (N:=some 21) (v:=?_) (a':=?_) (eB 14 1) rfl rfl (bM HT_.out (by kernel_rfl)) (fun _ _ _ h => h) (Or.inl ⟨by rfl,?_⟩) ?_ ?_;rotate_left
        ·intro w'
         go_simp;(with_reducible rfl)
        rotate_left
        ·simp only [Act.put,cT,cS,cU,bF,bG]
         rfl
        refine bZ (i:=1) (N:=some 22) (v:=?_) (a':=?_) (eB 14 3) rfl rfl (bM HT_.out (by kernel_rfl)) (fun _ _ _ h => h) (Or.inl ⟨by rfl,?_⟩) ?_ ?_;rotate_left
        ·intro w'
         go_simp;(with_reducible rfl)
        rotate_left
        ·simp only [Act.put,cT,cS,cU,bF,bG]
         rfl
        refine bZ (i:=2) (N:=some 23) (v:=?_) (a':=?_) (eB 14 7) rfl rfl (bM HT_.out (by kernel_rfl)) (fun _ _ _ h => h) (Or.inl ⟨by rfl,?_⟩) ?_ ?_;rotate_left
        ·intro w'
         go_simp;(with_reducible rfl)
        rotate_left
        ·simp only [Act.put,cT,cS,cU,bF,bG]
         rfl
        refine gN (i:=3) (N:=some 24) (v:=?_) (a':=?_) (eB 14 15) rfl rfl (dT HT_.out HW_.out (by kernel_rfl)) (fun _ _ _ h => h) (Or.inl ⟨by rfl,?_⟩) hHeld ?_ ?_;rotate_left
        ·rintro w' ⟨s0,s1,s2,s3,s4⟩
         go_simp;(with_reducible rfl)
        rotate_left
        ·simp only [Act.put,cT,cS,cU,bF,bG]
         rfl
        refine bZ (i:=4) (N:=some 25) (v:=?_) (a':=?_) (eB 14 31) rfl rfl (bM HT_.out (by kernel_rfl)) (fun _ _ _ h => h) (Or.inl ⟨by rfl,?_⟩) ?_ ?_;rotate_left
        ·intro w'
         go_simp;(with_reducible rfl)
        rotate_left
        ·simp only [Act.put,cT,cS,cU,bF,bG]
         rfl
        refine bZ (i:=5) (N:=some 26) (v:=?_) (a':=?_) (eB 14 63) rfl rfl (bM HT_.out (by kernel_rfl)) (fun _ _ _ h => h) (Or.inl ⟨by rfl,?_⟩) ?_ ?_;rotate_left
        ·intro w'
         go_simp;(with_reducible rfl)
        rotate_left
        ·simp only [Act.put,cT,cS,cU,bF,bG]
         rfl
        refine bZ (i:=6) (N:=some 27) (v:=?_) (a':=?_) (eB 14 127) rfl rfl (bM HT_.out (by kernel_rfl)) (fun _ _ _ h => h) (Or.inl ⟨by rfl,?_⟩) ?_ ?_;rotate_left
        ·intro w'
         go_simp;(with_reducible rfl)
        rotate_left
        ·simp only [Act.put,cT,cS,cU,bF,bG]
         rfl
        refine bZ (i:=7) (N:=some 28) (v:=?_) (a':=?_) (eB 14 255) rfl rfl (bM HT_.out (by kernel_rfl)) (fun _ _ _ h => h) (Or.inl ⟨by rfl,?_⟩) ?_ ?_;rotate_left
        ·intro w'
         go_simp;(with_reducible rfl)
        rotate_left
        ·simp only [Act.put,cT,cS,cU,bF,bG]
         rfl
        refine bZ (i:=8) (N:=some 29) (v:=?_) (a':=?_) (eB 14 511) rfl rfl (bM HT_.out (by kernel_rfl)) (fun _ _ _ h => h) (Or.inl ⟨by rfl,?_⟩) ?_ ?_;rotate_left
        ·intro w'
         go_simp;(with_reducible rfl)
        rotate_left
        ·simp only [Act.put,cT,cS,cU,bF,bG]
         rfl
        refine bZ (i:=10) (N:=some 31) (v:=?_) (a':=?_) (eB 14 1535) rfl rfl (bM HT_.out (by kernel_rfl)) (fun _ _ _ h => h) (Or.inl ⟨by rfl,?_⟩) ?_ ?_;rotate_left
        ·intro w'
         go_simp;(with_reducible rfl)
        rotate_left
        ·simp only [Act.put,cT,cS,cU,bF,bG]
         rfl
        refine gN (i:=9) (N:=some 30) (v:=?_) (a':=?_) (eB 14 2047) rfl rfl (dT HT_.out HW_.out (by kernel_rfl)) (fun _ _ _ h => h) (Or.inl ⟨by rfl,?_⟩) hHeld ?_ ?_;rotate_left
        ·rintro w' ⟨s0,s1,s2,s3,s4⟩
         go_simp;(with_reducible rfl)
        rotate_left
        ·simp only [Act.put,cT,cS,cU,bF,bG]
         rfl
        refine gN (i:=11) (N:=some 32) (v:=?_) (a':=?_) (eB 14 4095) rfl rfl (dT HT_.out HW_.out (by kernel_rfl)) (fun _ _ _ h => h) (Or.inl ⟨by rfl,?_⟩) hHeld ?_ ?_;rotate_left
        ·rintro w' ⟨s0,s1,s2,s3,s4⟩
         go_simp;(with_reducible rfl)
        rotate_left
        ·simp only [Act.put,cT,cS,cU,bF,bG]
         rfl
        refine bZ (i:=12) (N:=some 33) (v:=?_) (a':=?_) (eB 14 8191) rfl rfl (bM HT_.out (by kernel_rfl)) (fun _ _ _ h => h) (Or.inl ⟨by rfl,?_⟩) ?_ ?_;rotate_left
        ·intro w'
         go_simp;(with_reducible rfl)
        rotate_left
        ·simp only [Act.put,cT,cS,cU,bF,bG]
         rfl
        refine bZ (i:=13) (N:=some 34) (v:=?_) (a':=?_) (eB 14 16383) rfl rfl (bM HT_.out (by kernel_rfl)) (fun _ _ _ h => h) (Or.inl ⟨by rfl,?_⟩) ?_ ?_;rotate_left
        ·intro w'
         go_simp;(with_reducible rfl)
        rotate_left
        ·simp only [Act.put,cT,cS,cU,bF,bG]
         rfl
        refine wV (oD HT_.out (by kernel_rfl)) ?_
        try go_wp2
        go_roundg k1
        case measure => have:=yS.out;omega
        case rel => exact ⟨(wrap64 (iF + 1)),(mY),(jQ),mU,H',⟨by have:=yS.out;omega⟩,⟨gP eL.out⟩,⟨gP eO.out⟩,⟨dA HB pT wO⟩⟩
     ·rw [if_neg DR] at H
      exact absurd H (by simp)
    ·rw [if_neg QW] at H
     have aOl : decide (iF < (l1.length : Int)) = false:=decide_eq_false QW;clear QW
     by_cases DQ : (l1.length : Int) > 64
     ·rw [if_pos DQ] at H
      have ER : decide (64 < (l1.length : Int)) = true:=decide_eq_true DQ;have aTf : decide (64 < l1.length) = true:=decide_eq_true (by omega);clear DQ;simp only [Option.some.injEq,Prod.mk.injEq] at H;obtain ⟨rfl,rfl,rfl,rfl⟩:=H;have aNr:=uM.out;have aNm:=uN.out;have LK:=bL eO 0 (.int .i64 mY) rfl;have LJ:=bL eO 1 (.int .i64 jQ) rfl;have LI:=bL eO 2 (.slice none 0 0) rfl;have LH:=aC eO.out 0;have LG:=aC eO.out 1;have LF:=aC eO.out 2
      go_wp2
      refine bodyPost_ret (dU rfl _ _ BR 24 #[.int .i64 0,.int .i64 0,.slice none 0 0] (0,0) _ rfl (by (with_reducible repeat first | apply aE | apply aG | apply aD);refine aZ (cs:=#[.int .i64 0,.int .i64 0,.slice none 0 0]) ?_ 2 _ rfl;(with_reducible repeat first | apply aE | apply aG | apply aD);refine aZ (cs:=#[.int .i64 0,.int .i64 jQ,.slice none 0 0]) ?_ 1 _ rfl;(with_reducible repeat first | apply aE | apply aG | apply aD);refine aZ (cs:=#[.int .i64 mY,.int .i64 jQ,.slice none 0 0]) ?_ 0 _ rfl;(with_reducible repeat first | apply aE | apply aG | apply aD);exact eO.out) Try.underlying24 rfl (by kernel_rfl)) rfl ?_;exact ⟨_,tZ,IW,dA HB pT wO⟩
     ·rw [if_neg DQ] at H
      have ER : decide (64 < (l1.length : Int)) = false:=decide_eq_false DQ;have aTf : decide (64 < l1.length) = false:=decide_eq_false (by omega);clear DQ;have H':=aA.mk H;clear H;have aSI:=uN.out;have aSq:=uM.out;have vV:=bL eL 0 (.int .i64 aK) rfl;have vU:=bL eL 1 (.int .i64 aI) rfl;have vT:=bL eL 2 (.slice bI aQ.length bH) rfl;have vM:=aC eL.out 0;have vL:=aC eL.out 1;have vK:=aC eL.out 2;go_wp2_with (first | ((with_reducible refine bK (N:=7) rfl ?_);refine lS (N:=7) (cs:=#[.int .i64 0,.int .i64 0,.slice none 0 0]) (t:=24) ?_;intro aJj hg w26 hbox hb;have kE:=aA.mk (hbox);have bHv:=aA.mk (eP hg (dA HB pT wO) : w.heap.size≤aJj);have aAp:=aA.mk (eP hg (dA HB pT wO) : w.heap.size≤aJj);replace HB:=aA.mk (aN (dA HB pT wO) hb);have xN:=aA.mk (sU hg (cH eL));have TJ:=aA.mk (sV hg (cH eL));replace eL:=aA.mk (aJ (cH eL) hb);have xM:=aA.mk (sU hg (cH eO));have TI:=aA.mk (sV hg (cH eO));replace eO:=aA.mk (aJ (cH eO) hb);clear hb hbox hg;have aSG:=TJ.out;have aSo:=xN.out;have aXx:=TI.out;have aWS:=xM.out;have GN:=bL kE 0 (.int .i64 0) rfl;have GM:=bL kE 1 (.int .i64 0) rfl;have GL:=bL kE 2 (.slice none 0 0) rfl;have GH:=aC kE.out 0;have GG:=aC kE.out 1;have GF:=aC kE.out 2))
      go_loopg [8] k1 (fun kq v8 w' => ∃ (jF : Int) (pU : List Int) (CU : Value),v8 = .int .i64 jF∧aA (bD.l1 kq l1 jF aK aI aQ (l1.length : Int) aI pU = some (r1,r2,r3,r4))∧aA (kq≤k1)∧aA (Kd.R (Kd.int .u8) 5 w' w.heap.size (fun _ => True) CU pU)∧aA (w'.heap[zS]? = some (.cells #[.int .i64 aK,.int .i64 aI,(.slice bI aQ.length bH)] 24 (0,0)))∧aA (w'.heap[BR]? = some (.cells #[.int .i64 mY,.int .i64 jQ,(.slice none 0 0)] 24 (0,0)))∧aA (w'.heap[aJj]? = some (.cells #[.int .i64 (l1.length : Int),.int .i64 aI,CU] 24 (0,0)))∧aA (Below w.heap.size w w'))
      case atStart => exact ⟨(0),(([] : List Int)),(.slice none 0 0),mU,H',⟨Nat.le_refl _⟩,⟨IW⟩,⟨by (with_reducible repeat first | apply aE | apply aG | apply aD);refine aV ?_ xN.out _;(with_reducible repeat first | apply aE | apply aG | apply aD);refine aV ?_ xN.out _;(with_reducible repeat first | apply aE | apply aG | apply aD);refine aV ?_ xN.out _;(with_reducible repeat first | apply aE | apply aG | apply aD);exact eL.out⟩,⟨by (with_reducible repeat first | apply aE | apply aG | apply aD);refine aV ?_ xM.out _;(with_reducible repeat first | apply aE | apply aG | apply aD);refine aV ?_ xM.out _;(with_reducible repeat first | apply aE | apply aG | apply aD);refine aV ?_ xM.out _;(with_reducible repeat first | apply aE | apply aG | apply aD);exact eO.out⟩,⟨by (with_reducible repeat first | apply aE | apply aG | apply aD);refine aZ (cs:=#[.int .i64 (l1.length : Int),.int .i64 aI,.slice none 0 0]) ?_ 2 _ rfl;(with_reducible repeat first | apply aE | apply aG | apply aD);refine aZ (cs:=#[.int .i64 (l1.length : Int),.int .i64 0,.slice none 0 0]) ?_ 1 _ rfl;(with_reducible repeat first | apply aE | apply aG | apply aD);refine aZ (cs:=#[.int .i64 0,.int .i64 0,.slice none 0 0]) ?_ 0 _ rfl;(with_reducible repeat first | apply aE | apply aG | apply aD);exact kE.out⟩,⟨fE HB pT wO aAp⟩⟩
      case round =>
       clear H';(try clear c1);(try clear c2);(try clear p2);(try clear c4);(try clear p5);(try clear q5);(try clear hx5);(try clear p6);(try clear c7);(try clear QW);(try clear aOl);(try clear DR);(try clear MP);(try clear yR);(try clear UI);(try clear ZX);(try clear c16);(try clear aTg);(try clear IU);(try clear OE);(try clear DQ);(try clear ER);(try clear aTf);(try clear RP);(try clear XM);(try clear c27);(try clear c28);(try clear vY);(try clear vX);(try clear vW);(try clear mQ);(try clear mP);(try clear mO);(try clear LK);(try clear LJ);(try clear LI);(try clear vV);(try clear vU);(try clear vT);(try clear GN);(try clear GM);(try clear GL);(try clear NP);(try clear NO);(try clear NN);(try clear vP);(try clear vO);(try clear vN);(try clear mN);(try clear mM);(try clear mL);(try clear LH);(try clear LG);(try clear LF);(try clear vM);(try clear vL);(try clear vK);(try clear GH);(try clear GG);(try clear GF);(try clear NM);(try clear NL);(try clear NK);(try clear hx506_0);(try clear hx507_0);(try clear p2);(try clear VC);(try clear aFg);(try clear q506);(try clear q507);obtain ⟨jF,pU,CU,rfl,HA,zU,mC,eL,eO,kE,HB⟩:=hrel
       cases gk with
       | zero => exact absurd HA.out (by simp [bD.l1])
       | succ k2 =>
        have H:=HA.out;clear HA;simp only [bD.l1] at H
        by_cases RO : jF < (l1.length : Int)
        ·rw [if_pos RO] at H
         have ZV : decide (jF < (l1.length : Int)) = true:=decide_eq_true RO;clear RO
         by_cases IT : 0≤jF
         ·rw [if_pos IT] at H
          have UF : decide (0≤jF) = true:=decide_eq_true IT;clear IT;replace H:=Option.bind_eq_some_iff.mp H;obtain ⟨⟨aGE,bEF⟩,bAM,H⟩:=H;replace H : (if pU.length + aGE.length < 140737488355328 then (bD.l1 k2 l1 (wrap64 (jF + 1)) aK aI aQ (l1.length : Int) aI (pU ++ aGE)) else (none)) = some (r1,r2,r3,r4):=H;have A32:=aA.mk bAM;clear bAM
          by_cases c33 : pU.length + aGE.length < 140737488355328
          ·rw [if_pos c33] at H
           have LMc33:=aA.mk c33;clear c33;obtain ⟨y514,hy514⟩ : ∃ y_ : List Int,y_ = (pU ++ aGE):=⟨_,rfl⟩
           replace H : (bD.l1 k2 l1 (wrap64 (jF + 1)) aK aI aQ (l1.length : Int) aI y514) = some (r1,r2,r3,r4):=by first | (rw [hy514];with_reducible exact H) | (have H2_:=(Option.bind_some _ _).symm.trans H;rw [hy514];with_reducible exact H2_) | (have H2_:=(Option.bind_some _ _).symm.trans H;with_reducible exact H2_) | with_reducible exact H | (rw [hy514];exact H) | exact H
           have Ny514:=aA.mk hy514;clear hy514;have H':=aA.mk H;clear H
           try go_wp2
           replace mC:=aA.mk (Kd.bP mC.out);replace eL:=aA.mk (aG eL.out);replace eO:=aA.mk (aG eO.out);replace kE:=aA.mk (aG kE.out);replace HB:=aA.mk (eD HB.out);have aUp : 0≤(jF : Int):=of_decide_eq_true mD;have q509 : jF < (l1.length : Int):=of_decide_eq_true mD;obtain ⟨ad509,e509,hx509_0⟩:=Kd.mX pQ.out jF aUp q509;have VV:=hx509_0
           cases e509
           replace hx509_0:=(HB.out.cell (World.block_lt_of_cell? w _ hx509_0)).trans hx509_0;replace aUp:=eq_true aUp;replace q509:=eq_true q509;refine qD (n:=11) (S:=fun w' => w'.cell? ⟨zS,0,none⟩ = some (.int .i64 aK)∧w'.cell? ⟨zS,1,none⟩ = some (.int .i64 aI)∧w'.cell? ⟨zS,2,none⟩ = some (.slice bI aQ.length bH)∧w'.cell? (ad509.add (jF).toNat) = some (.int .i64 (rd l1 jF))) (ds:=[]) #[false,false,false,false,false,false,false,false,false,false,false] (by kernel_rfl) rfl rfl ⟨(bB eL.out 0).trans rfl,(bB eL.out 1).trans rfl,(bB eL.out 2).trans rfl,((HB.out.cell (World.block_lt_of_cell? w _ VV)).trans VV)⟩ (fun hHeld => ?_);refine jR bD.aVK bD.aUW (fun HT_ HW_ => ?_);generalize wr.drew = w34 at mC eL eO kE HB hx509_0 hHeld ⊢;refine bZ (i:=1) (N:=some 53) (v:=?_) (a':=?_) (eB 11 2) rfl rfl (bM HT_.out (by kernel_rfl)) (fun _ _ _ h => h) (Or.inl ⟨by rfl,?_⟩) ?_ ?_;rotate_left
           ·intro w'
            go_simp;(with_reducible rfl)
           rotate_left
           ·simp only [Act.put,cT,cS,cU,bF,bG]
            rfl
           refine bZ (i:=2) (N:=some 54) (v:=?_) (a':=?_) (eB 11 6) rfl rfl (bM HT_.out (by kernel_rfl)) (fun _ _ _ h => h) (Or.inl ⟨by rfl,?_⟩) ?_ ?_;rotate_left
           ·intro w'
            go_simp;(with_reducible rfl)
           rotate_left
           ·simp only [Act.put,cT,cS,cU,bF,bG]
            rfl
           refine bZ (i:=3) (N:=some 55) (v:=?_) (a':=?_) (eB 11 14) rfl rfl (bM HT_.out (by kernel_rfl)) (fun _ _ _ h => h) (Or.inl ⟨by rfl,?_⟩) ?_ ?_;rotate_left
           ·intro w'
            go_simp;(with_reducible rfl)
           rotate_left
           ·simp only [Act.put,cT,cS,cU,bF,bG]
            rfl
           refine gN (i:=0) (N:=some 52) (v:=?_) (a':=?_) (eB 11 15) rfl rfl (dT HT_.out HW_.out (by kernel_rfl)) (fun _ _ _ h => h) (Or.inl ⟨by rfl,?_⟩) hHeld ?_ ?_;rotate_left
           ·rintro w' ⟨s0,s1,s2,s3⟩
            go_simp;(with_reducible rfl)
           rotate_left
           ·simp only [Act.put,cT,cS,cU,bF,bG]
            rfl
           refine gN (i:=4) (N:=some 56) (v:=?_) (a':=?_) (eB 11 31) rfl rfl (dT HT_.out HW_.out (by kernel_rfl)) (fun _ _ _ h => h) (Or.inl ⟨by rfl,?_⟩) hHeld ?_ ?_;rotate_left
           ·rintro w' ⟨s0,s1,s2,s3⟩
            go_simp;(with_reducible rfl)
           rotate_left
           ·simp only [Act.put,cT,cS,cU,bF,bG]
            rfl
           refine EK (i:=5) (N:=some 57) (eB 11 63) rfl rfl (jY HT_.out (by kernel_rfl)) (by decide) (fun K hK => ?_);refine DN Try.func54 (by kernel_rfl) rfl #[.agg #[.int .i64 aK,.int .i64 aI,.slice bI aQ.length bH],.int .i64 (rd l1 jF)] (by rfl) rfl rfl lU ?_
           with_reducible refine (cD.calls k2 aK aI _ _ aQ (rd l1 jF) aGE bEF _ ?side1 ?side2 A32.out).mono ?_
           (case side1 => exact nY (Kd.cP dY.out HB.out))
           (case side2 => exact eC.out);rintro e w35 ⟨bIo,rfl,ho0,hb⟩;refine ⟨_,rfl,?_⟩;have aCf:=aA.mk (Kd.dI (Kd.eM ho0 (Kd.jD (dB mC.out))) (bR (fE HB pT wO aAp)));replace mC:=aA.mk (Kd.cZ (dB mC.out) (Kd.eK ho0) hb);replace eL:=aA.mk (aJ (cH eL) hb);replace eO:=aA.mk (aJ (cH eO) hb);replace kE:=aA.mk (aJ (cH kE) hb);replace HB:=aA.mk (aN (fE HB pT wO aAp) hb);(try clear hb);(try clear hb2);(try clear hk);(try clear hi);(try clear ho0);refine hK.out _ _ ⟨(bB eL.out 0).trans rfl,(bB eL.out 1).trans rfl,(bB eL.out 2).trans rfl,((HB.out.cell (World.block_lt_of_cell? w _ VV)).trans VV)⟩ (fun hHeld => ?_);clear hK K;refine qL (a':=?_) ?_ ?_;rotate_left
           ·show Act.put _ (some 57) _ = _
            simp only [Act.put,cT,cS,cU,bF,bG];rfl
           refine bZ (i:=6) (N:=some 51) (v:=?_) (a':=?_) (eB 11 127) rfl rfl (bM HT_.out (by kernel_rfl)) (fun _ _ _ h => h) (Or.inl ⟨by rfl,?_⟩) ?_ ?_;rotate_left
           ·intro w'
            go_simp;(with_reducible rfl)
           rotate_left
           ·simp only [Act.put,cT,cS,cU,bF,bG]
            rfl
           refine bZ (i:=7) (N:=some 58) (v:=?_) (a':=?_) (eB 11 255) rfl rfl (bM HT_.out (by kernel_rfl)) (fun _ _ _ h => h) (Or.inl ⟨by rfl,?_⟩) ?_ ?_;rotate_left
           ·intro w'
            go_simp;(with_reducible rfl)
           rotate_left
           ·simp only [Act.put,cT,cS,cU,bF,bG]
            rfl
           refine bZ (i:=8) (N:=some 59) (v:=?_) (a':=?_) (eB 11 511) rfl rfl (bM HT_.out (by kernel_rfl)) (fun _ _ _ h => h) (Or.inl ⟨by rfl,?_⟩) ?_ ?_;rotate_left
           ·intro w'
            go_simp;(with_reducible rfl)
           rotate_left
           ·simp only [Act.put,cT,cS,cU,bF,bG]
            rfl
           refine bZ (i:=9) (N:=some 9) (v:=?_) (a':=?_) (eB 11 1023) rfl rfl (bM HT_.out (by kernel_rfl)) (fun _ _ _ h => h) (Or.inl ⟨by rfl,?_⟩) ?_ ?_;rotate_left
           ·intro w'
            go_simp;(with_reducible rfl)
           rotate_left
           ·simp only [Act.put,cT,cS,cU,bF,bG]
            rfl
           refine bZ (i:=10) (N:=some 10) (v:=?_) (a':=?_) (eB 11 2047) rfl rfl (bM HT_.out (by kernel_rfl)) (fun _ _ _ h => h) (Or.inl ⟨by rfl,?_⟩) ?_ ?_;rotate_left
           ·intro w'
            go_simp;(with_reducible rfl)
           rotate_left
           ·simp only [Act.put,cT,cS,cU,bF,bG]
            rfl
           refine wV (oD HT_.out (by kernel_rfl)) ?_;have aSE:=TJ.out;have aSm:=xN.out;have aSD:=TI.out;have aSl:=xM.out;have WY:=bL kE 0 (.int .i64 (l1.length : Int)) rfl;have WX:=bL kE 1 (.int .i64 aI) rfl;have WW:=bL kE 2 CU rfl;have WE:=aC kE.out 0;have WD:=aC kE.out 1;have WC:=aC kE.out 2;obtain ⟨bFQ,bFB,eo40⟩:=Kd.cK aCf.out;subst eo40
           try go_wp2_with (first | ((with_reducible refine rY (b:=.append) (xs:=#[.tmp 61,.tmp 62]) rfl ?_);at_builtin;refine Kd.EC (Kd.int .u8) (w0:=w) w.heap.size rfl (.tmp 61) (.tmp 62) 22 5 (.int .u8 0) 1 rfl Try.underlying22 wT rfl (by decide) (by omega) CU pU aGE _ _ _ (fun k_ => some k_≠(.slice bFQ aGE.length bFB : Value).ownBlock) (fun _ => False) rfl rfl ?aO ?aR (fun _ _ h => h) (fun _ h => h.elim) ?aF ?aB ?aS ?aL ?_;(case aR => exact nY ((Kd.bQ aCf.out).2.2));(case aB => exact (fE HB pT wO aAp));(case aF => exact (fun k_ hk => Kd.GP (Kd.jD (dB aCf.out)) k_ hk));(case aO => exact (by (with_reducible repeat first | apply Kd.bX | apply Kd.bW | apply Kd.bP);exact Kd.cC mC.out (fun _ hk => hk.2)));(case aS => exact (bR (fE HB pT wO aAp)));(case aL => have:=LMc33.out;omega);intro bIn w39 ho hb hg hat;rw [← Ny514.out] at ho;have vG:=aA.mk (dG (cH eL) hg (Kd.iV mC.out eL.out (by decide)));have vF:=aA.mk (dG (cH eO) hg (Kd.iV mC.out eO.out (by decide)));have JD:=aA.mk (dG (cH kE) hg (Kd.iV mC.out kE.out (by decide)));have PV:=aA.mk (Kd.sB (ok:=(fun _ => True)) (dB aCf.out) hg hat);have PU:=aA.mk (hb);have n5_:=aA.mk (ho);clear eL eO;clear kE aCf;clear HB mC;have eL:=vG;have eO:=vF;have kE:=JD;have aCf:=PV;have HB:=PU;have aTt:=n5_;clear vG vF JD PV PU n5_;clear ho hb hg hat;obtain ⟨aEF,ZQ,eo41⟩:=Kd.cK aTt.out;subst eo41;have GK:=bL kE 0 (.int .i64 (l1.length : Int)) rfl;have GJ:=bL kE 1 (.int .i64 aI) rfl;have GI:=bL kE 2 CU rfl;have GD:=aC kE.out 0;have GC:=aC kE.out 1;have GB:=aC kE.out 2))
           go_roundg k2
           case measure => have:=yS.out;have:=zU.out;omega
           case rel => exact ⟨(wrap64 (jF + 1)),(y514),(.slice aEF y514.length ZQ),mU,H',⟨by have:=yS.out;have:=zU.out;omega⟩,⟨by (with_reducible repeat first | apply Kd.bX | apply Kd.bW | apply Kd.bP);exact Kd.cC (Kd.cY (p:=⟨aJj,2,none⟩) (Kd.dM aTt.out kE.out (by decide)) (fun _ hk => hk.2) (.slice aEF y514.length ZQ)) (fun _ hk => trivial)⟩,⟨by (with_reducible repeat first | apply aE | apply aG | apply aD);refine aV ?_ xN.out _;(with_reducible repeat first | apply aE | apply aG | apply aD);exact eL.out⟩,⟨by (with_reducible repeat first | apply aE | apply aG | apply aD);refine aV ?_ xM.out _;(with_reducible repeat first | apply aE | apply aG | apply aD);exact eO.out⟩,⟨by (with_reducible repeat first | apply aE | apply aG | apply aD);refine aZ (cs:=#[.int .i64 (l1.length : Int),.int .i64 aI,CU]) ?_ 2 _ rfl;(with_reducible repeat first | apply aE | apply aG | apply aD);exact kE.out⟩,⟨fE HB pT wO aAp⟩⟩
          ·rw [if_neg c33] at H
           exact absurd H (by simp)
         ·rw [if_neg IT] at H
          exact absurd H (by simp)
        ·rw [if_neg RO] at H
         have ZV : decide (jF < (l1.length : Int)) = false:=decide_eq_false RO;clear RO;simp only [Option.some.injEq,Prod.mk.injEq] at H;obtain ⟨rfl,rfl,rfl,rfl⟩:=H;have aXq:=TJ.out;have aWL:=xN.out;have aSB:=TI.out;have aSj:=xM.out;have WV:=bL kE 0 (.int .i64 (l1.length : Int)) rfl;have WU:=bL kE 1 (.int .i64 aI) rfl;have WT:=bL kE 2 CU rfl;have WB:=aC kE.out 0;have WA:=aC kE.out 1;have VZ:=aC kE.out 2;have aSA:=uM.out;have aSi:=uN.out;have bDJ:=bL eO 0 (.int .i64 mY) rfl;have bDI:=bL eO 1 (.int .i64 jQ) rfl;have bDH:=bL eO 2 (.slice none 0 0) rfl;have bCm:=aC eO.out 0;have bCl:=aC eO.out 1;have bCk:=aC eO.out 2;obtain ⟨bAv,aYI,eo48⟩:=Kd.cK mC.out;subst eo48
         go_wp2
         refine bodyPost_ret (dU rfl _ _ BR 24 #[.int .i64 (l1.length : Int),.int .i64 aI,.slice bAv pU.length aYI] (0,0) _ rfl (by (with_reducible repeat first | apply aE | apply aG | apply aD);refine aZ (cs:=#[.int .i64 (l1.length : Int),.int .i64 aI,.slice none 0 0]) ?_ 2 _ rfl;(with_reducible repeat first | apply aE | apply aG | apply aD);refine aZ (cs:=#[.int .i64 (l1.length : Int),.int .i64 jQ,.slice none 0 0]) ?_ 1 _ rfl;(with_reducible repeat first | apply aE | apply aG | apply aD);refine aZ (cs:=#[.int .i64 mY,.int .i64 jQ,.slice none 0 0]) ?_ 0 _ rfl;(with_reducible repeat first | apply aE | apply aG | apply aD);exact eO.out) Try.underlying24 rfl (by kernel_rfl)) rfl ?_;exact ⟨_,tZ,by (with_reducible repeat first | apply Kd.bX | apply Kd.bW | apply Kd.bP);exact Kd.cC (Kd.cY (p:=⟨BR,2,none⟩) (Kd.cY (p:=⟨BR,1,none⟩) (Kd.cY (p:=⟨BR,0,none⟩) (Kd.dM mC.out eO.out (by decide)) (fun _ hk => hk.2) (.int .i64 (l1.length : Int))) (fun _ hk => hk.2) (.int .i64 aI)) (fun _ hk => hk.2) (.slice bAv pU.length aYI)) (fun _ hk => trivial),fE HB pT wO aAp⟩
 ·replace c4:=Bool.eq_false_iff.mpr c4
  subst c4;have H1 : (some (0,0,([] : List Int),3)) = some (r1,r2,r3,r4):=by rw [if_neg (show ¬ (false = true) by decide)] at H;exact H
  clear H;have H:=H1;clear H1;simp only [Option.some.injEq,Prod.mk.injEq] at H;obtain ⟨rfl,rfl,rfl,rfl⟩:=H;go_enter Try.func22,Try.ntmps22;go_wp2_with (first | ((with_reducible refine bK (N:=2) rfl ?_);refine lS (N:=2) (cs:=#[.int .i64 aK,.int .i64 aI,.slice bI aQ.length bH]) (t:=24) ?_;intro zS hg w49 hbox hb;have eL:=aA.mk (hbox);have bAd:=aA.mk (eP hg (cX HB) : w.heap.size≤zS);have pT:=aA.mk (eP hg (cX HB) : w.heap.size≤zS);replace HB:=aA.mk (aN (cX HB) hb);clear hb hbox hg) | ((with_reducible refine bK (N:=4) rfl ?_);refine lS (N:=4) (cs:=#[.int .i64 0,.int .i64 0,.slice none 0 0]) (t:=24) ?_;intro BR hg w50 hbox hb;have eO:=aA.mk (hbox);have bAc:=aA.mk (eP hg (cL HB pT) : w.heap.size≤BR);have wO:=aA.mk (eP hg (cL HB pT) : w.heap.size≤BR);replace HB:=aA.mk (aN (cL HB pT) hb);have uN:=aA.mk (sU hg (cH eL));have uM:=aA.mk (sV hg (cH eL));replace eL:=aA.mk (aJ (cH eL) hb);clear hb hbox hg;have aSz:=uN.out;have aSh:=uM.out;have aDT:=bL eL 0 (.int .i64 aK) rfl;have aDS:=bL eL 1 (.int .i64 aI) rfl;have aDR:=bL eL 2 (.slice bI aQ.length bH) rfl;have aDp:=aC eL.out 0;have aDo:=aC eL.out 1;have aDn:=aC eL.out 2) | ((with_reducible refine bE (f:=17) rfl ?_);refine cO (some 12) rfl rfl Try.func17 (by kernel_rfl) rfl #[.agg #[.int .i64 aK,.int .i64 aI,.slice bI aQ.length bH]] rfl lU ?_;(with_reducible refine (bA.calls aK aI _ _ aQ false _ ?side1 ?side2 A3.out).mono ?_);(case side1 => exact nY (Kd.cP dY.out HB.out));(case side2 => exact eC.out);rintro e w53 ⟨rfl,hb⟩;refine ⟨_,rfl,?_⟩;replace eL:=aA.mk (aJ (cH eL) hb);replace eO:=aA.mk (aJ (cH eO) hb);replace HB:=aA.mk (aN (dA HB pT wO) hb);(try clear hb);(try clear hb2);(try clear hk);(try clear hi);have aIV:=bL eO 0 (.int .i64 0) rfl;have aIU:=bL eO 1 (.int .i64 0) rfl;have aIT:=bL eO 2 (.slice none 0 0) rfl;have aID:=aC eO.out 0;have aIC:=aC eO.out 1;have aIB:=aC eO.out 2))
  refine bodyPost_ret (dU rfl _ _ BR 24 #[.int .i64 0,.int .i64 0,.slice none 0 0] (0,0) _ rfl (by (with_reducible repeat first | apply aE | apply aG | apply aD);refine aZ (cs:=#[.int .i64 0,.int .i64 0,.slice none 0 0]) ?_ 2 _ rfl;(with_reducible repeat first | apply aE | apply aG | apply aD);refine aZ (cs:=#[.int .i64 0,.int .i64 0,.slice none 0 0]) ?_ 1 _ rfl;(with_reducible repeat first | apply aE | apply aG | apply aD);refine aZ (cs:=#[.int .i64 0,.int .i64 0,.slice none 0 0]) ?_ 0 _ rfl;(with_reducible repeat first | apply aE | apply aG | apply aD);exact eO.out) Try.underlying24 rfl (by kernel_rfl)) rfl ?_;exact ⟨_,tZ,IW,dA HB pT wO⟩
end Go.Proofs.Yteofcbkjhdadpaa.Pr
