import Derived.Test.YteofcbkjhdadpaaCBuildTopsx0
import Derived.Test.YteofcbkjhdadpaaCBuildTopsx2
import Derived.Test.YteofcbkjhdadpaaCBuildTopsx3
import Derived.Test.YteofcbkjhdadpaaCBuildTopsq
set_option maxHeartbeats 8000000
set_option maxRecDepth 100000
set_option linter.unusedSimpArgs false
set_option linter.unusedVariables false
namespace Go.Proofs.Yteofcbkjhdadpaa.Pr
open Go.RowKit Go.Proofs.aI.bE Go.Proofs.aI.fB Go.Proofs.aI.iS
attribute [local go_sem] kQ kO nK nJ jD jC kP kN   -- for this text's walks alone
mutual
def bB.l0 : Nat→List Int→Int→Int→Int→List Int→Option (Int×Int×List Int×Int)
 | 0,_,_,_,_,_ => none
 | k + 1,x1,x6,IZ,IY,NU => if x6 < (x1.length : Int) then (if 0≤x6 then (if (rd x1 x6) < 0 then (some (0,0,([] : List Int),2)) else (if (rd x1 x6) ≥ IZ then (some (0,0,([] : List Int),2)) else (bB.l0 k x1 (wrap64 (x6 + 1)) IZ IY NU))) else (none)) else (if (x1.length : Int) > 64 then (some (0,0,([] : List Int),4)) else (bB.l1 k x1 0 IZ IY NU (x1.length : Int) IY ([] : List Int)))
def bB.l1 : Nat→List Int→Int→Int→Int→List Int→Int→Int→List Int→Option (Int×Int×List Int×Int)
 | 0,_,_,_,_,_,_,_,_ => none
 | k + 1,x1,x8,IZ,IY,NU,aGp,aGo,aBn => if x8 < (x1.length : Int) then (if 0≤x8 then ((cH.f k IZ IY NU (rd x1 x8)).bind fun aEq => (if aBn.length + aEq.1.length < 140737488355328 then (bB.l1 k x1 (wrap64 (x8 + 1)) IZ IY NU aGp aGo (aBn ++ aEq.1)) else (none))) else (none)) else (some (aGp,aGo,aBn,0))
end
def bB.f (k : Nat) (aQ : Int) (aK : Int) (aV : List Int) (l1 : List Int) : Option (Int×Int×List Int×Int):=(bF.f aQ aK aV).bind fun aIk => (if aIk = true then (bB.l0 k l1 0 aQ aK aV) else (some (0,0,([] : List Int),3)))
def bB.T6 : Bool×List (List Nat×List Nat):=(true,[([],[]),([],[]),([0,1],[0,1]),([2],[2]),([3],[3]),([4],[4]),([5],[5]),([5],[5]),([6,7,5],[5,6,7]),([8,5],[5,8]),([5],[5]),([10,5],[5,10]),([9,11,5],[5,9,11]),([5,12],[5,12])])
def bB.B6 : List Nat:=[0,0,3,7,15,31,63,63,255,511,63,1087,4095,8191]
theorem bB.aSv : rV .any (opsOf Try.f22 6) = bB.T6:=by kernel_rfl
theorem bB.aMK : mQ bB.T6.2 bB.B6 = true:=by kernel_rfl
def bB.T14 : Bool×List (List Nat×List Nat):=(true,[([],[]),([],[]),([],[]),([1,2],[1,2]),([3],[3]),([0,4],[0,4]),([5],[5]),([6],[6]),([6],[6]),([7,5,0,1,2,3,4,5,6,7],[7]),([8,9,0,1,2,3,4,5,6,7,8,9],[8])])
def bB.B14 : List Nat:=[0,0,0,6,14,31,63,127,127,255,1023]
theorem bB.aUf : rV .any (opsOf Try.f22 14) = bB.T14:=by kernel_rfl
theorem bB.aTw : mQ bB.T14.2 bB.B14 = true:=by kernel_rfl
theorem bB.calls (k : Nat) (aQ : Int) (aK : Int) (cG : Option Addr) (cF : Nat) (aV : List Int) (A1 : Option Addr) (c1 : Nat) (l1 : List Int) (r1 : Int) (r2 : Int) (r3 : List Int) (r4 : Int) (w : World) (hr0_2 : Kd.C (Kd.int .u8) w cG aV.length aV) (hc0_2 : aV.length≤cF) (hr1 : Kd.C (Kd.int .i64) w A1 l1.length l1) (hc1 : l1.length≤c1) (h : bB.f k aQ aK aV l1 = some (r1,r2,r3,r4)) :
  Calls Try.prog 22 #[.agg #[.int .i64 aQ,.int .i64 aK,.slice cG aV.length cF],.slice A1 l1.length c1] w fun e w' => ∃ vQ : Value,e = .returned (.tuple #[.agg #[.int .i64 r1,.int .i64 r2,vQ],.int .i64 r4])∧Kd.R (Kd.int .u8) 5 w' w.heap.size (fun _ => True) vQ r3∧Below w.heap.size w w':=by
 have CQ:=Try.underlying24;have iH:=aA.mk hr0_2;have iN:=aA.mk hc0_2;clear hr0_2 hc0_2;have tY:=aA.mk hr1;have HC1:=aA.mk hc1;clear hr1 hc1;have HB:=aA.mk (Below.refl w.heap.size w);have H : ((bF.f aQ aK aV).bind fun aIk => (if aIk = true then (bB.l0 k l1 0 aQ aK aV) else (some (0,0,([] : List Int),3)))) = some (r1,r2,r3,r4):=h;clear h;replace H:=Option.bind_eq_some_iff.mp H;obtain ⟨aIk,A30,H⟩:=H;replace H : (if aIk = true then (bB.l0 k l1 0 aQ aK aV) else (some (0,0,([] : List Int),3))) = some (r1,r2,r3,r4):=H;have A3:=aA.mk A30;clear A30
 by_cases c4 : aIk = true
 ·subst c4
  have H1 : (bB.l0 k l1 0 aQ aK aV) = some (r1,r2,r3,r4):=by rw [if_pos rfl] at H;exact H
  clear H;have H:=H1;clear H1;have H':=aA.mk H;clear H;go_enter Try.func22,Try.ntmps22;go_wp2_with (first | ((with_reducible refine bU (N:=2) rfl ?_);refine pG (N:=2) (cs:=#[.int .i64 aQ,.int .i64 aK,.slice cG aV.length cF]) (t:=24) ?_;intro yJ hg w5 hbox hb;have eP:=aA.mk (hbox);have aYL:=aA.mk (gE hg (dN HB) : w.heap.size≤yJ);have pZ:=aA.mk (gE hg (dN HB) : w.heap.size≤yJ);replace HB:=aA.mk (aM (dN HB) hb);clear hb hbox hg) | ((with_reducible refine bU (N:=4) rfl ?_);refine pG (N:=4) (cs:=#[.int .i64 0,.int .i64 0,.slice none 0 0]) (t:=24) ?_;intro zY hg w6 hbox hb;have eR:=aA.mk (hbox);have aYK:=aA.mk (gE hg (dR HB pZ) : w.heap.size≤zY);have vN:=aA.mk (gE hg (dR HB pZ) : w.heap.size≤zY);replace HB:=aA.mk (aM (dR HB pZ) hb);have uN:=aA.mk (lQ hg (bT eP));have uM:=aA.mk (lR hg (bT eP));replace eP:=aA.mk (aH (bT eP) hb);clear hb hbox hg;have aSY:=uN.out;have aSX:=uM.out;have wQ:=bR eP 0 (.int .i64 aQ) rfl;have wP:=bR eP 1 (.int .i64 aK) rfl;have wO:=bR eP 2 (.slice cG aV.length cF) rfl;have wN:=aD eP.out 0;have wM:=aD eP.out 1;have wL:=aD eP.out 2) | ((with_reducible refine bN (f:=17) rfl ?_);refine eB (some 12) rfl rfl Try.func17 (by kernel_rfl) rfl #[.agg #[.int .i64 aQ,.int .i64 aK,.slice cG aV.length cF]] rfl pX ?_;(with_reducible refine (bF.calls aQ aK _ _ aV true _ ?side1 ?side2 A3.out).mono ?_);(case side1 => exact sW (Kd.eN iH.out HB.out));(case side2 => exact iN.out);rintro e w9 ⟨rfl,hb⟩;refine ⟨_,rfl,?_⟩;replace eP:=aA.mk (aH (bT eP) hb);replace eR:=aA.mk (aH (bT eR) hb);replace HB:=aA.mk (aM (eA HB pZ vN) hb);(try clear hb);(try clear hb2);(try clear hk);(try clear hi)))
  go_loopg [6] k (fun kq v6 w' => ∃ (kJ : Int) (mU : Int) (jN : Int),v6 = .int .i64 kJ∧aA (bB.l0 kq l1 kJ aQ aK aV = some (r1,r2,r3,r4))∧aA (kq≤k)∧aA (w'.heap[yJ]? = some (.cells #[.int .i64 aQ,.int .i64 aK,(.slice cG aV.length cF)] 24 (0,0)))∧aA (w'.heap[zY]? = some (.cells #[.int .i64 mU,.int .i64 jN,(.slice none 0 0)] 24 (0,0)))∧aA (Below w.heap.size w w'))
  case atStart => exact ⟨(0),(0),(0),rT,H',⟨Nat.le_refl _⟩,⟨hJ eP.out⟩,⟨hJ eR.out⟩,⟨eA HB pZ vN⟩⟩
  case round =>
   clear H';(try clear c1);(try clear c2);(try clear p2);(try clear c4);(try clear c7);(try clear wQ);(try clear wP);(try clear wO);(try clear wN);(try clear wM);(try clear wL);obtain ⟨kJ,mU,jN,rfl,HA,FP,eP,eR,HB⟩:=hrel
   cases gk with
   | zero => exact absurd HA.out (by simp [bB.l0])
   | succ k1 =>
    have H:=HA.out;clear HA;simp only [bB.l0] at H
    by_cases NF : kJ < (l1.length : Int)
    ·rw [if_pos NF] at H
     have aAV : decide (kJ < (l1.length : Int)) = true:=decide_eq_true NF;clear NF
     by_cases CV : 0≤kJ
     ·rw [if_pos CV] at H
      have ME : decide (0≤kJ) = true:=decide_eq_true CV;clear CV
      by_cases yK : (rd l1 kJ) < 0
      ·rw [if_pos yK] at H
       have RA : decide ((rd l1 kJ) < 0) = true:=decide_eq_true yK;clear yK;simp only [Option.some.injEq,Prod.mk.injEq] at H;obtain ⟨rfl,rfl,rfl,rfl⟩:=H
       try go_wp2
       replace eP:=aA.mk (aG eP.out);replace eR:=aA.mk (aG eR.out);replace HB:=aA.mk (dO HB.out);have UI : 0≤(kJ : Int):=of_decide_eq_true pH;have q506 : kJ < (l1.length : Int):=of_decide_eq_true pH;obtain ⟨ad506,e506,hx506_0⟩:=Kd.rG tY.out kJ UI q506;have AY:=hx506_0
       cases e506
       replace hx506_0:=(HB.out.cell (World.block_lt_of_cell? w _ hx506_0)).trans hx506_0;replace UI:=eq_true UI;replace q506:=eq_true q506;refine qR (n:=14) (S:=fun w' => w'.cell? (ad506.add (kJ).toNat) = some (.int .i64 (rd l1 kJ))) (ds:=[]) #[false,false,false,false,false,false,false,false,false,false,false,false,false,false] (by kernel_rfl) rfl rfl (((HB.out.cell (World.block_lt_of_cell? w _ AY)).trans AY)) (fun hHeld => ?_);refine jO bB.aSv bB.aMK (fun HT_ HW_ => ?_);generalize wr.drew = w13 at eP eR HB hx506_0 hHeld ⊢;refine cB (i:=0) (N:=some 21) (v:=?_) (a':=?_) (eE 14 1) rfl rfl (bK HT_.out (by kernel_rfl)) (fun _ _ _ h => h) (Or.inl ⟨by rfl,?_⟩) ?_ ?_;rotate_left
       ·intro w'
        go_simp;(with_reducible rfl)
       rotate_left
       ·simp only [Act.put,cV,cT,cW,bG,bH]
        rfl
       refine cB (i:=1) (N:=some 22) (v:=?_) (a':=?_) (eE 14 3) rfl rfl (bK HT_.out (by kernel_rfl)) (fun _ _ _ h => h) (Or.inl ⟨by rfl,?_⟩) ?_ ?_;rotate_left
       ·intro w'
        go_simp;(with_reducible rfl)
       rotate_left
       ·simp only [Act.put,cV,cT,cW,bG,bH]
        rfl
       refine cB (i:=2) (N:=some 23) (v:=?_) (a':=?_) (eE 14 7) rfl rfl (bK HT_.out (by kernel_rfl)) (fun _ _ _ h => h) (Or.inl ⟨by rfl,?_⟩) ?_ ?_;rotate_left
       ·intro w'
        go_simp;(with_reducible rfl)
       rotate_left
       ·simp only [Act.put,cV,cT,cW,bG,bH]
        rfl
       refine hY (i:=3) (N:=some 24) (v:=?_) (a':=?_) (eE 14 15) rfl rfl (dZ HT_.out HW_.out (by kernel_rfl)) (fun _ _ _ h => h) (Or.inl ⟨by rfl,?_⟩) hHeld ?_ ?_;rotate_left
       ·intro w' s0
        go_simp;(with_reducible rfl)
       rotate_left
       ·simp only [Act.put,cV,cT,cW,bG,bH]
        rfl
       refine cB (i:=4) (N:=some 25) (v:=?_) (a':=?_) (eE 14 31) rfl rfl (bK HT_.out (by kernel_rfl)) (fun _ _ _ h => h) (Or.inl ⟨by rfl,?_⟩) ?_ ?_;rotate_left
       ·intro w'
        go_simp;(with_reducible rfl)
       rotate_left
       ·simp only [Act.put,cV,cT,cW,bG,bH]
        rfl
       refine cB (i:=5) (N:=some 26) (v:=?_) (a':=?_) (eE 14 63) rfl rfl (bK HT_.out (by kernel_rfl)) (fun _ _ _ h => h) (Or.inl ⟨by rfl,?_⟩) ?_ ?_;rotate_left
       ·intro w'
        go_simp;(with_reducible rfl)
       rotate_left
       ·simp only [Act.put,cV,cT,cW,bG,bH]
        rfl
       refine cB (i:=6) (N:=some 27) (v:=undef) (a':=?_) (eE 14 127) rfl rfl (bK HT_.out (by kernel_rfl)) (fun _ _ _ h => h) (Or.inr ⟨by rfl,rfl⟩) ?_ ?_;rotate_left
       ·simp only [Act.put,cV,cT,cW,bG,bH]
        rfl
       refine cB (i:=7) (N:=some 28) (v:=undef) (a':=?_) (eE 14 255) rfl rfl (bK HT_.out (by kernel_rfl)) (fun _ _ _ h => h) (Or.inr ⟨by rfl,rfl⟩) ?_ ?_;rotate_left
       ·simp only [Act.put,cV,cT,cW,bG,bH]
        rfl
       refine cB (i:=8) (N:=some 29) (v:=undef) (a':=?_) (eE 14 511) rfl rfl (bK HT_.out (by kernel_rfl)) (fun _ _ _ h => h) (Or.inr ⟨by rfl,rfl⟩) ?_ ?_;rotate_left
       ·simp only [Act.put,cV,cT,cW,bG,bH]
        rfl
       refine cB (i:=9) (N:=some 30) (v:=undef) (a':=?_) (eE 14 1023) rfl rfl (bK HT_.out (by kernel_rfl)) (fun _ _ _ h => h) (Or.inr ⟨by rfl,rfl⟩) ?_ ?_;rotate_left
       ·simp only [Act.put,cV,cT,cW,bG,bH]
        rfl
       refine cB (i:=10) (N:=some 31) (v:=undef) (a':=?_) (eE 14 2047) rfl rfl (bK HT_.out (by kernel_rfl)) (fun _ _ _ h => h) (Or.inr ⟨by rfl,rfl⟩) ?_ ?_;rotate_left
       ·simp only [Act.put,cV,cT,cW,bG,bH]
        rfl
       refine cB (i:=11) (N:=some 32) (v:=undef) (a':=?_) (eE 14 4095) rfl rfl (bK HT_.out (by kernel_rfl)) (fun _ _ _ h => h) (Or.inr ⟨by rfl,rfl⟩) ?_ ?_;rotate_left
       ·simp only [Act.put,cV,cT,cW,bG,bH]
        rfl
       refine cB (i:=12) (N:=some 33) (v:=undef) (a':=?_) (eE 14 8191) rfl rfl (bK HT_.out (by kernel_rfl)) (fun _ _ _ h => h) (Or.inr ⟨by rfl,rfl⟩) ?_ ?_;rotate_left
       ·simp only [Act.put,cV,cT,cW,bG,bH]
        rfl
       refine cB (i:=13) (N:=some 34) (v:=?_) (a':=?_) (eE 14 16383) rfl rfl (bK HT_.out (by kernel_rfl)) (fun _ _ _ h => h) (Or.inl ⟨by rfl,?_⟩) ?_ ?_;rotate_left
       ·intro w'
        go_simp;(with_reducible rfl)
       rotate_left
       ·simp only [Act.put,cV,cT,cW,bG,bH]
        rfl
       refine vY (oG HT_.out (by kernel_rfl)) ?_;have bGY:=uM.out;have bGn:=uN.out;have KA:=bR eR 0 (.int .i64 mU) rfl;have JZ:=bR eR 1 (.int .i64 jN) rfl;have JY:=bR eR 2 (.slice none 0 0) rfl;have JX:=aD eR.out 0;have JW:=aD eR.out 1;have JV:=aD eR.out 2
       try go_wp2
       refine bodyPost_ret (dX rfl _ _ zY 24 #[.int .i64 0,.int .i64 0,.slice none 0 0] (0,0) _ rfl (by (with_reducible repeat first | apply aE | apply aG | apply aC);refine bC (cs:=#[.int .i64 0,.int .i64 0,.slice none 0 0]) ?_ 2 _ rfl;(with_reducible repeat first | apply aE | apply aG | apply aC);refine bC (cs:=#[.int .i64 0,.int .i64 jN,.slice none 0 0]) ?_ 1 _ rfl;(with_reducible repeat first | apply aE | apply aG | apply aC);refine bC (cs:=#[.int .i64 mU,.int .i64 jN,.slice none 0 0]) ?_ 0 _ rfl;(with_reducible repeat first | apply aE | apply aG | apply aC);exact eR.out) Try.underlying24 rfl (by kernel_rfl)) rfl ?_;exact ⟨_,yE,RP,eA HB pZ vN⟩
      ·rw [if_neg yK] at H
       have RA : decide ((rd l1 kJ) < 0) = false:=decide_eq_false yK;clear yK
       by_cases c16 : (rd l1 kJ) ≥ aQ
       ·rw [if_pos c16] at H
        have aEl : decide (aQ≤(rd l1 kJ)) = true:=decide_eq_true c16;clear c16;simp only [Option.some.injEq,Prod.mk.injEq] at H;obtain ⟨rfl,rfl,rfl,rfl⟩:=H
        try go_wp2
        replace eP:=aA.mk (aG eP.out);replace eR:=aA.mk (aG eR.out);replace HB:=aA.mk (dO HB.out);have UI : 0≤(kJ : Int):=of_decide_eq_true pH;have q506 : kJ < (l1.length : Int):=of_decide_eq_true pH;obtain ⟨ad506,e506,hx506_0⟩:=Kd.rG tY.out kJ UI q506;have AY:=hx506_0
        cases e506
        replace hx506_0:=(HB.out.cell (World.block_lt_of_cell? w _ hx506_0)).trans hx506_0;replace UI:=eq_true UI;replace q506:=eq_true q506;have aDC : 0≤(kJ : Int):=of_decide_eq_true pH;have q507 : kJ < (l1.length : Int):=of_decide_eq_true pH;obtain ⟨ad507,e507,hx507_0⟩:=Kd.rG tY.out kJ aDC q507;have PH:=hx507_0;obtain rfl : ad506 = ad507:=(by injection e507)
        replace hx507_0:=(HB.out.cell (World.block_lt_of_cell? w _ hx507_0)).trans hx507_0;replace aDC:=eq_true aDC;replace q507:=eq_true q507;refine qR (n:=14) (S:=fun w' => w'.cell? ⟨yJ,0,none⟩ = some (.int .i64 aQ)∧w'.cell? ⟨yJ,1,none⟩ = some (.int .i64 aK)∧w'.cell? ⟨yJ,2,none⟩ = some (.slice cG aV.length cF)∧w'.cell? (ad506.add (kJ).toNat) = some (.int .i64 (rd l1 kJ))∧w'.cell? (ad506.add (kJ).toNat) = some (.int .i64 (rd l1 kJ))) (ds:=[]) #[false,false,false,false,false,false,false,false,false,false,false,false,false,false] (by kernel_rfl) rfl rfl ⟨(aU eP.out 0).trans rfl,(aU eP.out 1).trans rfl,(aU eP.out 2).trans rfl,((HB.out.cell (World.block_lt_of_cell? w _ AY)).trans AY),((HB.out.cell (World.block_lt_of_cell? w _ PH)).trans PH)⟩ (fun hHeld => ?_);refine jO bB.aSv bB.aMK (fun HT_ HW_ => ?_);generalize wr.drew = w17 at eP eR HB hx506_0 hx507_0 hHeld ⊢;refine cB (i:=0) (N:=some 21) (v:=?_) (a':=?_) (eE 14 1) rfl rfl (bK HT_.out (by kernel_rfl)) (fun _ _ _ h => h) (Or.inl ⟨by rfl,?_⟩) ?_ ?_;rotate_left
        ·intro w'
         go_simp;(with_reducible rfl)
        rotate_left
        ·simp only [Act.put,cV,cT,cW,bG,bH]
         rfl
        refine cB (i:=1) (N:=some 22) (v:=?_) (a':=?_) (eE 14 3) rfl rfl (bK HT_.out (by kernel_rfl)) (fun _ _ _ h => h) (Or.inl ⟨by rfl,?_⟩) ?_ ?_;rotate_left
        ·intro w'
         go_simp;(with_reducible rfl)
        rotate_left
        ·simp only [Act.put,cV,cT,cW,bG,bH]
         rfl
        refine cB (i:=2) (N:=some 23) (v:=?_) (a':=?_) (eE 14 7) rfl rfl (bK HT_.out (by kernel_rfl)) (fun _ _ _ h => h) (Or.inl ⟨by rfl,?_⟩) ?_ ?_;rotate_left
        ·intro w'
         go_simp;(with_reducible rfl)
        rotate_left
        ·simp only [Act.put,cV,cT,cW,bG,bH]
         rfl
        refine hY (i:=3) (N:=some 24) (v:=?_) (a':=?_) (eE 14 15) rfl rfl (dZ HT_.out HW_.out (by kernel_rfl)) (fun _ _ _ h => h) (Or.inl ⟨by rfl,?_⟩) hHeld ?_ ?_;rotate_left
        ·rintro w' ⟨s0,s1,s2,s3,s4⟩
         go_simp;(with_reducible rfl)
        rotate_left
        ·simp only [Act.put,cV,cT,cW,bG,bH]
         rfl
        refine cB (i:=4) (N:=some 25) (v:=?_) (a':=?_) (eE 14 31) rfl rfl (bK HT_.out (by kernel_rfl)) (fun _ _ _ h => h) (Or.inl ⟨by rfl,?_⟩) ?_ ?_;rotate_left
        ·intro w'
         go_simp;(with_reducible rfl)
        rotate_left
        ·simp only [Act.put,cV,cT,cW,bG,bH]
         rfl
        refine cB (i:=5) (N:=some 26) (v:=?_) (a':=?_) (eE 14 63) rfl rfl (bK HT_.out (by kernel_rfl)) (fun _ _ _ h => h) (Or.inl ⟨by rfl,?_⟩) ?_ ?_;rotate_left
        ·intro w'
         go_simp;(with_reducible rfl)
        rotate_left
        ·simp only [Act.put,cV,cT,cW,bG,bH]
         rfl
        refine cB (i:=6) (N:=some 27) (v:=?_) (a':=?_) (eE 14 127) rfl rfl (bK HT_.out (by kernel_rfl)) (fun _ _ _ h => h) (Or.inl ⟨by rfl,?_⟩) ?_ ?_;rotate_left
        ·intro w'
         go_simp;(with_reducible rfl)
        rotate_left
        ·simp only [Act.put,cV,cT,cW,bG,bH]
         rfl
        refine cB (i:=7) (N:=some 28) (v:=?_) (a':=?_) (eE 14 255) rfl rfl (bK HT_.out (by kernel_rfl)) (fun _ _ _ h => h) (Or.inl ⟨by rfl,?_⟩) ?_ ?_;rotate_left
        ·intro w'
         go_simp;(with_reducible rfl)
        rotate_left
        ·simp only [Act.put,cV,cT,cW,bG,bH]
         rfl
        refine cB (i:=8) (N:=some 29) (v:=?_) (a':=?_) (eE 14 511) rfl rfl (bK HT_.out (by kernel_rfl)) (fun _ _ _ h => h) (Or.inl ⟨by rfl,?_⟩) ?_ ?_;rotate_left
        ·intro w'
         go_simp;(with_reducible rfl)
        rotate_left
        ·simp only [Act.put,cV,cT,cW,bG,bH]
         rfl
        refine cB (i:=10) (N:=some 31) (v:=?_) (a':=?_) (eE 14 1535) rfl rfl (bK HT_.out (by kernel_rfl)) (fun _ _ _ h => h) (Or.inl ⟨by rfl,?_⟩) ?_ ?_;rotate_left
        ·intro w'
         go_simp;(with_reducible rfl)
        rotate_left
        ·simp only [Act.put,cV,cT,cW,bG,bH]
         rfl
        refine hY (i:=9) (N:=some 30) (v:=?_) (a':=?_) (eE 14 2047) rfl rfl (dZ HT_.out HW_.out (by kernel_rfl)) (fun _ _ _ h => h) (Or.inl ⟨by rfl,?_⟩) hHeld ?_ ?_;rotate_left
        ·rintro w' ⟨s0,s1,s2,s3,s4⟩
         go_simp;(with_reducible rfl)
        rotate_left
        ·simp only [Act.put,cV,cT,cW,bG,bH]
         rfl
        refine hY (i:=11) (N:=some 32) (v:=?_) (a':=?_) (eE 14 4095) rfl rfl (dZ HT_.out HW_.out (by kernel_rfl)) (fun _ _ _ h => h) (Or.inl ⟨by rfl,?_⟩) hHeld ?_ ?_;rotate_left
        ·rintro w' ⟨s0,s1,s2,s3,s4⟩
         go_simp;(with_reducible rfl)
        rotate_left
        ·simp only [Act.put,cV,cT,cW,bG,bH]
         rfl
        refine cB (i:=12) (N:=some 33) (v:=?_) (a':=?_) (eE 14 8191) rfl rfl (bK HT_.out (by kernel_rfl)) (fun _ _ _ h => h) (Or.inl ⟨by rfl,?_⟩) ?_ ?_;rotate_left
        ·intro w'
         go_simp;(with_reducible rfl)
        rotate_left
        ·simp only [Act.put,cV,cT,cW,bG,bH]
         rfl
        refine cB (i:=13) (N:=some 34) (v:=?_) (a':=?_) (eE 14 16383) rfl rfl (bK HT_.out (by kernel_rfl)) (fun _ _ _ h => h) (Or.inl ⟨by rfl,?_⟩) ?_ ?_;rotate_left
        ·intro w'
         go_simp;(with_reducible rfl)
        rotate_left
        ·simp only [Act.put,cV,cT,cW,bG,bH]
         rfl
        refine vY (oG HT_.out (by kernel_rfl)) ?_;have aLM:=uM.out;have aLK:=uN.out;have xK:=bR eR 0 (.int .i64 mU) rfl;have xJ:=bR eR 1 (.int .i64 jN) rfl;have xI:=bR eR 2 (.slice none 0 0) rfl;have xH:=aD eR.out 0;have xG:=aD eR.out 1;have xF:=aD eR.out 2
        try go_wp2
        refine bodyPost_ret (dX rfl _ _ zY 24 #[.int .i64 0,.int .i64 0,.slice none 0 0] (0,0) _ rfl (by (with_reducible repeat first | apply aE | apply aG | apply aC);refine bC (cs:=#[.int .i64 0,.int .i64 0,.slice none 0 0]) ?_ 2 _ rfl;(with_reducible repeat first | apply aE | apply aG | apply aC);refine bC (cs:=#[.int .i64 0,.int .i64 jN,.slice none 0 0]) ?_ 1 _ rfl;(with_reducible repeat first | apply aE | apply aG | apply aC);refine bC (cs:=#[.int .i64 mU,.int .i64 jN,.slice none 0 0]) ?_ 0 _ rfl;(with_reducible repeat first | apply aE | apply aG | apply aC);exact eR.out) Try.underlying24 rfl (by kernel_rfl)) rfl ?_;exact ⟨_,yE,RP,eA HB pZ vN⟩
       ·rw [if_neg c16] at H
        have aEl : decide (aQ≤(rd l1 kJ)) = false:=decide_eq_false c16;clear c16;have H':=aA.mk H;clear H
        try go_wp2
        replace eP:=aA.mk (aG eP.out);replace eR:=aA.mk (aG eR.out);replace HB:=aA.mk (dO HB.out);have UI : 0≤(kJ : Int):=of_decide_eq_true pH;have q506 : kJ < (l1.length : Int):=of_decide_eq_true pH;obtain ⟨ad506,e506,hx506_0⟩:=Kd.rG tY.out kJ UI q506;have AY:=hx506_0
        cases e506
        replace hx506_0:=(HB.out.cell (World.block_lt_of_cell? w _ hx506_0)).trans hx506_0;replace UI:=eq_true UI;replace q506:=eq_true q506;have aDC : 0≤(kJ : Int):=of_decide_eq_true pH;have q507 : kJ < (l1.length : Int):=of_decide_eq_true pH;obtain ⟨ad507,e507,hx507_0⟩:=Kd.rG tY.out kJ aDC q507;have PH:=hx507_0;obtain rfl : ad506 = ad507:=(by injection e507)
        replace hx507_0:=(HB.out.cell (World.block_lt_of_cell? w _ hx507_0)).trans hx507_0;replace aDC:=eq_true aDC;replace q507:=eq_true q507;refine qR (n:=14) (S:=fun w' => w'.cell? ⟨yJ,0,none⟩ = some (.int .i64 aQ)∧w'.cell? ⟨yJ,1,none⟩ = some (.int .i64 aK)∧w'.cell? ⟨yJ,2,none⟩ = some (.slice cG aV.length cF)∧w'.cell? (ad506.add (kJ).toNat) = some (.int .i64 (rd l1 kJ))∧w'.cell? (ad506.add (kJ).toNat) = some (.int .i64 (rd l1 kJ))) (ds:=[]) #[false,false,false,false,false,false,false,false,false,false,false,false,false,false] (by kernel_rfl) rfl rfl ⟨(aU eP.out 0).trans rfl,(aU eP.out 1).trans rfl,(aU eP.out 2).trans rfl,((HB.out.cell (World.block_lt_of_cell? w _ AY)).trans AY),((HB.out.cell (World.block_lt_of_cell? w _ PH)).trans PH)⟩ (fun hHeld => ?_);refine jO bB.aSv bB.aMK (fun HT_ HW_ => ?_);generalize wr.drew = w20 at eP eR HB hx506_0 hx507_0 hHeld ⊢;refine cB (i:=0) (N:=some 21) (v:=?_) (a':=?_) (eE 14 1) rfl rfl (bK HT_.out (by kernel_rfl)) (fun _ _ _ h => h) (Or.inl ⟨by rfl,?_⟩) ?_ ?_;rotate_left
        ·intro w'
         go_simp;(with_reducible rfl)
        rotate_left
        ·simp only [Act.put,cV,cT,cW,bG,bH]
         rfl
        refine cB (i:=1) (N:=some 22) (v:=?_) (a':=?_) (eE 14 3) rfl rfl (bK HT_.out (by kernel_rfl)) (fun _ _ _ h => h) (Or.inl ⟨by rfl,?_⟩) ?_ ?_;rotate_left
        ·intro w'
         go_simp;(with_reducible rfl)
        rotate_left
        ·simp only [Act.put,cV,cT,cW,bG,bH]
         rfl
        refine cB (i:=2) (N:=some 23) (v:=?_) (a':=?_) (eE 14 7) rfl rfl (bK HT_.out (by kernel_rfl)) (fun _ _ _ h => h) (Or.inl ⟨by rfl,?_⟩) ?_ ?_;rotate_left
        ·intro w'
         go_simp;(with_reducible rfl)
        rotate_left
        ·simp only [Act.put,cV,cT,cW,bG,bH]
         rfl
        refine hY (i:=3) (N:=some 24) (v:=?_) (a':=?_) (eE 14 15) rfl rfl (dZ HT_.out HW_.out (by kernel_rfl)) (fun _ _ _ h => h) (Or.inl ⟨by rfl,?_⟩) hHeld ?_ ?_;rotate_left
        ·rintro w' ⟨s0,s1,s2,s3,s4⟩
         go_simp;(with_reducible rfl)
        rotate_left
        ·simp only [Act.put,cV,cT,cW,bG,bH]
         rfl
        refine cB (i:=4) (N:=some 25) (v:=?_) (a':=?_) (eE 14 31) rfl rfl (bK HT_.out (by kernel_rfl)) (fun _ _ _ h => h) (Or.inl ⟨by rfl,?_⟩) ?_ ?_;rotate_left
        ·intro w'
         go_simp;(with_reducible rfl)
        rotate_left
        ·simp only [Act.put,cV,cT,cW,bG,bH]
         rfl
        refine cB (i:=5) (N:=some 26) (v:=?_) (a':=?_) (eE 14 63) rfl rfl (bK HT_.out (by kernel_rfl)) (fun _ _ _ h => h) (Or.inl ⟨by rfl,?_⟩) ?_ ?_;rotate_left
        ·intro w'
         go_simp;(with_reducible rfl)
        rotate_left
        ·simp only [Act.put,cV,cT,cW,bG,bH]
         rfl
        refine cB (i:=6) (N:=some 27) (v:=?_) (a':=?_) (eE 14 127) rfl rfl (bK HT_.out (by kernel_rfl)) (fun _ _ _ h => h) (Or.inl ⟨by rfl,?_⟩) ?_ ?_;rotate_left
        ·intro w'
         go_simp;(with_reducible rfl)
        rotate_left
        ·simp only [Act.put,cV,cT,cW,bG,bH]
         rfl
        refine cB (i:=7) (N:=some 28) (v:=?_) (a':=?_) (eE 14 255) rfl rfl (bK HT_.out (by kernel_rfl)) (fun _ _ _ h => h) (Or.inl ⟨by rfl,?_⟩) ?_ ?_;rotate_left
        ·intro w'
         go_simp;(with_reducible rfl)
        rotate_left
        ·simp only [Act.put,cV,cT,cW,bG,bH]
         rfl
        refine cB (i:=8) (N:=some 29) (v:=?_) (a':=?_) (eE 14 511) rfl rfl (bK HT_.out (by kernel_rfl)) (fun _ _ _ h => h) (Or.inl ⟨by rfl,?_⟩) ?_ ?_;rotate_left
        ·intro w'
         go_simp;(with_reducible rfl)
        rotate_left
        ·simp only [Act.put,cV,cT,cW,bG,bH]
         rfl
        refine cB (i:=10) (N:=some 31) (v:=?_) (a':=?_) (eE 14 1535) rfl rfl (bK HT_.out (by kernel_rfl)) (fun _ _ _ h => h) (Or.inl ⟨by rfl,?_⟩) ?_ ?_;rotate_left
        ·intro w'
         go_simp;(with_reducible rfl)
        rotate_left
        ·simp only [Act.put,cV,cT,cW,bG,bH]
         rfl
        refine hY (i:=9) (N:=some 30) (v:=?_) (a':=?_) (eE 14 2047) rfl rfl (dZ HT_.out HW_.out (by kernel_rfl)) (fun _ _ _ h => h) (Or.inl ⟨by rfl,?_⟩) hHeld ?_ ?_;rotate_left
        ·rintro w' ⟨s0,s1,s2,s3,s4⟩
         go_simp;(with_reducible rfl)
        rotate_left
        ·simp only [Act.put,cV,cT,cW,bG,bH]
         rfl
        refine hY (i:=11) (N:=some 32) (v:=?_) (a':=?_) (eE 14 4095) rfl rfl (dZ HT_.out HW_.out (by kernel_rfl)) (fun _ _ _ h => h) (Or.inl ⟨by rfl,?_⟩) hHeld ?_ ?_;rotate_left
        ·rintro w' ⟨s0,s1,s2,s3,s4⟩
         go_simp;(with_reducible rfl)
        rotate_left
        ·simp only [Act.put,cV,cT,cW,bG,bH]
         rfl
        refine cB (i:=12) (N:=some 33) (v:=?_) (a':=?_) (eE 14 8191) rfl rfl (bK HT_.out (by kernel_rfl)) (fun _ _ _ h => h) (Or.inl ⟨by rfl,?_⟩) ?_ ?_;rotate_left
        ·intro w'
         go_simp;(with_reducible rfl)
        rotate_left
        ·simp only [Act.put,cV,cT,cW,bG,bH]
         rfl
        refine cB (i:=13) (N:=some 34) (v:=?_) (a':=?_) (eE 14 16383) rfl rfl (bK HT_.out (by kernel_rfl)) (fun _ _ _ h => h) (Or.inl ⟨by rfl,?_⟩) ?_ ?_;rotate_left
        ·intro w'
         go_simp;(with_reducible rfl)
        rotate_left
        ·simp only [Act.put,cV,cT,cW,bG,bH]
         rfl
        refine vY (oG HT_.out (by kernel_rfl)) ?_
        try go_wp2
        go_roundg k1
        case measure => have:=FP.out;omega
        case rel => exact ⟨(wrap64 (kJ + 1)),(mU),(jN),rT,H',⟨by have:=FP.out;omega⟩,⟨hJ eP.out⟩,⟨hJ eR.out⟩,⟨eA HB pZ vN⟩⟩
     ·rw [if_neg CV] at H
      exact absurd H (by simp)
    ·rw [if_neg NF] at H
     have aAV : decide (kJ < (l1.length : Int)) = false:=decide_eq_false NF;clear NF
     by_cases EH : (l1.length : Int) > 64
     ·rw [if_pos EH] at H
      have MD : decide (64 < (l1.length : Int)) = true:=decide_eq_true EH;have aRE : decide (64 < l1.length) = true:=decide_eq_true (by omega);clear EH;simp only [Option.some.injEq,Prod.mk.injEq] at H;obtain ⟨rfl,rfl,rfl,rfl⟩:=H;have aRl:=uM.out;have aQW:=uN.out;have FI:=bR eR 0 (.int .i64 mU) rfl;have FH:=bR eR 1 (.int .i64 jN) rfl;have FG:=bR eR 2 (.slice none 0 0) rfl;have FC:=aD eR.out 0;have FB:=aD eR.out 1;have FA:=aD eR.out 2
      go_wp2
      refine bodyPost_ret (dX rfl _ _ zY 24 #[.int .i64 0,.int .i64 0,.slice none 0 0] (0,0) _ rfl (by (with_reducible repeat first | apply aE | apply aG | apply aC);refine bC (cs:=#[.int .i64 0,.int .i64 0,.slice none 0 0]) ?_ 2 _ rfl;(with_reducible repeat first | apply aE | apply aG | apply aC);refine bC (cs:=#[.int .i64 0,.int .i64 jN,.slice none 0 0]) ?_ 1 _ rfl;(with_reducible repeat first | apply aE | apply aG | apply aC);refine bC (cs:=#[.int .i64 mU,.int .i64 jN,.slice none 0 0]) ?_ 0 _ rfl;(with_reducible repeat first | apply aE | apply aG | apply aC);exact eR.out) Try.underlying24 rfl (by kernel_rfl)) rfl ?_;exact ⟨_,yE,RP,eA HB pZ vN⟩
     ·rw [if_neg EH] at H
      have MD : decide (64 < (l1.length : Int)) = false:=decide_eq_false EH;have aRE : decide (64 < l1.length) = false:=decide_eq_false (by omega);clear EH;have H':=aA.mk H;clear H;have aRk:=uN.out;have aQV:=uM.out;have BR:=bR eP 0 (.int .i64 aQ) rfl;have BQ:=bR eP 1 (.int .i64 aK) rfl;have BP:=bR eP 2 (.slice cG aV.length cF) rfl;have BE:=aD eP.out 0;have BD:=aD eP.out 1;have BC:=aD eP.out 2;go_wp2_with (first | ((with_reducible refine bU (N:=7) rfl ?_);refine pG (N:=7) (cs:=#[.int .i64 0,.int .i64 0,.slice none 0 0]) (t:=24) ?_;intro aHt hg w26 hbox hb;have jX:=aA.mk (hbox);have bHG:=aA.mk (gE hg (eA HB pZ vN) : w.heap.size≤aHt);have YX:=aA.mk (gE hg (eA HB pZ vN) : w.heap.size≤aHt);replace HB:=aA.mk (aM (eA HB pZ vN) hb);have wV:=aA.mk (lQ hg (bT eP));have SZ:=aA.mk (lR hg (bT eP));replace eP:=aA.mk (aH (bT eP) hb);have wU:=aA.mk (lQ hg (bT eR));have SY:=aA.mk (lR hg (bT eR));replace eR:=aA.mk (aH (bT eR) hb);clear hb hbox hg;have aRj:=SZ.out;have aQU:=wV.out;have aRi:=SY.out;have aQT:=wU.out;have FF:=bR jX 0 (.int .i64 0) rfl;have FE:=bR jX 1 (.int .i64 0) rfl;have FD:=bR jX 2 (.slice none 0 0) rfl;have EZ:=aD jX.out 0;have EY:=aD jX.out 1;have EX:=aD jX.out 2))
      go_loopg [8] k1 (fun kq v8 w' => ∃ (jI : Int) (qB : List Int) (AV : Value),v8 = .int .i64 jI∧aA (bB.l1 kq l1 jI aQ aK aV (l1.length : Int) aK qB = some (r1,r2,r3,r4))∧aA (kq≤k1)∧aA (Kd.R (Kd.int .u8) 5 w' w.heap.size (fun _ => True) AV qB)∧aA (w'.heap[yJ]? = some (.cells #[.int .i64 aQ,.int .i64 aK,(.slice cG aV.length cF)] 24 (0,0)))∧aA (w'.heap[zY]? = some (.cells #[.int .i64 mU,.int .i64 jN,(.slice none 0 0)] 24 (0,0)))∧aA (w'.heap[aHt]? = some (.cells #[.int .i64 (l1.length : Int),.int .i64 aK,AV] 24 (0,0)))∧aA (Below w.heap.size w w'))
      case atStart => exact ⟨(0),(([] : List Int)),(.slice none 0 0),rT,H',⟨Nat.le_refl _⟩,⟨RP⟩,⟨by (with_reducible repeat first | apply aE | apply aG | apply aC);refine aN ?_ wV.out _;(with_reducible repeat first | apply aE | apply aG | apply aC);refine aN ?_ wV.out _;(with_reducible repeat first | apply aE | apply aG | apply aC);refine aN ?_ wV.out _;(with_reducible repeat first | apply aE | apply aG | apply aC);exact eP.out⟩,⟨by (with_reducible repeat first | apply aE | apply aG | apply aC);refine aN ?_ wU.out _;(with_reducible repeat first | apply aE | apply aG | apply aC);refine aN ?_ wU.out _;(with_reducible repeat first | apply aE | apply aG | apply aC);refine aN ?_ wU.out _;(with_reducible repeat first | apply aE | apply aG | apply aC);exact eR.out⟩,⟨by (with_reducible repeat first | apply aE | apply aG | apply aC);refine bC (cs:=#[.int .i64 (l1.length : Int),.int .i64 aK,.slice none 0 0]) ?_ 2 _ rfl;(with_reducible repeat first | apply aE | apply aG | apply aC);refine bC (cs:=#[.int .i64 (l1.length : Int),.int .i64 0,.slice none 0 0]) ?_ 1 _ rfl;(with_reducible repeat first | apply aE | apply aG | apply aC);refine bC (cs:=#[.int .i64 0,.int .i64 0,.slice none 0 0]) ?_ 0 _ rfl;(with_reducible repeat first | apply aE | apply aG | apply aC);exact jX.out⟩,⟨jU HB pZ vN YX⟩⟩
      case round =>
       clear H';(try clear c1);(try clear c2);(try clear p2);(try clear c4);(try clear p5);(try clear q5);(try clear hx5);(try clear p6);(try clear c7);(try clear NF);(try clear aAV);(try clear CV);(try clear ME);(try clear yK);(try clear RA);(try clear ND);(try clear c16);(try clear aEl);(try clear UK);(try clear ZG);(try clear EH);(try clear MD);(try clear aRE);(try clear c22);(try clear c24);(try clear c27);(try clear c28);(try clear KA);(try clear JZ);(try clear JY);(try clear xK);(try clear xJ);(try clear xI);(try clear FI);(try clear FH);(try clear FG);(try clear BR);(try clear BQ);(try clear BP);(try clear FF);(try clear FE);(try clear FD);(try clear wQ);(try clear wP);(try clear wO);(try clear JX);(try clear JW);(try clear JV);(try clear xH);(try clear xG);(try clear xF);(try clear FC);(try clear FB);(try clear FA);(try clear BE);(try clear BD);(try clear BC);(try clear EZ);(try clear EY);(try clear EX);(try clear wN);(try clear wM);(try clear wL);(try clear hx506_0);(try clear hx507_0);(try clear p2);(try clear UI);(try clear aDC);(try clear q506);(try clear q507);obtain ⟨jI,qB,AV,rfl,HA,yL,mI,eP,eR,jX,HB⟩:=hrel
       cases gk with
       | zero => exact absurd HA.out (by simp [bB.l1])
       | succ k2 =>
        have H:=HA.out;clear HA;simp only [bB.l1] at H
        by_cases YD : jI < (l1.length : Int)
        ·rw [if_pos YD] at H
         have TV : decide (jI < (l1.length : Int)) = true:=decide_eq_true YD;clear YD
         by_cases ZE : 0≤jI
         ·rw [if_pos ZE] at H
          have aHC : decide (0≤jI) = true:=decide_eq_true ZE;clear ZE;replace H:=Option.bind_eq_some_iff.mp H;obtain ⟨⟨aEX,bCy⟩,aZz,H⟩:=H;replace H : (if qB.length + aEX.length < 140737488355328 then (bB.l1 k2 l1 (wrap64 (jI + 1)) aQ aK aV (l1.length : Int) aK (qB ++ aEX)) else (none)) = some (r1,r2,r3,r4):=H;have A32:=aA.mk aZz;clear aZz
          by_cases c33 : qB.length + aEX.length < 140737488355328
          ·rw [if_pos c33] at H
           have LMc33:=aA.mk c33;clear c33;obtain ⟨y514,hy514⟩ : ∃ y_ : List Int,y_ = (qB ++ aEX):=⟨_,rfl⟩
           replace H : (bB.l1 k2 l1 (wrap64 (jI + 1)) aQ aK aV (l1.length : Int) aK y514) = some (r1,r2,r3,r4):=by first | (rw [hy514];with_reducible exact H) | (have H2_:=(Option.bind_some _ _).symm.trans H;rw [hy514];with_reducible exact H2_) | (have H2_:=(Option.bind_some _ _).symm.trans H;with_reducible exact H2_) | with_reducible exact H | (rw [hy514];exact H) | exact H
           have Ny514:=aA.mk hy514;clear hy514;have H':=aA.mk H;clear H
           try go_wp2
           replace mI:=aA.mk (Kd.bQ mI.out);replace eP:=aA.mk (aG eP.out);replace eR:=aA.mk (aG eR.out);replace jX:=aA.mk (aG jX.out);replace HB:=aA.mk (dO HB.out);have aSK : 0≤(jI : Int):=of_decide_eq_true pH;have q509 : jI < (l1.length : Int):=of_decide_eq_true pH;obtain ⟨ad509,e509,hx509_0⟩:=Kd.rG tY.out jI aSK q509;have VC:=hx509_0
           cases e509
           replace hx509_0:=(HB.out.cell (World.block_lt_of_cell? w _ hx509_0)).trans hx509_0;replace aSK:=eq_true aSK;replace q509:=eq_true q509;refine qR (n:=11) (S:=fun w' => w'.cell? ⟨yJ,0,none⟩ = some (.int .i64 aQ)∧w'.cell? ⟨yJ,1,none⟩ = some (.int .i64 aK)∧w'.cell? ⟨yJ,2,none⟩ = some (.slice cG aV.length cF)∧w'.cell? (ad509.add (jI).toNat) = some (.int .i64 (rd l1 jI))) (ds:=[]) #[false,false,false,false,false,false,false,false,false,false,false] (by kernel_rfl) rfl rfl ⟨(aU eP.out 0).trans rfl,(aU eP.out 1).trans rfl,(aU eP.out 2).trans rfl,((HB.out.cell (World.block_lt_of_cell? w _ VC)).trans VC)⟩ (fun hHeld => ?_);refine jO bB.aUf bB.aTw (fun HT_ HW_ => ?_);generalize wr.drew = w34 at mI eP eR jX HB hx509_0 hHeld ⊢;refine cB (i:=1) (N:=some 53) (v:=?_) (a':=?_) (eE 11 2) rfl rfl (bK HT_.out (by kernel_rfl)) (fun _ _ _ h => h) (Or.inl ⟨by rfl,?_⟩) ?_ ?_;rotate_left
           ·intro w'
            go_simp;(with_reducible rfl)
           rotate_left
           ·simp only [Act.put,cV,cT,cW,bG,bH]
            rfl
           refine cB (i:=2) (N:=some 54) (v:=?_) (a':=?_) (eE 11 6) rfl rfl (bK HT_.out (by kernel_rfl)) (fun _ _ _ h => h) (Or.inl ⟨by rfl,?_⟩) ?_ ?_;rotate_left
           ·intro w'
            go_simp;(with_reducible rfl)
           rotate_left
           ·simp only [Act.put,cV,cT,cW,bG,bH]
            rfl
           refine cB (i:=3) (N:=some 55) (v:=?_) (a':=?_) (eE 11 14) rfl rfl (bK HT_.out (by kernel_rfl)) (fun _ _ _ h => h) (Or.inl ⟨by rfl,?_⟩) ?_ ?_;rotate_left
           ·intro w'
            go_simp;(with_reducible rfl)
           rotate_left
           ·simp only [Act.put,cV,cT,cW,bG,bH]
            rfl
           refine hY (i:=0) (N:=some 52) (v:=?_) (a':=?_) (eE 11 15) rfl rfl (dZ HT_.out HW_.out (by kernel_rfl)) (fun _ _ _ h => h) (Or.inl ⟨by rfl,?_⟩) hHeld ?_ ?_;rotate_left
           ·rintro w' ⟨s0,s1,s2,s3⟩
            go_simp;(with_reducible rfl)
           rotate_left
           ·simp only [Act.put,cV,cT,cW,bG,bH]
            rfl
           refine hY (i:=4) (N:=some 56) (v:=?_) (a':=?_) (eE 11 31) rfl rfl (dZ HT_.out HW_.out (by kernel_rfl)) (fun _ _ _ h => h) (Or.inl ⟨by rfl,?_⟩) hHeld ?_ ?_;rotate_left
           ·rintro w' ⟨s0,s1,s2,s3⟩
            go_simp;(with_reducible rfl)
           rotate_left
           ·simp only [Act.put,cV,cT,cW,bG,bH]
            rfl
           refine yR (i:=5) (N:=some 57) (eE 11 63) rfl rfl (iU HT_.out (by kernel_rfl)) (by decide) (fun K hK => ?_);refine xS Try.func54 (by kernel_rfl) rfl #[.agg #[.int .i64 aQ,.int .i64 aK,.slice cG aV.length cF],.int .i64 (rd l1 jI)] (by rfl) rfl rfl pX ?_
           with_reducible refine (cH.calls k2 aQ aK _ _ aV (rd l1 jI) aEX bCy _ ?side1 ?side2 A32.out).mono ?_
           (case side1 => exact sW (Kd.eN iH.out HB.out))
           (case side2 => exact iN.out);rintro e w35 ⟨bIx,rfl,ho0,hb⟩;refine ⟨_,rfl,?_⟩;have aBb:=aA.mk (Kd.dY (Kd.dF ho0 (Kd.gH (cN mI.out))) (cD (jU HB pZ vN YX)));replace mI:=aA.mk (Kd.cI (cN mI.out) (Kd.dG ho0) hb);replace eP:=aA.mk (aH (bT eP) hb);replace eR:=aA.mk (aH (bT eR) hb);replace jX:=aA.mk (aH (bT jX) hb);replace HB:=aA.mk (aM (jU HB pZ vN YX) hb);(try clear hb);(try clear hb2);(try clear hk);(try clear hi);(try clear ho0);refine hK.out _ _ ⟨(aU eP.out 0).trans rfl,(aU eP.out 1).trans rfl,(aU eP.out 2).trans rfl,((HB.out.cell (World.block_lt_of_cell? w _ VC)).trans VC)⟩ (fun hHeld => ?_);clear hK K;refine kY (a':=?_) ?_ ?_;rotate_left
           ·show Act.put _ (some 57) _ = _
            simp only [Act.put,cV,cT,cW,bG,bH];rfl
           refine cB (i:=6) (N:=some 51) (v:=?_) (a':=?_) (eE 11 127) rfl rfl (bK HT_.out (by kernel_rfl)) (fun _ _ _ h => h) (Or.inl ⟨by rfl,?_⟩) ?_ ?_;rotate_left
           ·intro w'
            go_simp;(with_reducible rfl)
           rotate_left
           ·simp only [Act.put,cV,cT,cW,bG,bH]
            rfl
           refine cB (i:=7) (N:=some 58) (v:=?_) (a':=?_) (eE 11 255) rfl rfl (bK HT_.out (by kernel_rfl)) (fun _ _ _ h => h) (Or.inl ⟨by rfl,?_⟩) ?_ ?_;rotate_left
           ·intro w'
            go_simp;(with_reducible rfl)
           rotate_left
           ·simp only [Act.put,cV,cT,cW,bG,bH]
            rfl
           refine cB (i:=8) (N:=some 59) (v:=?_) (a':=?_) (eE 11 511) rfl rfl (bK HT_.out (by kernel_rfl)) (fun _ _ _ h => h) (Or.inl ⟨by rfl,?_⟩) ?_ ?_;rotate_left
           ·intro w'
            go_simp;(with_reducible rfl)
           rotate_left
           ·simp only [Act.put,cV,cT,cW,bG,bH]
            rfl
           refine cB (i:=9) (N:=some 9) (v:=?_) (a':=?_) (eE 11 1023) rfl rfl (bK HT_.out (by kernel_rfl)) (fun _ _ _ h => h) (Or.inl ⟨by rfl,?_⟩) ?_ ?_;rotate_left
           ·intro w'
            go_simp;(with_reducible rfl)
           rotate_left
           ·simp only [Act.put,cV,cT,cW,bG,bH]
            rfl
           refine cB (i:=10) (N:=some 10) (v:=?_) (a':=?_) (eE 11 2047) rfl rfl (bK HT_.out (by kernel_rfl)) (fun _ _ _ h => h) (Or.inl ⟨by rfl,?_⟩) ?_ ?_;rotate_left
           ·intro w'
            go_simp;(with_reducible rfl)
           rotate_left
           ·simp only [Act.put,cV,cT,cW,bG,bH]
            rfl
           refine vY (oG HT_.out (by kernel_rfl)) ?_;have aRf:=SZ.out;have aQQ:=wV.out;have aRe:=SY.out;have aQP:=wU.out;have VX:=bR jX 0 (.int .i64 (l1.length : Int)) rfl;have VW:=bR jX 1 (.int .i64 aK) rfl;have VV:=bR jX 2 AV rfl;have VL:=aD jX.out 0;have VK:=aD jX.out 1;have VJ:=aD jX.out 2;obtain ⟨bFu,aJp,eo40⟩:=Kd.cZ aBb.out;subst eo40
           try go_wp2_with (first | ((with_reducible refine yT (b:=.append) (xs:=#[.tmp 61,.tmp 62]) rfl ?_);at_builtin;refine Kd.MG (Kd.int .u8) (w0:=w) w.heap.size rfl (.tmp 61) (.tmp 62) 22 5 (.int .u8 0) 1 rfl Try.underlying22 FV rfl (by decide) (by omega) AV qB aEX _ _ _ (fun k_ => some k_≠(.slice bFu aEX.length aJp : Value).ownBlock) (fun _ => False) rfl rfl ?aO ?aR (fun _ _ h => h) (fun _ h => h.elim) ?aF ?aB ?aS ?aL ?_;(case aR => exact sW ((Kd.bM aBb.out).2.2));(case aB => exact (jU HB pZ vN YX));(case aF => exact (fun k_ hk => Kd.SL (Kd.gH (cN aBb.out)) k_ hk));(case aO => exact (by (with_reducible repeat first | apply Kd.bX | apply Kd.bW | apply Kd.bQ);exact Kd.cE mI.out (fun _ hk => hk.2)));(case aS => exact (cD (jU HB pZ vN YX)));(case aL => have:=LMc33.out;omega);intro bIw w39 ho hb hg hat;rw [← Ny514.out] at ho;have mT:=aA.mk (fL (bT eP) hg (Kd.oY mI.out eP.out (by decide)));have mS:=aA.mk (fL (bT eR) hg (Kd.oY mI.out eR.out (by decide)));have tD:=aA.mk (fL (bT jX) hg (Kd.oY mI.out jX.out (by decide)));have uE:=aA.mk (Kd.FO (ok:=(fun _ => True)) (cN aBb.out) hg hat);have uD:=aA.mk (hb);have xE:=aA.mk (ho);clear eP eR;clear jX aBb;clear HB mI;have eP:=mT;have eR:=mS;have jX:=tD;have aBb:=uE;have HB:=uD;have aRN:=xE;clear mT mS tD uE uD xE;clear ho hb hg hat;obtain ⟨aZb,aXJ,eo41⟩:=Kd.cZ aRN.out;subst eo41;have aCz:=bR jX 0 (.int .i64 (l1.length : Int)) rfl;have aCy:=bR jX 1 (.int .i64 aK) rfl;have aCx:=bR jX 2 AV rfl;have aCe:=aD jX.out 0;have aCd:=aD jX.out 1;have aCc:=aD jX.out 2))
           go_roundg k2
           case measure => have:=FP.out;have:=yL.out;omega
           case rel => exact ⟨(wrap64 (jI + 1)),(y514),(.slice aZb y514.length aXJ),rT,H',⟨by have:=FP.out;have:=yL.out;omega⟩,⟨by (with_reducible repeat first | apply Kd.bX | apply Kd.bW | apply Kd.bQ);exact Kd.cE (Kd.cU (p:=⟨aHt,2,none⟩) (Kd.eM aRN.out jX.out (by decide)) (fun _ hk => hk.2) (.slice aZb y514.length aXJ)) (fun _ hk => trivial)⟩,⟨by (with_reducible repeat first | apply aE | apply aG | apply aC);refine aN ?_ wV.out _;(with_reducible repeat first | apply aE | apply aG | apply aC);exact eP.out⟩,⟨by (with_reducible repeat first | apply aE | apply aG | apply aC);refine aN ?_ wU.out _;(with_reducible repeat first | apply aE | apply aG | apply aC);exact eR.out⟩,⟨by (with_reducible repeat first | apply aE | apply aG | apply aC);refine bC (cs:=#[.int .i64 (l1.length : Int),.int .i64 aK,AV]) ?_ 2 _ rfl;(with_reducible repeat first | apply aE | apply aG | apply aC);exact jX.out⟩,⟨jU HB pZ vN YX⟩⟩
          ·rw [if_neg c33] at H
           exact absurd H (by simp)
         ·rw [if_neg ZE] at H
          exact absurd H (by simp)
        ·rw [if_neg YD] at H
         have TV : decide (jI < (l1.length : Int)) = false:=decide_eq_false YD;clear YD;simp only [Option.some.injEq,Prod.mk.injEq] at H;obtain ⟨rfl,rfl,rfl,rfl⟩:=H;have aLL:=SZ.out;have aLJ:=wV.out;have aRc:=SY.out;have aQN:=wU.out;have QM:=bR jX 0 (.int .i64 (l1.length : Int)) rfl;have QL:=bR jX 1 (.int .i64 aK) rfl;have QK:=bR jX 2 AV rfl;have PU:=aD jX.out 0;have PT:=aD jX.out 1;have PS:=aD jX.out 2;have aVd:=uM.out;have aUI:=uN.out;have bBy:=bR eR 0 (.int .i64 mU) rfl;have bBx:=bR eR 1 (.int .i64 jN) rfl;have bBw:=bR eR 2 (.slice none 0 0) rfl;have bAz:=aD eR.out 0;have bAy:=aD eR.out 1;have bAx:=aD eR.out 2;obtain ⟨aYZ,aXH,eo48⟩:=Kd.cZ mI.out;subst eo48
         go_wp2
         refine bodyPost_ret (dX rfl _ _ zY 24 #[.int .i64 (l1.length : Int),.int .i64 aK,.slice aYZ qB.length aXH] (0,0) _ rfl (by (with_reducible repeat first | apply aE | apply aG | apply aC);refine bC (cs:=#[.int .i64 (l1.length : Int),.int .i64 aK,.slice none 0 0]) ?_ 2 _ rfl;(with_reducible repeat first | apply aE | apply aG | apply aC);refine bC (cs:=#[.int .i64 (l1.length : Int),.int .i64 jN,.slice none 0 0]) ?_ 1 _ rfl;(with_reducible repeat first | apply aE | apply aG | apply aC);refine bC (cs:=#[.int .i64 mU,.int .i64 jN,.slice none 0 0]) ?_ 0 _ rfl;(with_reducible repeat first | apply aE | apply aG | apply aC);exact eR.out) Try.underlying24 rfl (by kernel_rfl)) rfl ?_;exact ⟨_,yE,by (with_reducible repeat first | apply Kd.bX | apply Kd.bW | apply Kd.bQ);exact Kd.cE (Kd.cU (p:=⟨zY,2,none⟩) (Kd.cU (p:=⟨zY,1,none⟩) (Kd.cU (p:=⟨zY,0,none⟩) (Kd.eM mI.out eR.out (by decide)) (fun _ hk => hk.2) (.int .i64 (l1.length : Int))) (fun _ hk => hk.2) (.int .i64 aK)) (fun _ hk => hk.2) (.slice aYZ qB.length aXH)) (fun _ hk => trivial),jU HB pZ vN YX⟩
 ·replace c4:=Bool.eq_false_iff.mpr c4
  subst c4;have H1 : (some (0,0,([] : List Int),3)) = some (r1,r2,r3,r4):=by rw [if_neg (show ¬ (false = true) by decide)] at H;exact H
  clear H;have H:=H1;clear H1;simp only [Option.some.injEq,Prod.mk.injEq] at H;obtain ⟨rfl,rfl,rfl,rfl⟩:=H;go_enter Try.func22,Try.ntmps22;go_wp2_with (first | ((with_reducible refine bU (N:=2) rfl ?_);refine pG (N:=2) (cs:=#[.int .i64 aQ,.int .i64 aK,.slice cG aV.length cF]) (t:=24) ?_;intro yJ hg w49 hbox hb;have eP:=aA.mk (hbox);have aYL:=aA.mk (gE hg (dN HB) : w.heap.size≤yJ);have pZ:=aA.mk (gE hg (dN HB) : w.heap.size≤yJ);replace HB:=aA.mk (aM (dN HB) hb);clear hb hbox hg) | ((with_reducible refine bU (N:=4) rfl ?_);refine pG (N:=4) (cs:=#[.int .i64 0,.int .i64 0,.slice none 0 0]) (t:=24) ?_;intro zY hg w50 hbox hb;have eR:=aA.mk (hbox);have aYK:=aA.mk (gE hg (dR HB pZ) : w.heap.size≤zY);have vN:=aA.mk (gE hg (dR HB pZ) : w.heap.size≤zY);replace HB:=aA.mk (aM (dR HB pZ) hb);have uN:=aA.mk (lQ hg (bT eP));have uM:=aA.mk (lR hg (bT eP));replace eP:=aA.mk (aH (bT eP) hb);clear hb hbox hg;have aRb:=uN.out;have aQM:=uM.out;have QG:=bR eP 0 (.int .i64 aQ) rfl;have QF:=bR eP 1 (.int .i64 aK) rfl;have QE:=bR eP 2 (.slice cG aV.length cF) rfl;have PN:=aD eP.out 0;have PM:=aD eP.out 1;have PL:=aD eP.out 2) | ((with_reducible refine bN (f:=17) rfl ?_);refine eB (some 12) rfl rfl Try.func17 (by kernel_rfl) rfl #[.agg #[.int .i64 aQ,.int .i64 aK,.slice cG aV.length cF]] rfl pX ?_;(with_reducible refine (bF.calls aQ aK _ _ aV false _ ?side1 ?side2 A3.out).mono ?_);(case side1 => exact sW (Kd.eN iH.out HB.out));(case side2 => exact iN.out);rintro e w53 ⟨rfl,hb⟩;refine ⟨_,rfl,?_⟩;replace eP:=aA.mk (aH (bT eP) hb);replace eR:=aA.mk (aH (bT eR) hb);replace HB:=aA.mk (aM (eA HB pZ vN) hb);(try clear hb);(try clear hb2);(try clear hk);(try clear hi);have aHm:=bR eR 0 (.int .i64 0) rfl;have aHl:=bR eR 1 (.int .i64 0) rfl;have aHk:=bR eR 2 (.slice none 0 0) rfl;have aHd:=aD eR.out 0;have aHc:=aD eR.out 1;have aHb:=aD eR.out 2))
  refine bodyPost_ret (dX rfl _ _ zY 24 #[.int .i64 0,.int .i64 0,.slice none 0 0] (0,0) _ rfl (by (with_reducible repeat first | apply aE | apply aG | apply aC);refine bC (cs:=#[.int .i64 0,.int .i64 0,.slice none 0 0]) ?_ 2 _ rfl;(with_reducible repeat first | apply aE | apply aG | apply aC);refine bC (cs:=#[.int .i64 0,.int .i64 0,.slice none 0 0]) ?_ 1 _ rfl;(with_reducible repeat first | apply aE | apply aG | apply aC);refine bC (cs:=#[.int .i64 0,.int .i64 0,.slice none 0 0]) ?_ 0 _ rfl;(with_reducible repeat first | apply aE | apply aG | apply aC);exact eR.out) Try.underlying24 rfl (by kernel_rfl)) rfl ?_;exact ⟨_,yE,RP,eA HB pZ vN⟩
end Go.Proofs.Yteofcbkjhdadpaa.Pr
