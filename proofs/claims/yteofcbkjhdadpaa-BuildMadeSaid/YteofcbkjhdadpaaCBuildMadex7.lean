import Derived.Test.YteofcbkjhdadpaaCBuildMadex0
import Derived.Test.YteofcbkjhdadpaaCBuildMadex6
set_option maxHeartbeats 8000000
set_option maxRecDepth 100000
set_option linter.unusedSimpArgs false
set_option linter.unusedVariables false
namespace Go.Proofs.Yteofcbkjhdadpaa.Pr
open Go.RowKit Go.Proofs.aI.bC Go.Proofs.aI.eW Go.Proofs.aI.jH
attribute [local go_sem] nM nK rG qZ kG kF nL nJ   -- for this text's walks alone
def dR.f (aV : Int) (aT : Int) (bB : List Int) (a1 : Int) : Option (Int × Int × List Int) := if 0 ≤ (wrap64 (a1 * aT)) then (if (wrap64 (a1 * aT)) ≤ (bB.length : Int) then ((dH.f (bB.take ((wrap64 (a1 * aT)) : Int).toNat)).bind fun WX => (some (a1, aT, WX))) else (none)) else (none)
def dR.T1 : Bool × List (List Nat × List Nat) := (true, [([], []), ([], []), ([1], [1]), ([], []), ([3], [3]), ([], []), ([], []), ([6], [6]), ([5, 7], [5, 7]), ([4, 8], [4, 8]), ([9], [9]), ([0, 2, 10], [0, 2, 10]), ([11, 10, 0, 1, 2, 3, 4, 5, 6, 7, 8, 9, 10, 11], [11])])
def dR.B1 : List Nat := [0, 0, 2, 0, 8, 0, 0, 64, 224, 504, 1016, 2047, 4095]
theorem dR.aWi : sI .any (opsOf Try.f52 1) = dR.T1 := by kernel_rfl
theorem dR.aSu : mJ dR.T1.2 dR.B1 = true := by kernel_rfl
theorem dR.calls (aV : Int) (aT : Int) (cL : Option Addr) (cK : Nat) (bB : List Int) (a1 : Int) (r1 : Int) (r2 : Int) (r3 : List Int) (w : World) (hr0_2 : Kd.C (Kd.int .u8) w cL bB.length bB) (hc0_2 : bB.length ≤ cK) (h : dR.f aV aT bB a1 = some (r1, r2, r3)) :
  Calls Try.prog 52 #[.agg #[.int .i64 aV, .int .i64 aT, .slice cL bB.length cK], .int .i64 a1] w fun e w' => ∃ qW : Value, e = .returned (.agg #[.int .i64 r1, .int .i64 r2, qW]) ∧ Kd.R (Kd.int .u8) 5 w' w.heap.size (fun _ => True) qW r3 ∧ Below w.heap.size w w' := by
 have wA := Try.underlying24;have iC := aA.mk hr0_2;have iF := aA.mk hc0_2;clear hr0_2 hc0_2;have HB := aA.mk (Below.refl w.heap.size w);have H : (if 0 ≤ (wrap64 (a1 * aT)) then (if (wrap64 (a1 * aT)) ≤ (bB.length : Int) then ((dH.f (bB.take ((wrap64 (a1 * aT)) : Int).toNat)).bind fun WX => (some (a1, aT, WX))) else (none)) else (none)) = some (r1, r2, r3) := h;clear h;obtain ⟨DQ, KD⟩ : ∃ j_ : Int, (wrap64 (a1 * aT)) = j_ := ⟨_, rfl⟩
 replace H : (if 0 ≤ (DQ) then (if (DQ) ≤ (bB.length : Int) then ((dH.f (bB.take ((DQ) : Int).toNat)).bind fun WX => (some (a1, aT, WX))) else (none)) else (none)) = some (r1, r2, r3) := by first | (rw [KD] at H; exact H) | (simp only [KD] at H ⊢; exact H)
 have aNL : (IntKind.i64.wrap (a1 * aT)) = DQ := (bJ _).trans KD
 by_cases c4 : 0 ≤ (DQ)
 ·rw [if_pos c4] at H
  have JC := eq_true c4;have aCm : decide (0 ≤ (DQ)) = true := decide_eq_true c4;clear c4
  by_cases c5 : (DQ) ≤ (bB.length : Int)
  ·rw [if_pos c5] at H
   have sZ := eq_true c5;have KI : decide ((DQ) ≤ (bB.length : Int)) = true := decide_eq_true c5;clear c5;replace H := Option.bind_eq_some_iff.mp H;obtain ⟨WX, A60, H⟩ := H;replace H : (some (a1, aT, WX)) = some (r1, r2, r3) := H;have A6 := aA.mk A60;clear A60;simp only [Option.some.injEq, Prod.mk.injEq] at H;obtain ⟨rfl, rfl, rfl⟩ := H;go_enter Try.func52, Try.ntmps52
   try go_wp2_with (first | ((with_reducible refine bR (N := 2) rfl ?_); refine bL ?hg (N := 2) ?hd (cs := #[.int .i64 aV, .int .i64 aT, .slice cL bB.length cK]) (t := 24) ?hr ?_; (case hd => rfl); (case hg => rfl); (case hr => first | (go_simp; done) | (go_simp; rfl)); intro VI hg w7 hbox hb; have xY := aA.mk (hbox); have aZs := aA.mk ((by rw [hg]; exact (aJ (cV HB)) : w.heap.size ≤ VI)); have ZE := aA.mk ((by rw [hg]; exact (aJ (cV HB)) : w.heap.size ≤ VI)); replace HB := aA.mk (aN (cV HB) hb); clear hb hbox hg) | ((with_reducible refine bR (N := 4) rfl ?_); refine bL ?hg (N := 4) ?hd (cs := #[.int .i64 0, .int .i64 0, .slice none 0 0]) (t := 24) ?hr ?_; (case hd => rfl); (case hg => rfl); (case hr => first | (go_simp; done) | (go_simp; rfl)); intro tE hg w8 hbox hb; have BR := aA.mk (hbox); have aZr := aA.mk ((by rw [hg]; exact (aJ (cI HB ZE)) : w.heap.size ≤ tE)); have aKB := aA.mk ((by rw [hg]; exact (aJ (cI HB ZE)) : w.heap.size ≤ tE)); replace HB := aA.mk (aN (cI HB ZE) hb); have lG := aA.mk ((by rw [hg]; exact Nat.ne_of_lt (bV (cN xY)) : VI ≠ tE)); have PK := aA.mk ((by rw [hg]; exact Nat.ne_of_gt (bV (cN xY)) : tE ≠ VI)); replace xY := aA.mk (aK (cN xY) hb); clear hb hbox hg))
   replace xY := aA.mk (aH xY.out);replace BR := aA.mk (aH BR.out);replace HB := aA.mk (dY HB.out);obtain ⟨bAy, aNM, _, aNu, _⟩ := info_parts xI;obtain ⟨aWZ, aRH, aRG⟩ := XD (P := Try.prog) (Value.int .u8) 0 22 5 .i64 Try.underlying22 aNM aNu cL cK bB (DQ) (of_decide_eq_true sJ) (of_decide_eq_true sJ) iF.out;have aOd := aA.mk (Kd.aDX (h1 := fun _ => rfl) (aRH _ (Kd.JY iC.out)));have aSQ := aA.mk aRG;clear aRH aRG aNM aNu;refine sV (n := 13) (S := fun w' => w'.cell? ⟨VI, 0, none⟩ = some (.int .i64 aV) ∧ w'.cell? ⟨VI, 1, none⟩ = some (.int .i64 aT) ∧ w'.cell? ⟨VI, 2, none⟩ = some (.slice cL bB.length cK)) (ds := []) #[false, false, false, false, false, false, false, false, false, false, false, false, false] (by kernel_rfl) rfl rfl ⟨(aD xY.out 0).trans rfl, (aD xY.out 1).trans rfl, (aD xY.out 2).trans rfl⟩ (fun hHeld => ?_); refine kB dR.aWi dR.aSu (fun HT_ HW_ => ?_);generalize w8.drew = w9 at xY BR HB aOd hHeld ⊢;refine cF (i := 0) (N := some 5) (v := ?_) (a' := ?_) #[true, false, false, false, false, false, false, false, false, false, false, false, false] rfl rfl (bX HT_.out (by kernel_rfl)) (fun _ _ _ h => h) (Or.inl ⟨by rfl, ?_⟩) ?_ ?_;rotate_left
   ·intro w'
    go_simp;(with_reducible rfl)
   rotate_left
   ·simp only [Act.put, cW, cT, cZ, bJ, bM]
    rfl
   refine cF (i := 1) (N := some 6) (v := ?_) (a' := ?_) #[true, true, false, false, false, false, false, false, false, false, false, false, false] rfl rfl (bX HT_.out (by kernel_rfl)) (fun _ _ _ h => h) (Or.inl ⟨by rfl, ?_⟩) ?_ ?_;rotate_left
   ·intro w'
    go_simp;(with_reducible rfl)
   rotate_left
   ·simp only [Act.put, cW, cT, cZ, bJ, bM]
    rfl
   refine cF (i := 3) (N := some 8) (v := ?_) (a' := ?_) #[true, true, false, true, false, false, false, false, false, false, false, false, false] rfl rfl (bX HT_.out (by kernel_rfl)) (fun _ _ _ h => h) (Or.inl ⟨by rfl, ?_⟩) ?_ ?_;rotate_left
   ·intro w'
    go_simp;(with_reducible rfl)
   rotate_left
   ·simp only [Act.put, cW, cT, cZ, bJ, bM]
    rfl
   refine cF (i := 5) (N := some 10) (v := ?_) (a' := ?_) #[true, true, false, true, false, true, false, false, false, false, false, false, false] rfl rfl (bX HT_.out (by kernel_rfl)) (fun _ _ _ h => h) (Or.inl ⟨by rfl, ?_⟩) ?_ ?_;rotate_left
   ·intro w'
    go_simp;(with_reducible rfl)
   rotate_left
   ·simp only [Act.put, cW, cT, cZ, bJ, bM]
    rfl
   refine cF (i := 6) (N := some 11) (v := ?_) (a' := ?_) #[true, true, false, true, false, true, true, false, false, false, false, false, false] rfl rfl (bX HT_.out (by kernel_rfl)) (fun _ _ _ h => h) (Or.inl ⟨by rfl, ?_⟩) ?_ ?_;rotate_left
   ·intro w'
    go_simp;(with_reducible rfl)
   rotate_left
   ·simp only [Act.put, cW, cT, cZ, bJ, bM]
    rfl
   refine fW (i := 2) (N := some 7) (v := ?_) (a' := ?_) #[true, true, true, true, false, true, true, false, false, false, false, false, false] rfl rfl (dQ HT_.out HW_.out (by kernel_rfl)) (fun _ _ _ h => h) (Or.inl ⟨by rfl, ?_⟩) hHeld ?_ ?_;rotate_left
   ·rintro w' ⟨s0, s1, s2⟩
    go_simp;(with_reducible rfl)
   rotate_left
   ·simp only [Act.put, cW, cT, cZ, bJ, bM]
    rfl
   refine fW (i := 4) (N := some 9) (v := ?_) (a' := ?_) #[true, true, true, true, true, true, true, false, false, false, false, false, false] rfl rfl (dQ HT_.out HW_.out (by kernel_rfl)) (fun _ _ _ h => h) (Or.inl ⟨by rfl, ?_⟩) hHeld ?_ ?_;rotate_left
   ·rintro w' ⟨s0, s1, s2⟩
    go_simp;(with_reducible rfl)
   rotate_left
   ·simp only [Act.put, cW, cT, cZ, bJ, bM]
    rfl
   refine fW (i := 7) (N := some 12) (v := ?_) (a' := ?_) #[true, true, true, true, true, true, true, true, false, false, false, false, false] rfl rfl (dQ HT_.out HW_.out (by kernel_rfl)) (fun _ _ _ h => h) (Or.inl ⟨by rfl, ?_⟩) hHeld ?_ ?_;rotate_left
   ·rintro w' ⟨s0, s1, s2⟩
    go_simp;(with_reducible rfl)
   rotate_left
   ·simp only [Act.put, cW, cT, cZ, bJ, bM]
    rfl
   refine cF (i := 8) (N := some 13) (v := ?_) (a' := ?_) #[true, true, true, true, true, true, true, true, true, false, false, false, false] rfl rfl (bX HT_.out (by kernel_rfl)) (fun _ _ _ h => h) (Or.inl ⟨by rfl, ?_⟩) ?_ ?_;rotate_left
   ·intro w'
    go_simp;(with_reducible rfl)
   rotate_left
   ·simp only [Act.put, cW, cT, cZ, bJ, bM]
    rfl
   refine cF (i := 9) (N := some 14) (v := ?_) (a' := ?_) #[true, true, true, true, true, true, true, true, true, true, false, false, false] rfl rfl (bX HT_.out (by kernel_rfl)) (fun _ _ _ h => h) (Or.inl ⟨by rfl, ?_⟩) ?_ ?_;rotate_left
   ·intro w'
    go_simp;(with_reducible rfl)
   rotate_left
   ·simp only [Act.put, cW, cT, cZ, bJ, bM]
    rfl
   refine AV (i := 10) (N := some 15) #[true, true, true, true, true, true, true, true, true, true, true, false, false] rfl rfl (iP HT_.out (by kernel_rfl)) (by decide) (fun K hK => ?_);refine AX Try.func41 (by kernel_rfl) rfl #[.slice cL (bB.take ((DQ) : Int).toNat).length cK] (by rfl) rfl rfl (by (try simp only [List.map_toArray, List.map_cons, List.map_nil]); first | done | (rw [show (bB.take ((DQ) : Int).toNat).length = (DQ).toNat from (by rw [List.length_take]; have h_ : ((DQ) : Int) ≤ (bB.length : Int) := of_decide_eq_true sJ; omega)] <;> rfl) | (simp only [KD]; rfl) | rfl | (simp only [List.length_drop, List.length_take]; rfl)) ?_
   with_reducible refine (dH.calls _ _ (bB.take ((DQ) : Int).toNat) WX _ ?side1 ?side2 A6.out).mono ?_
   (case side1 => repeat (first | exact (Kd.dW aOd.out HB.out) | (with_reducible refine Kd.cY ?_ _) | (with_reducible refine Kd.cX ?_ _) | (with_reducible refine Kd.dM ?_)))
   (case side2 => exact aSQ.out);rintro e w11 ⟨bAh, rfl, ho0, hb⟩;refine ⟨_, rfl, ?_⟩;have aOk := aA.mk (Kd.dE ho0 (aJ (dD HB ZE aKB)));replace xY := aA.mk (aK (cN xY) hb);replace BR := aA.mk (aK (cN BR) hb);replace HB := aA.mk (aN (dD HB ZE aKB) hb);(try clear hb);(try clear hb2);(try clear hk);(try clear hi);(try clear ho0);obtain ⟨aCL, aAT, eo12⟩ := Kd.cH aOk.out
   (first | subst eo12 | (injection eo12 with f1_ f2_ f3_; have f4_ := f1_.symm; have f5_ := f3_.symm; clear f1_ f2_ f3_; subst f4_; subst f5_));refine hK.out _ _ ⟨(aD xY.out 0).trans rfl, (aD xY.out 1).trans rfl, (aD xY.out 2).trans rfl⟩ (fun hHeld => ?_);clear hK K;refine sB (a' := ?_) ?_ ?_;rotate_left
   ·show Act.put _ (some 15) _ = _
    simp only [Act.put, cW, cT, cZ, bJ, bM];rfl
   refine cF (i := 11) (N := some 16) (v := ?_) (a' := ?_) #[true, true, true, true, true, true, true, true, true, true, true, true, false] rfl rfl (bX HT_.out (by kernel_rfl)) (fun _ _ _ h => h) (Or.inl ⟨by rfl, ?_⟩) ?_ ?_;rotate_left
   ·intro w'
    go_simp;(with_reducible rfl)
   rotate_left
   ·simp only [Act.put, cW, cT, cZ, bJ, bM]
    rfl
   refine AV (i := 12) (N := none) #[true, true, true, true, true, true, true, true, true, true, true, true, true] rfl rfl (iP HT_.out (by kernel_rfl)) (by decide) (fun K hK => ?_);have hs13 : w11.cell? ⟨tE, 0, none⟩ = some (.int .i64 0) := (aD BR.out 0).trans rfl;have hfs13 := aC BR.out 0;have hns13_0 := lG.out;have hms13_0 := PK.out;have hs14 : w11.cell? ⟨tE, 1, none⟩ = some (.int .i64 0) := (aD BR.out 1).trans rfl;have hfs14 := aC BR.out 1;have hns14_0 := lG.out;have hms14_0 := PK.out;have hs15 : w11.cell? ⟨tE, 2, none⟩ = some (.slice none 0 0) := (aD BR.out 2).trans rfl;have hfs15 := aC BR.out 2;have hns15_0 := lG.out;have hms15_0 := PK.out;refine JH (w1 := ?_) (by rfl) rfl ?_ ?_;rotate_left
   ·go_simp
    rfl
   refine hK.out _ _ ⟨((Go.Proofs.aI.bC.cell_far (p := ⟨tE, _, none⟩) lG.out _).trans (((Go.Proofs.aI.bC.cell_far (p := ⟨tE, _, none⟩) lG.out _).trans (((Go.Proofs.aI.bC.cell_far (p := ⟨tE, _, none⟩) lG.out _).trans (hHeld.1)))))), ((Go.Proofs.aI.bC.cell_far (p := ⟨tE, _, none⟩) lG.out _).trans (((Go.Proofs.aI.bC.cell_far (p := ⟨tE, _, none⟩) lG.out _).trans (((Go.Proofs.aI.bC.cell_far (p := ⟨tE, _, none⟩) lG.out _).trans (hHeld.2.1)))))), ((Go.Proofs.aI.bC.cell_far (p := ⟨tE, _, none⟩) lG.out _).trans (((Go.Proofs.aI.bC.cell_far (p := ⟨tE, _, none⟩) lG.out _).trans (((Go.Proofs.aI.bC.cell_far (p := ⟨tE, _, none⟩) lG.out _).trans (hHeld.2.2))))))⟩ (fun hHeld => ?_);clear hK K;refine xS (rR HT_.out (by kernel_rfl)) ?_
   try go_wp2
   refine bodyPost_ret (results_cell_row rfl _ _ tE 24 #[.int .i64 a1, .int .i64 aT, .slice aCL WX.length aAT] (0, 0) _ rfl (by (with_reducible repeat first | apply aE | apply aH | apply aG); refine bA (cs := #[.int .i64 a1, .int .i64 aT, .slice none 0 0]) ?_ 2 _ rfl; (with_reducible repeat first | apply aE | apply aH | apply aG); refine bA (cs := #[.int .i64 a1, .int .i64 0, .slice none 0 0]) ?_ 1 _ rfl; (with_reducible repeat first | apply aE | apply aH | apply aG); refine bA (cs := #[.int .i64 0, .int .i64 0, .slice none 0 0]) ?_ 0 _ rfl; (with_reducible repeat first | apply aE | apply aH | apply aG); exact BR.out) Try.underlying24 rfl (by kernel_rfl)) rfl ?_;exact ⟨_, by first | rfl | (simp [jF, jE] <;> rfl) | (simp only [← KD]; first | rfl | (simp [jF, jE] <;> rfl)) | (simp [*, jF, jE] <;> rfl), by (with_reducible repeat first | apply Kd.bG | apply Kd.bF | apply Kd.bK); exact Kd.bN (Kd.aZ (p := ⟨tE, 2, none⟩) (Kd.aZ (p := ⟨tE, 1, none⟩) (Kd.aZ (p := ⟨tE, 0, none⟩) (Kd.bQ aOk.out BR.out (by decide)) (fun _ hk => hk.2) (.int .i64 a1)) (fun _ hk => hk.2) (.int .i64 aT)) (fun _ hk => hk.2) (.slice aCL WX.length aAT)) (fun _ hk => trivial), dD HB ZE aKB⟩
  ·rw [if_neg c5] at H
   exact absurd H (by simp)
 ·rw [if_neg c4] at H
  exact absurd H (by simp)
end Go.Proofs.Yteofcbkjhdadpaa.Pr
