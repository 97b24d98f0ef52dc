import Derived.Test.YteofcbkjhdadpaaCBuildAnyx0
import Derived.Test.YteofcbkjhdadpaaCBuildAnyx2
import Derived.Test.YteofcbkjhdadpaaCBuildAnyx3
set_option maxHeartbeats 8000000
set_option maxRecDepth 100000
set_option linter.unusedSimpArgs false
set_option linter.unusedVariables false
namespace Go.Proofs.Yteofcbkjhdadpaa.Pr
open Go.RowKit Go.Proofs.aD.aT Go.Proofs.aD.cY Go.Proofs.aD.eR
attribute [local go_sem] gP gM iU iT fF fE gN gL   -- for this text's walks alone
mutual
def aH.l0 : Nat → List Int → Int → Int → Int → List Int → Option (Int × Int × List Int × Int)
 | 0, _, _, _, _, _ => none
 | k + 1, x1, x6, tH, tG, wZ => if x6 < (x1.length : Int) then (if 0 ≤ x6 then (if (rd x1 x6) < 0 then (some (0, 0, ([] : List Int), 2)) else (if (rd x1 x6) ≥ tH then (some (0, 0, ([] : List Int), 2)) else (aH.l0 k x1 (wrap64 (x6 + 1)) tH tG wZ))) else (none)) else (if (x1.length : Int) > 64 then (some (0, 0, ([] : List Int), 4)) else (aH.l1 k x1 0 tH tG wZ (x1.length : Int) tG ([] : List Int)))
def aH.l1 : Nat → List Int → Int → Int → Int → List Int → Int → Int → List Int → Option (Int × Int × List Int × Int)
 | 0, _, _, _, _, _, _, _, _ => none
 | k + 1, x1, x8, tH, tG, wZ, MS, MR, G7 => if x8 < (x1.length : Int) then (if 0 ≤ x8 then ((b9.f k tH tG wZ (rd x1 x8)).bind fun KB => (if G7.length + KB.1.length < 140737488355328 then (aH.l1 k x1 (wrap64 (x8 + 1)) tH tG wZ MS MR (G7 ++ KB.1)) else (none))) else (none)) else (some (MS, MR, G7, 0))
end
def aH.f (k : Nat) (bL : Int) (bI : Int) (bJ : List Int) (l1 : List Int) : Option (Int × Int × List Int × Int) := (bU.f bL bI bJ).bind fun OP => (if OP = true then (aH.l0 k l1 0 bL bI bJ) else (some (0, 0, ([] : List Int), 3)))
def aH.T6 : Bool × List (List Nat × List Nat) := (true, [([], []), ([], []), ([0, 1], [0, 1]), ([2], [2]), ([3], [3]), ([4], [4]), ([5], [5]), ([5], [5]), ([6, 7, 5], [5, 6, 7]), ([8, 5], [5, 8]), ([5], [5]), ([10, 5], [5, 10]), ([9, 11, 5], [5, 9, 11]), ([5, 12], [5, 12])])
def aH.B6 : List Nat := [0, 0, 3, 7, 15, 31, 63, 63, 255, 511, 63, 1087, 4095, 8191]
theorem aH.a0E : oB .any (opsOf Try.f22 6) = aH.T6 := by kernel_rfl
theorem aH.UK : pG aH.T6.2 aH.B6 = true := by kernel_rfl
def aH.T14 : Bool × List (List Nat × List Nat) := (true, [([], []), ([], []), ([], []), ([1, 2], [1, 2]), ([3], [3]), ([0, 4], [0, 4]), ([5], [5]), ([6], [6]), ([6], [6]), ([7, 5, 0, 1, 2, 3, 4, 5, 6, 7], [7]), ([8, 9, 0, 1, 2, 3, 4, 5, 6, 7, 8, 9], [8])])
def aH.B14 : List Nat := [0, 0, 0, 6, 14, 31, 63, 127, 127, 255, 1023]
theorem aH.a1X : oB .any (opsOf Try.f22 14) = aH.T14 := by kernel_rfl
theorem aH.a1r : pG aH.T14.2 aH.B14 = true := by kernel_rfl
theorem aH.calls (k : Nat) (bL : Int) (bI : Int) (dK : Option Addr) (dI : Nat) (bJ : List Int) (A1 : Option Addr) (c1 : Nat) (l1 : List Int) (r1 : Int) (r2 : Int) (r3 : List Int) (r4 : Int) (w : World) (hr0_2 : Kd.C (Kd.int .u8) w dK bJ.length bJ) (hc0_2 : bJ.length ≤ dI) (hr1 : Kd.C (Kd.int .i64) w A1 l1.length l1) (hc1 : l1.length ≤ c1) (h : aH.f k bL bI bJ l1 = some (r1, r2, r3, r4)) :
  Calls Try.prog 22 #[.agg #[.int .i64 bL, .int .i64 bI, .slice dK bJ.length dI], .slice A1 l1.length c1] w fun e w' => ∃ qE : Value, e = .returned (.tuple #[.agg #[.int .i64 r1, .int .i64 r2, qE], .int .i64 r4]) ∧ Kd.R (Kd.int .u8) 5 w' w.heap.size (fun _ => True) qE r3 ∧ Below w.heap.size w w' := by
 have wF := Try.underlying24;have pP := a6.mk hr0_2;have qX := a6.mk hc0_2;clear hr0_2 hc0_2;have lY := a6.mk hr1;have HC1 := a6.mk hc1;clear hr1 hc1;have HB := a6.mk (Below.refl w.heap.size w);have H : ((bU.f bL bI bJ).bind fun OP => (if OP = true then (aH.l0 k l1 0 bL bI bJ) else (some (0, 0, ([] : List Int), 3)))) = some (r1, r2, r3, r4) := h;clear h;replace H := Option.bind_eq_some_iff.mp H;obtain ⟨OP, E8, H⟩ := H;replace H : (if OP = true then (aH.l0 k l1 0 bL bI bJ) else (some (0, 0, ([] : List Int), 3))) = some (r1, r2, r3, r4) := H;have A3 := a6.mk E8;clear E8
 by_cases c4 : OP = true
 ·subst c4
  have H1 : (aH.l0 k l1 0 bL bI bJ) = some (r1, r2, r3, r4) := by rw [if_pos rfl] at H; exact H
  clear H;have H := H1;clear H1;have H' := a6.mk H;clear H;go_enter Try.func22, Try.ntmps22;go_wp2_with (first | ((with_reducible refine bE (N := 2) rfl ?_); refine bA ?hg (N := 2) ?hd (cs := #[.int .i64 bL, .int .i64 bI, .slice dK bJ.length dI]) (t := 24) ?hr ?_; (case hd => rfl); (case hg => rfl); (case hr => first | (go_simp; done) | (go_simp; rfl)); intro hH hg w5 hbox hb; have cJ := a6.mk (hbox); have a3I := a6.mk ((by rw [hg]; exact (aG (bV HB)) : w.heap.size ≤ hH)); have jM := a6.mk ((by rw [hg]; exact (aG (bV HB)) : w.heap.size ≤ hH)); replace HB := a6.mk (aK (bV HB) hb); clear hb hbox hg) | ((with_reducible refine bE (N := 4) rfl ?_); refine bA ?hg (N := 4) ?hd (cs := #[.int .i64 0, .int .i64 0, .slice none 0 0]) (t := 24) ?hr ?_; (case hd => rfl); (case hg => rfl); (case hr => first | (go_simp; done) | (go_simp; rfl)); intro fR hg w6 hbox hb; have cL := a6.mk (hbox); have a3H := a6.mk ((by rw [hg]; exact (aG (bZ HB jM)) : w.heap.size ≤ fR)); have mF := a6.mk ((by rw [hg]; exact (aG (bZ HB jM)) : w.heap.size ≤ fR)); replace HB := a6.mk (aK (bZ HB jM) hb); have lX := a6.mk ((by rw [hg]; exact Nat.ne_of_lt (bH (cP cJ)) : hH ≠ fR)); have lW := a6.mk ((by rw [hg]; exact Nat.ne_of_gt (bH (cP cJ)) : fR ≠ hH)); replace cJ := a6.mk (aJ (cP cJ) hb); clear hb hbox hg; have a7G := lX.out; have a7E := lW.out; have D5 : w6.cell? ⟨hH, 0, none⟩ = some (.int .i64 bL) := (aE cJ.out 0).trans rfl; have D4 : w6.cell? ⟨hH, 1, none⟩ = some (.int .i64 bI) := (aE cJ.out 1).trans rfl; have D3 : w6.cell? ⟨hH, 2, none⟩ = some (.slice dK bJ.length dI) := (aE cJ.out 2).trans rfl; have CX := aA cJ.out 0; have CW := aA cJ.out 1; have CV := aA cJ.out 2) | ((with_reducible refine aZ (f := 17) rfl ?_); refine cM (some 12) rfl rfl Try.func17 (by kernel_rfl) rfl #[.agg #[.int .i64 bL, .int .i64 bI, .slice dK bJ.length dI]] rfl nV ?_; (with_reducible refine (bU.calls bL bI _ _ bJ true _ ?side1 ?side2 A3.out).mono ?_); (case side1 => repeat (first | exact (Kd.jY pP.out HB.out) | (with_reducible refine Kd.eE ?_ _) | (with_reducible refine Kd.eD ?_ _) | (with_reducible refine Kd.fW ?_))); (case side2 => exact qX.out); rintro e w9 ⟨rfl, hb⟩; refine ⟨_, rfl, ?_⟩; replace cJ := a6.mk (aJ (cP cJ) hb); replace cL := a6.mk (aJ (cP cL) hb); replace HB := a6.mk (aK (eN HB jM mF) hb); (try clear hb); (try clear hb2); (try clear hk); (try clear hi)))
  go_loopg [6] k (fun kq v6 w' => ∃ (fS : Int) (iC : Int) (fC : Int), v6 = .int .i64 fS ∧ a6 (aH.l0 kq l1 fS bL bI bJ = some (r1, r2, r3, r4)) ∧ a6 (kq ≤ k) ∧ a6 (w'.heap[hH]? = some (.cells #[.int .i64 bL, .int .i64 bI, (.slice dK bJ.length dI)] 24 (0, 0))) ∧ a6 (w'.heap[fR]? = some (.cells #[.int .i64 iC, .int .i64 fC, (.slice none 0 0)] 24 (0, 0))) ∧ a6 (Below w.heap.size w w'))
  case atStart => exact ⟨(0), (0), (0), vH, H', ⟨Nat.le_refl _⟩, ⟨vP cJ.out⟩, ⟨vP cL.out⟩, ⟨eN HB jM mF⟩⟩
  case round =>
   clear H';(try clear c1);(try clear c2);(try clear p2);(try clear c4);(try clear c7);(try clear D5);(try clear D4);(try clear D3);(try clear CX);(try clear CW);(try clear CV);obtain ⟨fS, iC, fC, rfl, HA, E7, cJ, cL, HB⟩ := hrel
   cases gk with
   | zero => exact absurd HA.out (by simp [aH.l0])
   | succ k1 =>
    have H := HA.out;clear HA;simp only [aH.l0] at H
    by_cases wS : fS < (l1.length : Int)
    ·rw [if_pos wS] at H
     have AT : decide (fS < (l1.length : Int)) = true := decide_eq_true wS;clear wS
     by_cases IW : 0 ≤ fS
     ·rw [if_pos IW] at H
      have O3 : decide (0 ≤ fS) = true := decide_eq_true IW;clear IW
      by_cases vL : (rd l1 fS) < 0
      ·rw [if_pos vL] at H
       have yH : decide ((rd l1 fS) < 0) = true := decide_eq_true vL;clear vL;simp only [Option.some.injEq, Prod.mk.injEq] at H;obtain ⟨rfl, rfl, rfl, rfl⟩ := H
       try go_wp2
       replace cJ := a6.mk (aC cJ.out);replace cL := a6.mk (aC cL.out);replace HB := a6.mk (eC HB.out);have B5 : 0 ≤ (fS : Int) := of_decide_eq_true qZ;have q506 : fS < (l1.length : Int) := of_decide_eq_true qZ;obtain ⟨ad506, e506, hx506_0⟩ := Kd.oZ lY.out fS B5 q506;have pK := hx506_0
       cases e506
       replace hx506_0 := (HB.out.cell (World.block_lt_of_cell? w _ hx506_0)).trans hx506_0;replace B5 := eq_true B5;replace q506 := eq_true q506;refine z8 (n := 14) (S := fun w' => w'.cell? (ad506.add (fS).toNat) = some (.int .i64 (rd l1 fS))) (ds := []) #[false, false, false, false, false, false, false, false, false, false, false, false, false, false] (by kernel_rfl) rfl rfl (((HB.out.cell (World.block_lt_of_cell? w _ pK)).trans pK)) (fun hHeld => ?_); refine oF aH.a0E aH.UK (fun HT_ HW_ => ?_);generalize wr.drew = w13 at cJ cL HB hx506_0 hHeld ⊢;refine cH (i := 0) (N := some 21) (v := ?_) (a' := ?_) #[true, false, false, false, false, false, false, false, false, false, false, false, false, false] rfl rfl (bR HT_.out (by kernel_rfl)) (fun _ _ _ h => h) (Or.inl ⟨by rfl, ?_⟩) ?_ ?_;rotate_left
       ·intro w'
        go_simp;(with_reducible rfl)
       rotate_left
       ·simp only [Act.put, cS, cQ, cU, bN, bS]
        rfl
       refine cH (i := 1) (N := some 22) (v := ?_) (a' := ?_) #[true, true, false, false, false, false, false, false, false, false, false, false, false, false] rfl rfl (bR HT_.out (by kernel_rfl)) (fun _ _ _ h => h) (Or.inl ⟨by rfl, ?_⟩) ?_ ?_;rotate_left
       ·intro w'
        go_simp;(with_reducible rfl)
       rotate_left
       ·simp only [Act.put, cS, cQ, cU, bN, bS]
        rfl
       refine cH (i := 2) (N := some 23) (v := ?_) (a' := ?_) #[true, true, true, false, false, false, false, false, false, false, false, false, false, false] rfl rfl (bR HT_.out (by kernel_rfl)) (fun _ _ _ h => h) (Or.inl ⟨by rfl, ?_⟩) ?_ ?_;rotate_left
       ·intro w'
        go_simp;(with_reducible rfl)
       rotate_left
       ·simp only [Act.put, cS, cQ, cU, bN, bS]
        rfl
       refine oL (i := 3) (N := some 24) (v := ?_) (a' := ?_) #[true, true, true, true, false, false, false, false, false, false, false, false, false, false] rfl rfl (iV HT_.out HW_.out (by kernel_rfl)) (fun _ _ _ h => h) (Or.inl ⟨by rfl, ?_⟩) hHeld ?_ ?_;rotate_left
       ·intro w' s0
        go_simp;(with_reducible rfl)
       rotate_left
       ·simp only [Act.put, cS, cQ, cU, bN, bS]
        rfl
       refine cH (i := 4) (N := some 25) (v := ?_) (a' := ?_) #[true, true, true, true, true, false, false, false, false, false, false, false, false, false] rfl rfl (bR HT_.out (by kernel_rfl)) (fun _ _ _ h => h) (Or.inl ⟨by rfl, ?_⟩) ?_ ?_;rotate_left
       ·intro w'
        go_simp;(with_reducible rfl)
       rotate_left
       ·simp only [Act.put, cS, cQ, cU, bN, bS]
        rfl
       refine cH (i := 5) (N := some 26) (v := ?_) (a' := ?_) #[true, true, true, true, true, true, false, false, false, false, false, false, false, false] rfl rfl (bR HT_.out (by kernel_rfl)) (fun _ _ _ h => h) (Or.inl ⟨by rfl, ?_⟩) ?_ ?_;rotate_left
       ·intro w'
        go_simp;(with_reducible rfl)
       rotate_left
       ·simp only [Act.put, cS, cQ, cU, bN, bS]
        rfl
       refine cH (i := 6) (N := some 27) (v := undef) (a' := ?_) #[true, true, true, true, true, true, true, false, false, false, false, false, false, false] rfl rfl (bR HT_.out (by kernel_rfl)) (fun _ _ _ h => h) (Or.inr ⟨by rfl, rfl⟩) ?_ ?_;rotate_left
       ·simp only [Act.put, cS, cQ, cU, bN, bS]
        rfl
       refine cH (i := 7) (N := some 28) (v := undef) (a' := ?_) #[true, true, true, true, true, true, true, true, false, false, false, false, false, false] rfl rfl (bR HT_.out (by kernel_rfl)) (fun _ _ _ h => h) (Or.inr ⟨by rfl, rfl⟩) ?_ ?_;rotate_left
       ·simp only [Act.put, cS, cQ, cU, bN, bS]
        rfl
       refine cH (i := 8) (N := some 29) (v := undef) (a' := ?_) #[true, true, true, true, true, true, true, true, true, false, false, false, false, false] rfl rfl (bR HT_.out (by kernel_rfl)) (fun _ _ _ h => h) (Or.inr ⟨by rfl, rfl⟩) ?_ ?_;rotate_left
       ·simp only [Act.put, cS, cQ, cU, bN, bS]
        rfl
       refine cH (i := 9) (N := some 30) (v := undef) (a' := ?_) #[true, true, true, true, true, true, true, true, true, true, false, false, false, false] rfl rfl (bR HT_.out (by kernel_rfl)) (fun _ _ _ h => h) (Or.inr ⟨by rfl, rfl⟩) ?_ ?_;rotate_left
       ·simp only [Act.put, cS, cQ, cU, bN, bS]
        rfl
       refine cH (i := 10) (N := some 31) (v := undef) (a' := ?_) #[true, true, true, true, true, true, true, true, true, true, true, false, false, false] rfl rfl (bR HT_.out (by kernel_rfl)) (fun _ _ _ h => h) (Or.inr ⟨by rfl, rfl⟩) ?_ ?_;rotate_left
       ·simp only [Act.put, cS, cQ, cU, bN, bS]
        rfl
       refine cH (i := 11) (N := some 32) (v := undef) (a' := ?_) #[true, true, true, true, true, true, true, true, true, true, true, true, false, false] rfl rfl (bR HT_.out (by kernel_rfl)) (fun _ _ _ h => h) (Or.inr ⟨by rfl, rfl⟩) ?_ ?_;rotate_left
       ·simp only [Act.put, cS, cQ, cU, bN, bS]
        rfl
       refine cH (i := 12) (N := some 33) (v := undef) (a' := ?_) #[true, true, true, true, true, true, true, true, true, true, true, true, true, false] rfl rfl (bR HT_.out (by kernel_rfl)) (fun _ _ _ h => h) (Or.inr ⟨by rfl, rfl⟩) ?_ ?_;rotate_left
       ·simp only [Act.put, cS, cQ, cU, bN, bS]
        rfl
       refine cH (i := 13) (N := some 34) (v := ?_) (a' := ?_) #[true, true, true, true, true, true, true, true, true, true, true, true, true, true] rfl rfl (bR HT_.out (by kernel_rfl)) (fun _ _ _ h => h) (Or.inl ⟨by rfl, ?_⟩) ?_ ?_;rotate_left
       ·intro w'
        go_simp;(with_reducible rfl)
       rotate_left
       ·simp only [Act.put, cS, cQ, cU, bN, bS]
        rfl
       refine FU (uG HT_.out (by kernel_rfl)) ?_;have a9v := lW.out;have a8S := lX.out;have uB : w13.cell? ⟨fR, 0, none⟩ = some (.int .i64 iC) := (aE cL.out 0).trans rfl;have uA : w13.cell? ⟨fR, 1, none⟩ = some (.int .i64 fC) := (aE cL.out 1).trans rfl;have u9 : w13.cell? ⟨fR, 2, none⟩ = some (.slice none 0 0) := (aE cL.out 2).trans rfl;have tZ := aA cL.out 0;have tY := aA cL.out 1;have tX := aA cL.out 2
       try go_wp2
       refine bodyPost_ret (cN rfl _ _ fR 24 #[.int .i64 0, .int .i64 0, .slice none 0 0] (0, 0) _ rfl (by (with_reducible repeat first | apply a7 | apply aC | apply a8); refine aN (cs := #[.int .i64 0, .int .i64 0, .slice none 0 0]) ?_ 2 _ rfl; (with_reducible repeat first | apply a7 | apply aC | apply a8); refine aN (cs := #[.int .i64 0, .int .i64 fC, .slice none 0 0]) ?_ 1 _ rfl; (with_reducible repeat first | apply a7 | apply aC | apply a8); refine aN (cs := #[.int .i64 iC, .int .i64 fC, .slice none 0 0]) ?_ 0 _ rfl; (with_reducible repeat first | apply a7 | apply aC | apply a8); exact cL.out) Try.underlying24 rfl (by kernel_rfl)) rfl ?_;exact ⟨_, qN, EN, eN HB jM mF⟩
      ·rw [if_neg vL] at H
       have yH : decide ((rd l1 fS) < 0) = false := decide_eq_false vL;clear vL
       by_cases DM : (rd l1 fS) ≥ bL
       ·rw [if_pos DM] at H
        have qR : decide (bL ≤ (rd l1 fS)) = true := decide_eq_true DM;clear DM;simp only [Option.some.injEq, Prod.mk.injEq] at H;obtain ⟨rfl, rfl, rfl, rfl⟩ := H
        try go_wp2
        replace cJ := a6.mk (aC cJ.out);replace cL := a6.mk (aC cL.out);replace HB := a6.mk (eC HB.out);have B5 : 0 ≤ (fS : Int) := of_decide_eq_true qZ;have q506 : fS < (l1.length : Int) := of_decide_eq_true qZ;obtain ⟨ad506, e506, hx506_0⟩ := Kd.oZ lY.out fS B5 q506;have pK := hx506_0
        cases e506
        replace hx506_0 := (HB.out.cell (World.block_lt_of_cell? w _ hx506_0)).trans hx506_0;replace B5 := eq_true B5;replace q506 := eq_true q506;have JL : 0 ≤ (fS : Int) := of_decide_eq_true qZ;have q507 : fS < (l1.length : Int) := of_decide_eq_true qZ;obtain ⟨ad507, e507, hx507_0⟩ := Kd.oZ lY.out fS JL q507;have xZ := hx507_0;obtain rfl : ad506 = ad507 := (by injection e507)
        replace hx507_0 := (HB.out.cell (World.block_lt_of_cell? w _ hx507_0)).trans hx507_0;replace JL := eq_true JL;replace q507 := eq_true q507;refine z8 (n := 14) (S := fun w' => w'.cell? ⟨hH, 0, none⟩ = some (.int .i64 bL) ∧ w'.cell? ⟨hH, 1, none⟩ = some (.int .i64 bI) ∧ w'.cell? ⟨hH, 2, none⟩ = some (.slice dK bJ.length dI) ∧ w'.cell? (ad506.add (fS).toNat) = some (.int .i64 (rd l1 fS)) ∧ w'.cell? (ad506.add (fS).toNat) = some (.int .i64 (rd l1 fS))) (ds := []) #[false, false, false, false, false, false, false, false, false, false, false, false, false, false] (by kernel_rfl) rfl rfl ⟨(aE cJ.out 0).trans rfl, (aE cJ.out 1).trans rfl, (aE cJ.out 2).trans rfl, ((HB.out.cell (World.block_lt_of_cell? w _ pK)).trans pK), ((HB.out.cell (World.block_lt_of_cell? w _ xZ)).trans xZ)⟩ (fun hHeld => ?_); refine oF aH.a0E aH.UK (fun HT_ HW_ => ?_);generalize wr.drew = w17 at cJ cL HB hx506_0 hx507_0 hHeld ⊢;refine cH (i := 0) (N := some 21) (v := ?_) (a' := ?_) #[true, false, false, false, false, false, false, false, false, false, false, false, false, false] rfl rfl (bR HT_.out (by kernel_rfl)) (fun _ _ _ h => h) (Or.inl ⟨by rfl, ?_⟩) ?_ ?_;rotate_left
        ·intro w'
         go_simp;(with_reducible rfl)
        rotate_left
        ·simp only [Act.put, cS, cQ, cU, bN, bS]
         rfl
        refine cH (i := 1) (N := some 22) (v := ?_) (a' := ?_) #[true, true, false, false, false, false, false, false, false, false, false, false, false, false] rfl rfl (bR HT_.out (by kernel_rfl)) (fun _ _ _ h => h) (Or.inl ⟨by rfl, ?_⟩) ?_ ?_;rotate_left
        ·intro w'
         go_simp;(with_reducible rfl)
        rotate_left
        ·simp only [Act.put, cS, cQ, cU, bN, bS]
         rfl
        refine cH (i := 2) (N := some 23) (v := ?_) (a' := ?_) #[true, true, true, false, false, false, false, false, false, false, false, false, false, false] rfl rfl (bR HT_.out (by kernel_rfl)) (fun _ _ _ h => h) (Or.inl ⟨by rfl, ?_⟩) ?_ ?_;rotate_left
        ·intro w'
         go_simp;(with_reducible rfl)
        rotate_left
        ·simp only [Act.put, cS, cQ, cU, bN, bS]
         rfl
        refine oL (i := 3) (N := some 24) (v := ?_) (a' := ?_) #[true, true, true, true, false, false, false, false, false, false, false, false, false, false] rfl rfl (iV HT_.out HW_.out (by kernel_rfl)) (fun _ _ _ h => h) (Or.inl ⟨by rfl, ?_⟩) hHeld ?_ ?_;rotate_left
        ·rintro w' ⟨s0, s1, s2, s3, s4⟩
         go_simp;(with_reducible rfl)
        rotate_left
        ·simp only [Act.put, cS, cQ, cU, bN, bS]
         rfl
        refine cH (i := 4) (N := some 25) (v := ?_) (a' := ?_) #[true, true, true, true, true, false, false, false, false, false, false, false, false, false] rfl rfl (bR HT_.out (by kernel_rfl)) (fun _ _ _ h => h) (Or.inl ⟨by rfl, ?_⟩) ?_ ?_;rotate_left
        ·intro w'
         go_simp;(with_reducible rfl)
        rotate_left
        ·simp only [Act.put, cS, cQ, cU, bN, bS]
         rfl
        refine cH (i := 5) (N := some 26) (v := ?_) (a' := ?_) #[true, true, true, true, true, true, false, false, false, false, false, false, false, false] rfl rfl (bR HT_.out (by kernel_rfl)) (fun _ _ _ h => h) (Or.inl ⟨by rfl, ?_⟩) ?_ ?_;rotate_left
        ·intro w'
         go_simp;(with_reducible rfl)
        rotate_left
        ·simp only [Act.put, cS, cQ, cU, bN, bS]
         rfl
        refine cH (i := 6) (N := some 27) (v := ?_) (a' := ?_) #[true, true, true, true, true, true, true, false, false, false, false, false, false, false] rfl rfl (bR HT_.out (by kernel_rfl)) (fun _ _ _ h => h) (Or.inl ⟨by rfl, ?_⟩) ?_ ?_;rotate_left
        ·intro w'
         go_simp;(with_reducible rfl)
        rotate_left
        ·simp only [Act.put, cS, cQ, cU, bN, bS]
         rfl
        refine cH (i := 7) (N := some 28) (v := ?_) (a' := ?_) #[true, true, true, true, true, true, true, true, false, false, false, false, false, false] rfl rfl (bR HT_.out (by kernel_rfl)) (fun _ _ _ h => h) (Or.inl ⟨by rfl, ?_⟩) ?_ ?_;rotate_left
        ·intro w'
         go_simp;(with_reducible rfl)
        rotate_left
        ·simp only [Act.put, cS, cQ, cU, bN, bS]
         rfl
        refine cH (i := 8) (N := some 29) (v := ?_) (a' := ?_) #[true, true, true, true, true, true, true, true, true, false, false, false, false, false] rfl rfl (bR HT_.out (by kernel_rfl)) (fun _ _ _ h => h) (Or.inl ⟨by rfl, ?_⟩) ?_ ?_;rotate_left
        ·intro w'
         go_simp;(with_reducible rfl)
        rotate_left
        ·simp only [Act.put, cS, cQ, cU, bN, bS]
         rfl
        refine cH (i := 10) (N := some 31) (v := ?_) (a' := ?_) #[true, true, true, true, true, true, true, true, true, false, true, false, false, false] rfl rfl (bR HT_.out (by kernel_rfl)) (fun _ _ _ h => h) (Or.inl ⟨by rfl, ?_⟩) ?_ ?_;rotate_left
        ·intro w'
         go_simp;(with_reducible rfl)
        rotate_left
        ·simp only [Act.put, cS, cQ, cU, bN, bS]
         rfl
        refine oL (i := 9) (N := some 30) (v := ?_) (a' := ?_) #[true, true, true, true, true, true, true, true, true, true, true, false, false, false] rfl rfl (iV HT_.out HW_.out (by kernel_rfl)) (fun _ _ _ h => h) (Or.inl ⟨by rfl, ?_⟩) hHeld ?_ ?_;rotate_left
        ·rintro w' ⟨s0, s1, s2, s3, s4⟩
         go_simp;(with_reducible rfl)
        rotate_left
        ·simp only [Act.put, cS, cQ, cU, bN, bS]
         rfl
        refine oL (i := 11) (N := some 32) (v := ?_) (a' := ?_) #[true, true, true, true, true, true, true, true, true, true, true, true, false, false] rfl rfl (iV HT_.out HW_.out (by kernel_rfl)) (fun _ _ _ h => h) (Or.inl ⟨by rfl, ?_⟩) hHeld ?_ ?_;rotate_left
        ·rintro w' ⟨s0, s1, s2, s3, s4⟩
         go_simp;(with_reducible rfl)
        rotate_left
        ·simp only [Act.put, cS, cQ, cU, bN, bS]
         rfl
        refine cH (i := 12) (N := some 33) (v := ?_) (a' := ?_) #[true, true, true, true, true, true, true, true, true, true, true, true, true, false] rfl rfl (bR HT_.out (by kernel_rfl)) (fun _ _ _ h => h) (Or.inl ⟨by rfl, ?_⟩) ?_ ?_;rotate_left
        ·intro w'
         go_simp;(with_reducible rfl)
        rotate_left
        ·simp only [Act.put, cS, cQ, cU, bN, bS]
         rfl
        refine cH (i := 13) (N := some 34) (v := ?_) (a' := ?_) #[true, true, true, true, true, true, true, true, true, true, true, true, true, true] rfl rfl (bR HT_.out (by kernel_rfl)) (fun _ _ _ h => h) (Or.inl ⟨by rfl, ?_⟩) ?_ ?_;rotate_left
        ·intro w'
         go_simp;(with_reducible rfl)
        rotate_left
        ·simp only [Act.put, cS, cQ, cU, bN, bS]
         rfl
        refine FU (uG HT_.out (by kernel_rfl)) ?_;have ZN := lW.out;have ZL := lX.out;have IK : w17.cell? ⟨fR, 0, none⟩ = some (.int .i64 iC) := (aE cL.out 0).trans rfl;have IJ : w17.cell? ⟨fR, 1, none⟩ = some (.int .i64 fC) := (aE cL.out 1).trans rfl;have II : w17.cell? ⟨fR, 2, none⟩ = some (.slice none 0 0) := (aE cL.out 2).trans rfl;have IB := aA cL.out 0;have IA := aA cL.out 1;have I9 := aA cL.out 2
        try go_wp2
        refine bodyPost_ret (cN rfl _ _ fR 24 #[.int .i64 0, .int .i64 0, .slice none 0 0] (0, 0) _ rfl (by (with_reducible repeat first | apply a7 | apply aC | apply a8); refine aN (cs := #[.int .i64 0, .int .i64 0, .slice none 0 0]) ?_ 2 _ rfl; (with_reducible repeat first | apply a7 | apply aC | apply a8); refine aN (cs := #[.int .i64 0, .int .i64 fC, .slice none 0 0]) ?_ 1 _ rfl; (with_reducible repeat first | apply a7 | apply aC | apply a8); refine aN (cs := #[.int .i64 iC, .int .i64 fC, .slice none 0 0]) ?_ 0 _ rfl; (with_reducible repeat first | apply a7 | apply aC | apply a8); exact cL.out) Try.underlying24 rfl (by kernel_rfl)) rfl ?_;exact ⟨_, qN, EN, eN HB jM mF⟩
       ·rw [if_neg DM] at H
        have qR : decide (bL ≤ (rd l1 fS)) = false := decide_eq_false DM;clear DM;have H' := a6.mk H;clear H
        try go_wp2
        replace cJ := a6.mk (aC cJ.out);replace cL := a6.mk (aC cL.out);replace HB := a6.mk (eC HB.out);have B5 : 0 ≤ (fS : Int) := of_decide_eq_true qZ;have q506 : fS < (l1.length : Int) := of_decide_eq_true qZ;obtain ⟨ad506, e506, hx506_0⟩ := Kd.oZ lY.out fS B5 q506;have pK := hx506_0
        cases e506
        replace hx506_0 := (HB.out.cell (World.block_lt_of_cell? w _ hx506_0)).trans hx506_0;replace B5 := eq_true B5;replace q506 := eq_true q506;have JL : 0 ≤ (fS : Int) := of_decide_eq_true qZ;have q507 : fS < (l1.length : Int) := of_decide_eq_true qZ;obtain ⟨ad507, e507, hx507_0⟩ := Kd.oZ lY.out fS JL q507;have xZ := hx507_0;obtain rfl : ad506 = ad507 := (by injection e507)
        replace hx507_0 := (HB.out.cell (World.block_lt_of_cell? w _ hx507_0)).trans hx507_0;replace JL := eq_true JL;replace q507 := eq_true q507;refine z8 (n := 14) (S := fun w' => w'.cell? ⟨hH, 0, none⟩ = some (.int .i64 bL) ∧ w'.cell? ⟨hH, 1, none⟩ = some (.int .i64 bI) ∧ w'.cell? ⟨hH, 2, none⟩ = some (.slice dK bJ.length dI) ∧ w'.cell? (ad506.add (fS).toNat) = some (.int .i64 (rd l1 fS)) ∧ w'.cell? (ad506.add (fS).toNat) = some (.int .i64 (rd l1 fS))) (ds := []) #[false, false, false, false, false, false, false, false, false, false, false, false, false, false] (by kernel_rfl) rfl rfl ⟨(aE cJ.out 0).trans rfl, (aE cJ.out 1).trans rfl, (aE cJ.out 2).trans rfl, ((HB.out.cell (World.block_lt_of_cell? w _ pK)).trans pK), ((HB.out.cell (World.block_lt_of_cell? w _ xZ)).trans xZ)⟩ (fun hHeld => ?_); refine oF aH.a0E aH.UK (fun HT_ HW_ => ?_);generalize wr.drew = w20 at cJ cL HB hx506_0 hx507_0 hHeld ⊢;refine cH (i := 0) (N := some 21) (v := ?_) (a' := ?_) #[true, false, false, false, false, false, false, false, false, false, false, false, false, false] rfl rfl (bR HT_.out (by kernel_rfl)) (fun _ _ _ h => h) (Or.inl ⟨by rfl, ?_⟩) ?_ ?_;rotate_left
        ·intro w'
         go_simp;(with_reducible rfl)
        rotate_left
        ·simp only [Act.put, cS, cQ, cU, bN, bS]
         rfl
        refine cH (i := 1) (N := some 22) (v := ?_) (a' := ?_) #[true, true, false, false, false, false, false, false, false, false, false, false, false, false] rfl rfl (bR HT_.out (by kernel_rfl)) (fun _ _ _ h => h) (Or.inl ⟨by rfl, ?_⟩) ?_ ?_;rotate_left
        ·intro w'
         go_simp;(with_reducible rfl)
        rotate_left
        ·simp only [Act.put, cS, cQ, cU, bN, bS]
         rfl
        refine cH (i := 2) (N := some 23) (v := ?_) (a' := ?_) #[true, true, true, false, false, false, false, false, false, false, false, false, false, false] rfl rfl (bR HT_.out (by kernel_rfl)) (fun _ _ _ h => h) (Or.inl ⟨by rfl, ?_⟩) ?_ ?_;rotate_left
        ·intro w'
         go_simp;(with_reducible rfl)
        rotate_left
        ·simp only [Act.put, cS, cQ, cU, bN, bS]
         rfl
        refine oL (i := 3) (N := some 24) (v := ?_) (a' := ?_) #[true, true, true, true, false, false, false, false, false, false, false, false, false, false] rfl rfl (iV HT_.out HW_.out (by kernel_rfl)) (fun _ _ _ h => h) (Or.inl ⟨by rfl, ?_⟩) hHeld ?_ ?_;rotate_left
        ·rintro w' ⟨s0, s1, s2, s3, s4⟩
         go_simp;(with_reducible rfl)
        rotate_left
        ·simp only [Act.put, cS, cQ, cU, bN, bS]
         rfl
        refine cH (i := 4) (N := some 25) (v := ?_) (a' := ?_) #[true, true, true, true, true, false, false, false, false, false, false, false, false, false] rfl rfl (bR HT_.out (by kernel_rfl)) (fun _ _ _ h => h) (Or.inl ⟨by rfl, ?_⟩) ?_ ?_;rotate_left
        ·intro w'
         go_simp;(with_reducible rfl)
        rotate_left
        ·simp only [Act.put, cS, cQ, cU, bN, bS]
         rfl
        refine cH (i := 5) (N := some 26) (v := ?_) (a' := ?_) #[true, true, true, true, true, true, false, false, false, false, false, false, false, false] rfl rfl (bR HT_.out (by kernel_rfl)) (fun _ _ _ h => h) (Or.inl ⟨by rfl, ?_⟩) ?_ ?_;rotate_left
        ·intro w'
         go_simp;(with_reducible rfl)
        rotate_left
        ·simp only [Act.put, cS, cQ, cU, bN, bS]
         rfl
        refine cH (i := 6) (N := some 27) (v := ?_) (a' := ?_) #[true, true, true, true, true, true, true, false, false, false, false, false, false, false] rfl rfl (bR HT_.out (by kernel_rfl)) (fun _ _ _ h => h) (Or.inl ⟨by rfl, ?_⟩) ?_ ?_;rotate_left
        ·intro w'
         go_simp;(with_reducible rfl)
        rotate_left
        ·simp only [Act.put, cS, cQ, cU, bN, bS]
         rfl
        refine cH (i := 7) (N := some 28) (v := ?_) (a' := ?_) #[true, true, true, true, true, true, true, true, false, false, false, false, false, false] rfl rfl (bR HT_.out (by kernel_rfl)) (fun _ _ _ h => h) (Or.inl ⟨by rfl, ?_⟩) ?_ ?_;rotate_left
        ·intro w'
         go_simp;(with_reducible rfl)
        rotate_left
        ·simp only [Act.put, cS, cQ, cU, bN, bS]
         rfl
        refine cH (i := 8) (N := some 29) (v := ?_) (a' := ?_) #[true, true, true, true, true, true, true, true, true, false, false, false, false, false] rfl rfl (bR HT_.out (by kernel_rfl)) (fun _ _ _ h => h) (Or.inl ⟨by rfl, ?_⟩) ?_ ?_;rotate_left
        ·intro w'
         go_simp;(with_reducible rfl)
        rotate_left
        ·simp only [Act.put, cS, cQ, cU, bN, bS]
         rfl
        refine cH (i := 10) (N := some 31) (v := ?_) (a' := ?_) #[true, true, true, true, true, true, true, true, true, false, true, false, false, false] rfl rfl (bR HT_.out (by kernel_rfl)) (fun _ _ _ h => h) (Or.inl ⟨by rfl, ?_⟩) ?_ ?_;rotate_left
        ·intro w'
         go_simp;(with_reducible rfl)
        rotate_left
        ·simp only [Act.put, cS, cQ, cU, bN, bS]
         rfl
        refine oL (i := 9) (N := some 30) (v := ?_) (a' := ?_) #[true, true, true, true, true, true, true, true, true, true, true, false, false, false] rfl rfl (iV HT_.out HW_.out (by kernel_rfl)) (fun _ _ _ h => h) (Or.inl ⟨by rfl, ?_⟩) hHeld ?_ ?_;rotate_left
        ·rintro w' ⟨s0, s1, s2, s3, s4⟩
         go_simp;(with_reducible rfl)
        rotate_left
        ·simp only [Act.put, cS, cQ, cU, bN, bS]
         rfl
        refine oL (i := 11) (N := some 32) (v := ?_) (a' := ?_) #[true, true, true, true, true, true, true, true, true, true, true, true, false, false] rfl rfl (iV HT_.out HW_.out (by kernel_rfl)) (fun _ _ _ h => h) (Or.inl ⟨by rfl, ?_⟩) hHeld ?_ ?_;rotate_left
        ·rintro w' ⟨s0, s1, s2, s3, s4⟩
         go_simp;(with_reducible rfl)
        rotate_left
        ·simp only [Act.put, cS, cQ, cU, bN, bS]
         rfl
        refine cH (i := 12) (N := some 33) (v := ?_) (a' := ?_) #[true, true, true, true, true, true, true, true, true, true, true, true, true, false] rfl rfl (bR HT_.out (by kernel_rfl)) (fun _ _ _ h => h) (Or.inl ⟨by rfl, ?_⟩) ?_ ?_;rotate_left
        ·intro w'
         go_simp;(with_reducible rfl)
        rotate_left
        ·simp only [Act.put, cS, cQ, cU, bN, bS]
         rfl
        refine cH (i := 13) (N := some 34) (v := ?_) (a' := ?_) #[true, true, true, true, true, true, true, true, true, true, true, true, true, true] rfl rfl (bR HT_.out (by kernel_rfl)) (fun _ _ _ h => h) (Or.inl ⟨by rfl, ?_⟩) ?_ ?_;rotate_left
        ·intro w'
         go_simp;(with_reducible rfl)
        rotate_left
        ·simp only [Act.put, cS, cQ, cU, bN, bS]
         rfl
        refine FU (uG HT_.out (by kernel_rfl)) ?_
        try go_wp2
        go_roundg k1
        case measure => have := E7.out; omega
        case rel => exact ⟨(wrap64 (fS + 1)), (iC), (fC), vH, H', ⟨by have := E7.out; omega⟩, ⟨vP cJ.out⟩, ⟨vP cL.out⟩, ⟨eN HB jM mF⟩⟩
     ·rw [if_neg IW] at H
      exact absurd H (by simp)
    ·rw [if_neg wS] at H
     have AT : decide (fS < (l1.length : Int)) = false := decide_eq_false wS;clear wS
     by_cases FV : (l1.length : Int) > 64
     ·rw [if_pos FV] at H
      have UA : decide (64 < (l1.length : Int)) = true := decide_eq_true FV;have ZV : decide (64 < l1.length) = true := decide_eq_true (by omega);clear FV;simp only [Option.some.injEq, Prod.mk.injEq] at H;obtain ⟨rfl, rfl, rfl, rfl⟩ := H;have a2v := lW.out;have a2r := lX.out;have IH : wr.cell? ⟨fR, 0, none⟩ = some (.int .i64 iC) := (aE cL.out 0).trans rfl;have IG : wr.cell? ⟨fR, 1, none⟩ = some (.int .i64 fC) := (aE cL.out 1).trans rfl;have IF : wr.cell? ⟨fR, 2, none⟩ = some (.slice none 0 0) := (aE cL.out 2).trans rfl;have I8 := aA cL.out 0;have I7 := aA cL.out 1;have I6 := aA cL.out 2
      go_wp2
      refine bodyPost_ret (cN rfl _ _ fR 24 #[.int .i64 0, .int .i64 0, .slice none 0 0] (0, 0) _ rfl (by (with_reducible repeat first | apply a7 | apply aC | apply a8); refine aN (cs := #[.int .i64 0, .int .i64 0, .slice none 0 0]) ?_ 2 _ rfl; (with_reducible repeat first | apply a7 | apply aC | apply a8); refine aN (cs := #[.int .i64 0, .int .i64 fC, .slice none 0 0]) ?_ 1 _ rfl; (with_reducible repeat first | apply a7 | apply aC | apply a8); refine aN (cs := #[.int .i64 iC, .int .i64 fC, .slice none 0 0]) ?_ 0 _ rfl; (with_reducible repeat first | apply a7 | apply aC | apply a8); exact cL.out) Try.underlying24 rfl (by kernel_rfl)) rfl ?_;exact ⟨_, qN, EN, eN HB jM mF⟩
     ·rw [if_neg FV] at H
      have UA : decide (64 < (l1.length : Int)) = false := decide_eq_false FV;have ZV : decide (64 < l1.length) = false := decide_eq_false (by omega);clear FV;have H' := a6.mk H;clear H;have a2u := lX.out;have a2q := lW.out;have IE : wr.cell? ⟨hH, 0, none⟩ = some (.int .i64 bL) := (aE cJ.out 0).trans rfl;have ID : wr.cell? ⟨hH, 1, none⟩ = some (.int .i64 bI) := (aE cJ.out 1).trans rfl;have IC : wr.cell? ⟨hH, 2, none⟩ = some (.slice dK bJ.length dI) := (aE cJ.out 2).trans rfl;have I5 := aA cJ.out 0;have I4 := aA cJ.out 1;have I3 := aA cJ.out 2;go_wp2_with (first | ((with_reducible refine bE (N := 7) rfl ?_); refine bA ?hg (N := 7) ?hd (cs := #[.int .i64 0, .int .i64 0, .slice none 0 0]) (t := 24) ?hr ?_; (case hd => rfl); (case hg => rfl); (case hr => first | (go_simp; done) | (go_simp; rfl)); intro lR hg w26 hbox hb; have fL := a6.mk (hbox); have a96 := a6.mk ((by rw [hg]; exact (aG (eN HB jM mF)) : w.heap.size ≤ lR)); have DW := a6.mk ((by rw [hg]; exact (aG (eN HB jM mF)) : w.heap.size ≤ lR)); replace HB := a6.mk (aK (eN HB jM mF) hb); have mW := a6.mk ((by rw [hg]; exact Nat.ne_of_lt (bH (cP cJ)) : hH ≠ lR)); have zY := a6.mk ((by rw [hg]; exact Nat.ne_of_gt (bH (cP cJ)) : lR ≠ hH)); replace cJ := a6.mk (aJ (cP cJ) hb); have mU := a6.mk ((by rw [hg]; exact Nat.ne_of_lt (bH (cP cL)) : fR ≠ lR)); have zX := a6.mk ((by rw [hg]; exact Nat.ne_of_gt (bH (cP cL)) : lR ≠ fR)); replace cL := a6.mk (aJ (cP cL) hb); clear hb hbox hg; have a9q := zY.out; have a8N := mW.out; have a9p := zX.out; have a8M := mU.out; have XZ : w26.cell? ⟨lR, 0, none⟩ = some (.int .i64 0) := (aE fL.out 0).trans rfl; have XY : w26.cell? ⟨lR, 1, none⟩ = some (.int .i64 0) := (aE fL.out 1).trans rfl; have XX : w26.cell? ⟨lR, 2, none⟩ = some (.slice none 0 0) := (aE fL.out 2).trans rfl; have X5 := aA fL.out 0; have X4 := aA fL.out 1; have X3 := aA fL.out 2))
      go_loopg [8] k1 (fun kq v8 w' => ∃ (sC : Int) (jP : List Int) (pH : Value), v8 = .int .i64 sC ∧ a6 (aH.l1 kq l1 sC bL bI bJ (l1.length : Int) bI jP = some (r1, r2, r3, r4)) ∧ a6 (kq ≤ k1) ∧ a6 (Kd.R (Kd.int .u8) 5 w' w.heap.size (fun _ => True) pH jP) ∧ a6 (w'.heap[hH]? = some (.cells #[.int .i64 bL, .int .i64 bI, (.slice dK bJ.length dI)] 24 (0, 0))) ∧ a6 (w'.heap[fR]? = some (.cells #[.int .i64 iC, .int .i64 fC, (.slice none 0 0)] 24 (0, 0))) ∧ a6 (w'.heap[lR]? = some (.cells #[.int .i64 (l1.length : Int), .int .i64 bI, pH] 24 (0, 0))) ∧ a6 (Below w.heap.size w w'))
      case atStart => exact ⟨(0), (([] : List Int)), (.slice none 0 0), vH, H', ⟨Nat.le_refl _⟩, ⟨EN⟩, ⟨by (with_reducible repeat first | apply a7 | apply aC | apply a8); refine aX ?_ mW.out _; (with_reducible repeat first | apply a7 | apply aC | apply a8); refine aX ?_ mW.out _; (with_reducible repeat first | apply a7 | apply aC | apply a8); refine aX ?_ mW.out _; (with_reducible repeat first | apply a7 | apply aC | apply a8); exact cJ.out⟩, ⟨by (with_reducible repeat first | apply a7 | apply aC | apply a8); refine aX ?_ mU.out _; (with_reducible repeat first | apply a7 | apply aC | apply a8); refine aX ?_ mU.out _; (with_reducible repeat first | apply a7 | apply aC | apply a8); refine aX ?_ mU.out _; (with_reducible repeat first | apply a7 | apply aC | apply a8); exact cL.out⟩, ⟨by (with_reducible repeat first | apply a7 | apply aC | apply a8); refine aN (cs := #[.int .i64 (l1.length : Int), .int .i64 bI, .slice none 0 0]) ?_ 2 _ rfl; (with_reducible repeat first | apply a7 | apply aC | apply a8); refine aN (cs := #[.int .i64 (l1.length : Int), .int .i64 0, .slice none 0 0]) ?_ 1 _ rfl; (with_reducible repeat first | apply a7 | apply aC | apply a8); refine aN (cs := #[.int .i64 0, .int .i64 0, .slice none 0 0]) ?_ 0 _ rfl; (with_reducible repeat first | apply a7 | apply aC | apply a8); exact fL.out⟩, ⟨vI HB jM mF DW⟩⟩
      case round =>
       clear H';(try clear c1);(try clear c2);(try clear p2);(try clear c4);(try clear p5);(try clear q5);(try clear hx5);(try clear p6);(try clear c7);(try clear wS);(try clear AT);(try clear IW);(try clear O3);(try clear vL);(try clear yH);(try clear V8);(try clear DM);(try clear qR);(try clear UC);(try clear c18);(try clear FV);(try clear UA);(try clear ZV);(try clear ZU);(try clear V7);(try clear c27);(try clear c28);(try clear uB);(try clear uA);(try clear u9);(try clear IK);(try clear IJ);(try clear II);(try clear IH);(try clear IG);(try clear IF);(try clear IE);(try clear ID);(try clear IC);(try clear XZ);(try clear XY);(try clear XX);(try clear D5);(try clear D4);(try clear D3);(try clear tZ);(try clear tY);(try clear tX);(try clear IB);(try clear IA);(try clear I9);(try clear I8);(try clear I7);(try clear I6);(try clear I5);(try clear I4);(try clear I3);(try clear X5);(try clear X4);(try clear X3);(try clear CX);(try clear CW);(try clear CV);(try clear hx506_0);(try clear hx507_0);(try clear p2);(try clear B5);(try clear JL);(try clear q506);(try clear q507);obtain ⟨sC, jP, pH, rfl, HA, RD, gX, cJ, cL, fL, HB⟩ := hrel
       cases gk with
       | zero => exact absurd HA.out (by simp [aH.l1])
       | succ k2 =>
        have H := HA.out;clear HA;simp only [aH.l1] at H
        by_cases c30 : sC < (l1.length : Int)
        ·rw [if_pos c30] at H
         have a3h : decide (sC < (l1.length : Int)) = true := decide_eq_true c30;clear c30
         by_cases c31 : 0 ≤ sC
         ·rw [if_pos c31] at H
          have a9D : decide (0 ≤ sC) = true := decide_eq_true c31;clear c31;replace H := Option.bind_eq_some_iff.mp H;obtain ⟨⟨KY, a7l⟩, V3, H⟩ := H;replace H : (if jP.length + KY.length < 140737488355328 then (aH.l1 k2 l1 (wrap64 (sC + 1)) bL bI bJ (l1.length : Int) bI (jP ++ KY)) else (none)) = some (r1, r2, r3, r4) := H;have A32 := a6.mk V3;clear V3
          by_cases c33 : jP.length + KY.length < 140737488355328
          ·rw [if_pos c33] at H
           have LMc33 := a6.mk c33;clear c33;obtain ⟨y514, hy514⟩ : ∃ y_ : List Int, y_ = (jP ++ KY) := ⟨_, rfl⟩
           replace H : (aH.l1 k2 l1 (wrap64 (sC + 1)) bL bI bJ (l1.length : Int) bI y514) = some (r1, r2, r3, r4) := by first | (rw [hy514]; with_reducible exact H) | (have H2_ := (Option.bind_some _ _).symm.trans H; rw [hy514]; with_reducible exact H2_) | (have H2_ := (Option.bind_some _ _).symm.trans H; with_reducible exact H2_) | with_reducible exact H | (rw [hy514]; exact H) | exact H
           have Ny514 := a6.mk hy514;clear hy514;have H' := a6.mk H;clear H
           try go_wp2
           replace gX := a6.mk (Kd.DT gX.out);replace cJ := a6.mk (aC cJ.out);replace cL := a6.mk (aC cL.out);replace fL := a6.mk (aC fL.out);replace HB := a6.mk (eC HB.out);have a0Q : 0 ≤ (sC : Int) := of_decide_eq_true qZ;have q509 : sC < (l1.length : Int) := of_decide_eq_true qZ;obtain ⟨ad509, e509, hx509_0⟩ := Kd.oZ lY.out sC a0Q q509;have BI := hx509_0
           cases e509
           replace hx509_0 := (HB.out.cell (World.block_lt_of_cell? w _ hx509_0)).trans hx509_0;replace a0Q := eq_true a0Q;replace q509 := eq_true q509;refine z8 (n := 11) (S := fun w' => w'.cell? ⟨hH, 0, none⟩ = some (.int .i64 bL) ∧ w'.cell? ⟨hH, 1, none⟩ = some (.int .i64 bI) ∧ w'.cell? ⟨hH, 2, none⟩ = some (.slice dK bJ.length dI) ∧ w'.cell? (ad509.add (sC).toNat) = some (.int .i64 (rd l1 sC))) (ds := []) #[false, false, false, false, false, false, false, false, false, false, false] (by kernel_rfl) rfl rfl ⟨(aE cJ.out 0).trans rfl, (aE cJ.out 1).trans rfl, (aE cJ.out 2).trans rfl, ((HB.out.cell (World.block_lt_of_cell? w _ BI)).trans BI)⟩ (fun hHeld => ?_); refine oF aH.a1X aH.a1r (fun HT_ HW_ => ?_);generalize wr.drew = w34 at gX cJ cL fL HB hx509_0 hHeld ⊢;refine cH (i := 1) (N := some 53) (v := ?_) (a' := ?_) #[false, true, false, false, false, false, false, false, false, false, false] rfl rfl (bR HT_.out (by kernel_rfl)) (fun _ _ _ h => h) (Or.inl ⟨by rfl, ?_⟩) ?_ ?_;rotate_left
           ·intro w'
            go_simp;(with_reducible rfl)
           rotate_left
           ·simp only [Act.put, cS, cQ, cU, bN, bS]
            rfl
           refine cH (i := 2) (N := some 54) (v := ?_) (a' := ?_) #[false, true, true, false, false, false, false, false, false, false, false] rfl rfl (bR HT_.out (by kernel_rfl)) (fun _ _ _ h => h) (Or.inl ⟨by rfl, ?_⟩) ?_ ?_;rotate_left
           ·intro w'
            go_simp;(with_reducible rfl)
           rotate_left
           ·simp only [Act.put, cS, cQ, cU, bN, bS]
            rfl
           refine cH (i := 3) (N := some 55) (v := ?_) (a' := ?_) #[false, true, true, true, false, false, false, false, false, false, false] rfl rfl (bR HT_.out (by kernel_rfl)) (fun _ _ _ h => h) (Or.inl ⟨by rfl, ?_⟩) ?_ ?_;rotate_left
           ·intro w'
            go_simp;(with_reducible rfl)
           rotate_left
           ·simp only [Act.put, cS, cQ, cU, bN, bS]
            rfl
           refine oL (i := 0) (N := some 52) (v := ?_) (a' := ?_) #[true, true, true, true, false, false, false, false, false, false, false] rfl rfl (iV HT_.out HW_.out (by kernel_rfl)) (fun _ _ _ h => h) (Or.inl ⟨by rfl, ?_⟩) hHeld ?_ ?_;rotate_left
           ·rintro w' ⟨s0, s1, s2, s3⟩
            go_simp;(with_reducible rfl)
           rotate_left
           ·simp only [Act.put, cS, cQ, cU, bN, bS]
            rfl
           refine oL (i := 4) (N := some 56) (v := ?_) (a' := ?_) #[true, true, true, true, true, false, false, false, false, false, false] rfl rfl (iV HT_.out HW_.out (by kernel_rfl)) (fun _ _ _ h => h) (Or.inl ⟨by rfl, ?_⟩) hHeld ?_ ?_;rotate_left
           ·rintro w' ⟨s0, s1, s2, s3⟩
            go_simp;(with_reducible rfl)
           rotate_left
           ·simp only [Act.put, cS, cQ, cU, bN, bS]
            rfl
           refine a2a (i := 5) (N := some 57) #[true, true, true, true, true, true, false, false, false, false, false] rfl rfl (LS HT_.out (by kernel_rfl)) (by decide) (fun K hK => ?_);refine a2N Try.func54 (by kernel_rfl) rfl #[.agg #[.int .i64 bL, .int .i64 bI, .slice dK bJ.length dI], .int .i64 (rd l1 sC)] (by rfl) rfl rfl nV ?_
           with_reducible refine (b9.calls k2 bL bI _ _ bJ (rd l1 sC) KY a7l _ ?side1 ?side2 A32.out).mono ?_
           (case side1 => repeat (first | exact (Kd.jY pP.out HB.out) | (with_reducible refine Kd.eE ?_ _) | (with_reducible refine Kd.eD ?_ _) | (with_reducible refine Kd.fW ?_)))
           (case side2 => exact qX.out);rintro e w35 ⟨aAz, rfl, ho0, hb⟩;refine ⟨_, rfl, ?_⟩;have FZ := a6.mk (Kd.cV (Kd.dC ho0 (Kd.iS (cD gX.out))) (aG (vI HB jM mF DW)));replace gX := a6.mk (Kd.bX (cD gX.out) (Kd.dD ho0) hb);replace cJ := a6.mk (aJ (cP cJ) hb);replace cL := a6.mk (aJ (cP cL) hb);replace fL := a6.mk (aJ (cP fL) hb);replace HB := a6.mk (aK (vI HB jM mF DW) hb);(try clear hb);(try clear hb2);(try clear hk);(try clear hi);(try clear ho0);refine hK.out _ _ ⟨(aE cJ.out 0).trans rfl, (aE cJ.out 1).trans rfl, (aE cJ.out 2).trans rfl, ((HB.out.cell (World.block_lt_of_cell? w _ BI)).trans BI)⟩ (fun hHeld => ?_);clear hK K;refine a2b (a' := ?_) ?_ ?_;rotate_left
           ·show Act.put _ (some 57) _ = _
            simp only [Act.put, cS, cQ, cU, bN, bS];rfl
           refine cH (i := 6) (N := some 51) (v := ?_) (a' := ?_) #[true, true, true, true, true, true, true, false, false, false, false] rfl rfl (bR HT_.out (by kernel_rfl)) (fun _ _ _ h => h) (Or.inl ⟨by rfl, ?_⟩) ?_ ?_;rotate_left
           ·intro w'
            go_simp;(with_reducible rfl)
           rotate_left
           ·simp only [Act.put, cS, cQ, cU, bN, bS]
            rfl
           refine cH (i := 7) (N := some 58) (v := ?_) (a' := ?_) #[true, true, true, true, true, true, true, true, false, false, false] rfl rfl (bR HT_.out (by kernel_rfl)) (fun _ _ _ h => h) (Or.inl ⟨by rfl, ?_⟩) ?_ ?_;rotate_left
           ·intro w'
            go_simp;(with_reducible rfl)
           rotate_left
           ·simp only [Act.put, cS, cQ, cU, bN, bS]
            rfl
           refine cH (i := 8) (N := some 59) (v := ?_) (a' := ?_) #[true, true, true, true, true, true, true, true, true, false, false] rfl rfl (bR HT_.out (by kernel_rfl)) (fun _ _ _ h => h) (Or.inl ⟨by rfl, ?_⟩) ?_ ?_;rotate_left
           ·intro w'
            go_simp;(with_reducible rfl)
           rotate_left
           ·simp only [Act.put, cS, cQ, cU, bN, bS]
            rfl
           refine cH (i := 9) (N := some 9) (v := ?_) (a' := ?_) #[true, true, true, true, true, true, true, true, true, true, false] rfl rfl (bR HT_.out (by kernel_rfl)) (fun _ _ _ h => h) (Or.inl ⟨by rfl, ?_⟩) ?_ ?_;rotate_left
           ·intro w'
            go_simp;(with_reducible rfl)
           rotate_left
           ·simp only [Act.put, cS, cQ, cU, bN, bS]
            rfl
           refine cH (i := 10) (N := some 10) (v := ?_) (a' := ?_) #[true, true, true, true, true, true, true, true, true, true, true] rfl rfl (bR HT_.out (by kernel_rfl)) (fun _ _ _ h => h) (Or.inl ⟨by rfl, ?_⟩) ?_ ?_;rotate_left
           ·intro w'
            go_simp;(with_reducible rfl)
           rotate_left
           ·simp only [Act.put, cS, cQ, cU, bN, bS]
            rfl
           refine FU (uG HT_.out (by kernel_rfl)) ?_;have a9m := zY.out;have a8J := mW.out;have a9l := zX.out;have a8I := mU.out;have a6D : w35.cell? ⟨lR, 0, none⟩ = some (.int .i64 (l1.length : Int)) := (aE fL.out 0).trans rfl;have a6C : w35.cell? ⟨lR, 1, none⟩ = some (.int .i64 bI) := (aE fL.out 1).trans rfl;have a6B : w35.cell? ⟨lR, 2, none⟩ = some (pH) := (aE fL.out 2).trans rfl;have a5n := aA fL.out 0;have a5m := aA fL.out 1;have a5l := aA fL.out 2;obtain ⟨a1F, a09, eo40⟩ := Kd.cK FZ.out;subst eo40
           try go_wp2_with (first | ((with_reducible refine rP (b := .append) (xs := #[.tmp 61, .tmp 62]) rfl ?_); at_builtin; refine Kd.EY (Kd.int .u8) (w0 := w) w.heap.size rfl (.tmp 61) (.tmp 62) 22 5 (.int .u8 0) 1 rfl Try.underlying22 JS rfl (by decide) (by omega) pH jP KY _ _ _ (fun k_ => some k_ ≠ (.slice a1F KY.length a09 : Value).ownBlock) (fun _ => False) rfl rfl ?aO ?aR (fun _ _ h => h) (fun _ h => h.elim) ?aF ?aB ?aS ?aL ?_; (case aR => repeat (first | exact (Kd.bK FZ.out).2.2 | (with_reducible refine Kd.eE ?_ _) | (with_reducible refine Kd.eD ?_ _) | (with_reducible refine Kd.fW ?_))); (case aB => exact (vI HB jM mF DW)); (case aF => exact (fun k_ hk => Kd.a02 (Kd.iS (cD FZ.out)) k_ hk)); (case aO => exact (cD (Kd.bD gX.out (fun _ hk => hk.2)))); (case aS => exact (aG (vI HB jM mF DW))); (case aL => have := LMc33.out; omega); intro aAy w39 ho hb hg hat; rw [← Ny514.out] at ho; have o5 := a6.mk (lU (cP cJ) hg (Kd.KJ gX.out cJ.out (by decide))); have o4 := a6.mk (lU (cP cL) hg (Kd.KJ gX.out cL.out (by decide))); have SV := a6.mk (lU (cP fL) hg (Kd.KJ gX.out fL.out (by decide))); have ZE := a6.mk (Kd.YY (ok := (fun _ => True)) (cD FZ.out) hg hat); have ZD := a6.mk (hb); have ZC := a6.mk (ho); clear cJ cL; clear fL FZ; clear HB gX; have cJ := o5; have cL := o4; have fL := SV; have FZ := ZE; have HB := ZD; have a0c := ZC; clear o5 o4 SV ZE ZD ZC; clear ho hb hg hat; obtain ⟨Z3, YO, eo41⟩ := Kd.cK a0c.out; subst eo41; have a6A : w39.cell? ⟨lR, 0, none⟩ = some (.int .i64 (l1.length : Int)) := (aE fL.out 0).trans rfl; have a6z : w39.cell? ⟨lR, 1, none⟩ = some (.int .i64 bI) := (aE fL.out 1).trans rfl; have a6y : w39.cell? ⟨lR, 2, none⟩ = some (pH) := (aE fL.out 2).trans rfl; have a5k := aA fL.out 0; have a5j := aA fL.out 1; have a5i := aA fL.out 2))
           go_roundg k2
           case measure => have := E7.out; have := RD.out; omega
           case rel => exact ⟨(wrap64 (sC + 1)), (y514), (.slice Z3 y514.length YO), vH, H', ⟨by have := E7.out; have := RD.out; omega⟩, ⟨cD (Kd.bD (Kd.aM (p := ⟨lR, 2, none⟩) (Kd.b7 a0c.out fL.out (by decide)) (fun _ hk => hk.2) (.slice Z3 y514.length YO)) (fun _ hk => trivial))⟩, ⟨by (with_reducible repeat first | apply a7 | apply aC | apply a8); refine aX ?_ mW.out _; (with_reducible repeat first | apply a7 | apply aC | apply a8); exact cJ.out⟩, ⟨by (with_reducible repeat first | apply a7 | apply aC | apply a8); refine aX ?_ mU.out _; (with_reducible repeat first | apply a7 | apply aC | apply a8); exact cL.out⟩, ⟨by (with_reducible repeat first | apply a7 | apply aC | apply a8); refine aN (cs := #[.int .i64 (l1.length : Int), .int .i64 bI, pH]) ?_ 2 _ rfl; (with_reducible repeat first | apply a7 | apply aC | apply a8); exact fL.out⟩, ⟨vI HB jM mF DW⟩⟩
          ·rw [if_neg c33] at H
           exact absurd H (by simp)
         ·rw [if_neg c31] at H
          exact absurd H (by simp)
        ·rw [if_neg c30] at H
         have a3h : decide (sC < (l1.length : Int)) = false := decide_eq_false c30;clear c30;simp only [Option.some.injEq, Prod.mk.injEq] at H;obtain ⟨rfl, rfl, rfl, rfl⟩ := H;have a9k := zY.out;have a8H := mW.out;have ZM := zX.out;have ZK := mU.out;have XT : wr.cell? ⟨lR, 0, none⟩ = some (.int .i64 (l1.length : Int)) := (aE fL.out 0).trans rfl;have XS : wr.cell? ⟨lR, 1, none⟩ = some (.int .i64 bI) := (aE fL.out 1).trans rfl;have XR : wr.cell? ⟨lR, 2, none⟩ = some (pH) := (aE fL.out 2).trans rfl;have WZ := aA fL.out 0;have WY := aA fL.out 1;have WX := aA fL.out 2;have a9i := lW.out;have a8F := lX.out;have a6u : wr.cell? ⟨fR, 0, none⟩ = some (.int .i64 iC) := (aE cL.out 0).trans rfl;have a6t : wr.cell? ⟨fR, 1, none⟩ = some (.int .i64 fC) := (aE cL.out 1).trans rfl;have a6s : wr.cell? ⟨fR, 2, none⟩ = some (.slice none 0 0) := (aE cL.out 2).trans rfl;have a5e := aA cL.out 0;have a5d := aA cL.out 1;have a5c := aA cL.out 2;obtain ⟨a3U, a2W, eo48⟩ := Kd.cK gX.out;subst eo48
         go_wp2
         refine bodyPost_ret (cN rfl _ _ fR 24 #[.int .i64 (l1.length : Int), .int .i64 bI, .slice a3U jP.length a2W] (0, 0) _ rfl (by (with_reducible repeat first | apply a7 | apply aC | apply a8); refine aN (cs := #[.int .i64 (l1.length : Int), .int .i64 bI, .slice none 0 0]) ?_ 2 _ rfl; (with_reducible repeat first | apply a7 | apply aC | apply a8); refine aN (cs := #[.int .i64 (l1.length : Int), .int .i64 fC, .slice none 0 0]) ?_ 1 _ rfl; (with_reducible repeat first | apply a7 | apply aC | apply a8); refine aN (cs := #[.int .i64 iC, .int .i64 fC, .slice none 0 0]) ?_ 0 _ rfl; (with_reducible repeat first | apply a7 | apply aC | apply a8); exact cL.out) Try.underlying24 rfl (by kernel_rfl)) rfl ?_;exact ⟨_, qN, cD (Kd.bD (Kd.aM (p := ⟨fR, 2, none⟩) (Kd.aM (p := ⟨fR, 1, none⟩) (Kd.aM (p := ⟨fR, 0, none⟩) (Kd.b7 gX.out cL.out (by decide)) (fun _ hk => hk.2) (.int .i64 (l1.length : Int))) (fun _ hk => hk.2) (.int .i64 bI)) (fun _ hk => hk.2) (.slice a3U jP.length a2W)) (fun _ hk => trivial)), vI HB jM mF DW⟩
 ·replace c4 := Bool.eq_false_iff.mpr c4
  subst c4;have H1 : (some (0, 0, ([] : List Int), 3)) = some (r1, r2, r3, r4) := by rw [if_neg (show ¬ (false = true) by decide)] at H; exact H
  clear H;have H := H1;clear H1;simp only [Option.some.injEq, Prod.mk.injEq] at H;obtain ⟨rfl, rfl, rfl, rfl⟩ := H;go_enter Try.func22, Try.ntmps22;go_wp2_with (first | ((with_reducible refine bE (N := 2) rfl ?_); refine bA ?hg (N := 2) ?hd (cs := #[.int .i64 bL, .int .i64 bI, .slice dK bJ.length dI]) (t := 24) ?hr ?_; (case hd => rfl); (case hg => rfl); (case hr => first | (go_simp; done) | (go_simp; rfl)); intro hH hg w49 hbox hb; have cJ := a6.mk (hbox); have a3I := a6.mk ((by rw [hg]; exact (aG (bV HB)) : w.heap.size ≤ hH)); have jM := a6.mk ((by rw [hg]; exact (aG (bV HB)) : w.heap.size ≤ hH)); replace HB := a6.mk (aK (bV HB) hb); clear hb hbox hg) | ((with_reducible refine bE (N := 4) rfl ?_); refine bA ?hg (N := 4) ?hd (cs := #[.int .i64 0, .int .i64 0, .slice none 0 0]) (t := 24) ?hr ?_; (case hd => rfl); (case hg => rfl); (case hr => first | (go_simp; done) | (go_simp; rfl)); intro fR hg w50 hbox hb; have cL := a6.mk (hbox); have a3H := a6.mk ((by rw [hg]; exact (aG (bZ HB jM)) : w.heap.size ≤ fR)); have mF := a6.mk ((by rw [hg]; exact (aG (bZ HB jM)) : w.heap.size ≤ fR)); replace HB := a6.mk (aK (bZ HB jM) hb); have lX := a6.mk ((by rw [hg]; exact Nat.ne_of_lt (bH (cP cJ)) : hH ≠ fR)); have lW := a6.mk ((by rw [hg]; exact Nat.ne_of_gt (bH (cP cJ)) : fR ≠ hH)); replace cJ := a6.mk (aJ (cP cJ) hb); clear hb hbox hg; have a9f := lX.out; have a8C := lW.out; have a6l : w50.cell? ⟨hH, 0, none⟩ = some (.int .i64 bL) := (aE cJ.out 0).trans rfl; have a6k : w50.cell? ⟨hH, 1, none⟩ = some (.int .i64 bI) := (aE cJ.out 1).trans rfl; have a6j : w50.cell? ⟨hH, 2, none⟩ = some (.slice dK bJ.length dI) := (aE cJ.out 2).trans rfl; have a43 := aA cJ.out 0; have a42 := aA cJ.out 1; have a41 := aA cJ.out 2) | ((with_reducible refine aZ (f := 17) rfl ?_); refine cM (some 12) rfl rfl Try.func17 (by kernel_rfl) rfl #[.agg #[.int .i64 bL, .int .i64 bI, .slice dK bJ.length dI]] rfl nV ?_; (with_reducible refine (bU.calls bL bI _ _ bJ false _ ?side1 ?side2 A3.out).mono ?_); (case side1 => repeat (first | exact (Kd.jY pP.out HB.out) | (with_reducible refine Kd.eE ?_ _) | (with_reducible refine Kd.eD ?_ _) | (with_reducible refine Kd.fW ?_))); (case side2 => exact qX.out); rintro e w53 ⟨rfl, hb⟩; refine ⟨_, rfl, ?_⟩; replace cJ := a6.mk (aJ (cP cJ) hb); replace cL := a6.mk (aJ (cP cL) hb); replace HB := a6.mk (aK (eN HB jM mF) hb); (try clear hb); (try clear hb2); (try clear hk); (try clear hi); have a6i : w53.cell? ⟨fR, 0, none⟩ = some (.int .i64 0) := (aE cL.out 0).trans rfl; have a6h : w53.cell? ⟨fR, 1, none⟩ = some (.int .i64 0) := (aE cL.out 1).trans rfl; have a6g : w53.cell? ⟨fR, 2, none⟩ = some (.slice none 0 0) := (aE cL.out 2).trans rfl; have a4Z := aA cL.out 0; have a4Y := aA cL.out 1; have a4X := aA cL.out 2))
  refine bodyPost_ret (cN rfl _ _ fR 24 #[.int .i64 0, .int .i64 0, .slice none 0 0] (0, 0) _ rfl (by (with_reducible repeat first | apply a7 | apply aC | apply a8); refine aN (cs := #[.int .i64 0, .int .i64 0, .slice none 0 0]) ?_ 2 _ rfl; (with_reducible repeat first | apply a7 | apply aC | apply a8); refine aN (cs := #[.int .i64 0, .int .i64 0, .slice none 0 0]) ?_ 1 _ rfl; (with_reducible repeat first | apply a7 | apply aC | apply a8); refine aN (cs := #[.int .i64 0, .int .i64 0, .slice none 0 0]) ?_ 0 _ rfl; (with_reducible repeat first | apply a7 | apply aC | apply a8); exact cL.out) Try.underlying24 rfl (by kernel_rfl)) rfl ?_;exact ⟨_, qN, EN, eN HB jM mF⟩
end Go.Proofs.Yteofcbkjhdadpaa.Pr
