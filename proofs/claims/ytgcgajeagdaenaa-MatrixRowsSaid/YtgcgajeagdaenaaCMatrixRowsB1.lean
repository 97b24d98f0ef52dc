/- The law MatrixRows, proved: for every input the call returns true and each argument reads as before. -/
import Derived.WalkKit
import Derived.ProofKit
import Derived.OpenShut
import Derived.ChangeOld
import Derived.Below
import Derived.SizedLaws
import Derived.Test.YtgcgajeagdaenaaCMatrixRowsx1
import Derived.Test.YtgcgajeagdaenaaCMatrixRowsx2
import Derived.Test.YtgcgajeagdaenaaCMatrixRowsx3
import Derived.Test.YtgcgajeagdaenaaCMatrixRowsx4
import Derived.Test.YtgcgajeagdaenaaCMatrixRowsA1
import Derived.Test.YtgcgajeagdaenaaRows
namespace Go.Proofs.Ytgcgajeagdaenaa
open Go.RowKit Go.Proofs.YtgcgajeagdaenaaW.PrintWords Go.Proofs.Ytgcgajeagdaenaa.Pr
set_option linter.unusedVariables false
set_option linter.unusedSimpArgs false

theorem rows_right (r c : Int) (l : List Int) (hl : l.length ≤ 140737488355328) : recoupref03_Right.f r c l = some (rightB r c l.length) := by
  unfold recoupref03_Right.f rightB
  by_cases h1 : r ≥ 0
  · rw [if_pos h1]
    by_cases h2 : r ≤ 64
    · rw [if_pos h2]
      by_cases h3 : c ≥ 0
      · rw [if_pos h3]
        by_cases h4 : c ≤ 64
        · have hb := prod_bd h1 h2 h3 h4
          rw [if_pos h4, w64 (by omega) (by omega)]
          congr 1
          rw [Bool.eq_iff_iff, beq_iff_eq, decide_eq_true_eq]
          omega
        · rw [if_neg h4, decide_eq_false (by omega)]
      · rw [if_neg h3, decide_eq_false (by omega)]
    · rw [if_neg h2, decide_eq_false (by omega)]
  · rw [if_neg h1, decide_eq_false (by omega)]
theorem rows_side (n : Int) : matrix_side.f n = some (sideB n) := by
  unfold matrix_side.f sideB
  by_cases h1 : n ≥ 0
  · rw [if_pos h1]
    congr 1
    rw [Bool.eq_iff_iff, decide_eq_true_eq, decide_eq_true_eq]
    omega
  · rw [if_neg h1, decide_eq_false (by omega)]
theorem rows_mright (r c : Int) (l : List Int) (hl : l.length ≤ 140737488355328) : matrix_Right.f r c l = some (rightB r c l.length) := by
  unfold matrix_Right.f
  rw [rows_side, Option.bind_some]
  cases h1 : sideB r
  · rw [if_neg (by simp)]
    unfold sideB at h1
    unfold rightB
    rw [decide_eq_false (by have := of_decide_eq_false h1; omega)]
  · rw [if_pos rfl, rows_side, Option.bind_some]
    cases h2 : sideB c
    · rw [if_neg (by simp)]
      unfold sideB at h2
      unfold rightB
      rw [decide_eq_false (by have := of_decide_eq_false h2; omega)]
    · rw [if_pos rfl]
      have a1 := of_decide_eq_true h1
      have a2 := of_decide_eq_true h2
      have hb := prod_bd a1.1 a1.2 a2.1 a2.2
      rw [w64 (by omega) (by omega)]
      unfold rightB
      congr 1
      rw [Bool.eq_iff_iff, beq_iff_eq, decide_eq_true_eq]
      omega
/-- both say the same of two matrices -/
theorem rows_same (r c r' c' : Int) (l l' : List Int) (hl : l.length ≤ 140737488355328) (hl' : l'.length ≤ 140737488355328) : ∃ b, matrix_Same.f r c l r' c' l' = some b ∧ recoupref03_Same.f r c l r' c' l' = some b := by
  unfold matrix_Same.f recoupref03_Same.f
  rw [rows_mright r c l hl, rows_right r c l hl, Option.bind_some, Option.bind_some]
  cases rightB r c l.length
  · exact ⟨false, rfl, rfl⟩
  · rw [if_pos rfl, if_pos rfl, rows_mright r' c' l' hl', rows_right r' c' l' hl', Option.bind_some, Option.bind_some]
    cases rightB r' c' l'.length
    · exact ⟨false, rfl, rfl⟩
    · rw [if_pos rfl, if_pos rfl]
      unfold recoupref03_Like.f
      by_cases h1 : r = r'
      · rw [if_pos h1, if_pos h1]
        by_cases h2 : c = c'
        · rw [if_pos h2, if_pos h2]
          unfold bytes_Equal.f recoupref01_Same.f
          exact ⟨_, rfl, rfl⟩
        · rw [if_neg h2, if_neg h2]
          exact ⟨false, rfl, rfl⟩
      · rw [if_neg h1, if_neg h1]
        exact ⟨false, rfl, rfl⟩
theorem rows_self (r c : Int) (l : List Int) (hl : l.length ≤ 140737488355328) : matrix_Same.f r c l r c l = some (rightB r c l.length) := by
  unfold matrix_Same.f
  rw [rows_mright r c l hl, Option.bind_some]
  cases rightB r c l.length
  · rfl
  · unfold bytes_Equal.f
    simp
theorem rows_eq (l : List Int) : recoupref01_Same.f l l = some true := by
  unfold recoupref01_Same.f
  rw [beq_self_eq_true]
theorem rows_like (r c : Int) (l : List Int) (e : Int) : recouplaw03_like.f r c l e r c l e = some true := by
  unfold recouplaw03_like.f recoupref03_Like.f
  rw [if_pos rfl, if_pos rfl, if_pos rfl, rows_eq]
  rfl
theorem rd_nIL (L : List (List UInt8)) (i : Nat) : rd_L1 (nIL L) (i : Int) = nI (L.getD i []) := by
  unfold rd_L1 nIL
  rw [Int.toNat_natCast, List.getD_eq_getElem?_getD, List.getElem?_map, List.getD_eq_getElem?_getD]
  cases L[i]? <;> simp [nI]
/-- what Of answers -/
def ofR (L : List (List UInt8)) : Int := if ofB L then (L.length : Int) else 0
def ofK (L : List (List UInt8)) : Int := if ofB L then (ofC L : Int) else 0
def ofD (L : List (List UInt8)) : List UInt8 := if ofB L then catTo L L.length else []
theorem g_of (L : List (List UInt8)) : matrix_Of.f (nIL L) = some (ofR L, ofK L, nI (ofD L), ofE L) := by
  unfold matrix_Of.f
  rw [inUL_nIL, toUL_nIL, nIL_length]
  rfl
theorem pu_rof (L : List (List UInt8)) (hL : L.length ≤ 9223372036854775807) (hc : ofC L ≤ 9223372036854775807) : Ev (fun k => recoupref03_Of.f k (nIL L)) (ofR L, ofK L, nI (ofD L), ofE L) := by
  by_cases h0 : L.length = 0
  · obtain rfl := List.eq_nil_of_length_eq_zero h0
    unfold recoupref03_Of.f
    refine Ev.step (f := fun k => recoupref03_Of.j1 k (nIL []) 0 0) (fun k => ?_) ?_
    · rw [recoupref03_Of.l0, if_neg (by simp [nIL]), if_neg (by simp [nIL])]; rfl
    refine Ev.step (f := fun k => recoupref03_Of.j2 k (nIL []) false 0 0) (fun k => ?_) ?_
    · rw [recoupref03_Of.j1, if_neg (by omega), decide_eq_false (by omega)]
    refine Ev.step (f := fun k => recoupref03_Of.l1 k (nIL []) 0 0 0 []) (fun k => ?_) ?_
    · rw [recoupref03_Of.j2, if_neg (by simp)]
    refine Ev.step (f := fun _ => some (0, 0, [], 0)) (fun k => ?_) (Ev.now _)
    · rw [recoupref03_Of.l1, if_neg (by simp [nIL])]
  · have hB : ofB L = (eqTo L L.length && decide (L.length ≤ 64) && decide (ofC L ≤ 64)) := by
      unfold ofB
      rw [decide_eq_true (by omega : 0 < L.length), Bool.true_and]
    have hcopy : eqTo L L.length = true → L.length ≤ 64 → ofC L ≤ 64 → ∀ d i, i + d = L.length → Ev (fun k => recoupref03_Of.l1 k (nIL L) (i : Int) (L.length : Int) (ofC L : Int) (nI (catTo L i))) ((L.length : Int), (ofC L : Int), nI (catTo L L.length), (0 : Int)) := by
      intro he h1 h2 d
      induction d with
      | zero =>
        intro i hi
        obtain rfl : i = L.length := by omega
        refine Ev.step (f := fun _ => some ((L.length : Int), (ofC L : Int), nI (catTo L L.length), (0 : Int))) (fun k => ?_) (Ev.now _)
        rw [recoupref03_Of.l1, if_neg (by rw [nIL_length]; omega)]
      | succ d ih =>
        intro i hi
        have hl := catTo_len he i (by omega)
        have hp : i * ofC L ≤ 64 * 64 := Nat.mul_le_mul (by omega) h2
        have hli := eqTo_at he (show i < L.length by omega)
        refine Ev.step (fun k => ?_) (ih (i + 1) (by omega))
        rw [recoupref03_Of.l1, if_pos (by rw [nIL_length]; omega), if_pos (by omega), rd_nIL, if_pos (by rw [nI_length, nI_length, hl, hli]; omega), nI_app, w64_succ (by omega)]
        rfl
    have hj1 : eqTo L L.length = true → Ev (fun k => recoupref03_Of.j1 k (nIL L) (L.length : Int) (ofC L : Int)) (ofR L, ofK L, nI (ofD L), ofE L) := by
      intro he
      have hE : ofE L = if L.length ≤ 64 ∧ ofC L ≤ 64 then 0 else 4 := by
        unfold ofE
        rw [if_neg h0, if_pos he]
      have hR : (ofR L, ofK L, nI (ofD L), ofE L) = if L.length ≤ 64 ∧ ofC L ≤ 64 then ((L.length : Int), (ofC L : Int), nI (catTo L L.length), (0 : Int)) else ((0 : Int), (0 : Int), nI [], (4 : Int)) := by
        unfold ofR ofK ofD
        rw [hE, hB, he, Bool.true_and, ← Bool.decide_and]
        by_cases h : L.length ≤ 64 ∧ ofC L ≤ 64
        · simp only [decide_eq_true h, if_true, if_pos h]
        · simp only [decide_eq_false h, Bool.false_eq_true, if_false, if_neg h]
      rw [hR]
      have herr : Ev (fun k => recoupref03_Of.j2 k (nIL L) true (L.length : Int) (ofC L : Int)) ((0 : Int), (0 : Int), nI [], (4 : Int)) := by
        refine Ev.step (f := fun _ => some ((0 : Int), (0 : Int), nI [], (4 : Int))) (fun k => ?_) (Ev.now _)
        rw [recoupref03_Of.j2, if_pos rfl]
        rfl
      by_cases h1 : L.length ≤ 64
      · by_cases h2 : ofC L ≤ 64
        · rw [if_pos (show L.length ≤ 64 ∧ ofC L ≤ 64 from ⟨h1, h2⟩)]
          refine Ev.step (f := fun k => recoupref03_Of.j2 k (nIL L) false (L.length : Int) (ofC L : Int)) (fun k => ?_) ?_
          · rw [recoupref03_Of.j1, if_neg (by omega), decide_eq_false (by omega)]
          refine Ev.step (fun k => ?_) (hcopy he h1 h2 L.length 0 (by omega))
          rw [recoupref03_Of.j2, if_neg (by simp)]
          rfl
        · rw [if_neg (show ¬ (L.length ≤ 64 ∧ ofC L ≤ 64) by omega)]
          refine Ev.step (fun k => ?_) herr
          rw [recoupref03_Of.j1, if_neg (by omega), decide_eq_true (by omega)]
      · rw [if_neg (show ¬ (L.length ≤ 64 ∧ ofC L ≤ 64) by omega)]
        refine Ev.step (fun k => ?_) herr
        rw [recoupref03_Of.j1, if_pos (by omega)]
    have hl0 : ∀ d i, i + d = L.length → eqTo L i = true → Ev (fun k => recoupref03_Of.l0 k (nIL L) (i : Int) (L.length : Int) 0) (ofR L, ofK L, nI (ofD L), ofE L) := by
      intro d
      induction d with
      | zero =>
        intro i hi he
        obtain rfl : i = L.length := by omega
        refine Ev.step (fun k => ?_) (hj1 he)
        rw [recoupref03_Of.l0, if_neg (by rw [nIL_length]; omega), if_pos (by rw [nIL_length]; omega), if_pos (by rw [nIL_length]; omega), show (0 : Int) = ((0 : Nat) : Int) from rfl, rd_nIL, nI_length]
        rfl
      | succ d ih =>
        intro i hi he
        have hs : eqTo L (i + 1) = (eqTo L i && decide ((L.getD i []).length = ofC L)) := rfl
        rw [he, Bool.true_and] at hs
        by_cases hq : (L.getD i []).length = ofC L
        · refine Ev.step (fun k => ?_) (ih (i + 1) (by omega) (by rw [hs]; exact decide_eq_true hq))
          rw [recoupref03_Of.l0, if_pos (by rw [nIL_length]; omega), if_pos (by omega), if_pos (by rw [nIL_length]; omega), rd_nIL, nI_length, w64_succ (by omega), show rd_L1 (nIL L) 0 = nI (L.getD 0 []) from rd_nIL L 0, nI_length, if_pos (by rw [hq]; rfl)]
        · have hF : eqTo L L.length = false := by
            cases h : eqTo L L.length
            · rfl
            · exact absurd (eqTo_at h (by omega)) hq
          have e1 : ofE L = 3 := by unfold ofE; rw [if_neg h0, hF, if_neg (by simp)]
          have e2 : ofB L = false := by rw [hB, hF]; rfl
          unfold ofR ofK ofD
          rw [e1, e2]
          refine Ev.step (f := fun _ => some ((0 : Int), (0 : Int), nI [], (3 : Int))) (fun k => ?_) (Ev.now _)
          rw [recoupref03_Of.l0, if_pos (by rw [nIL_length]; omega), if_pos (by omega), if_pos (by rw [nIL_length]; omega), rd_nIL, nI_length, show rd_L1 (nIL L) 0 = nI (L.getD 0 []) from rd_nIL L 0, nI_length, if_neg (by unfold ofC at hq; omega)]
          rfl
    unfold recoupref03_Of.f
    rw [nIL_length]
    exact hl0 L.length 0 (by omega) rfl
theorem g_row (a b : Int) (xs : List UInt8) (i : Int) : matrix_Row.f a b (nI xs) i = some (if rowE a b xs.length i = 0 then nI ((xs.drop (i.toNat * b.toNat)).take b.toNat) else [], rowE a b xs.length i) := by
  unfold matrix_Row.f
  rw [inU_nI, if_pos rfl, nI_length, nI_toU]
  by_cases h : rowE a b xs.length i = 0
  · rw [if_pos h, if_pos h, h]
  · rw [if_neg h, if_neg h]
theorem pu_rrow (a b : Int) (xs : List UInt8) (i : Int) (hl : xs.length ≤ 140737488355328) : Ev (fun k => recoupref03_Row.f k a b (nI xs) i) (if rowE a b xs.length i = 0 then nI ((xs.drop (i.toNat * b.toNat)).take b.toNat) else [], rowE a b xs.length i) := by
  unfold recoupref03_Row.f
  rw [rows_right a b _ (by rw [nI_length]; exact hl), nI_length]
  simp only [Option.bind_some]
  have herr : Ev (fun k => recoupref03_Row.j0 k i true a b (nI xs)) (([] : List Int), (2 : Int)) := by
    refine Ev.step (f := fun _ => some (([] : List Int), (2 : Int))) (fun k => ?_) (Ev.now _)
    rw [recoupref03_Row.j0, if_pos rfl]
  cases hr : rightB a b xs.length
  · have e : rowE a b xs.length i = 3 := by unfold rowE; rw [hr]; rfl
    rw [e, if_neg (by omega)]
    simp only [Bool.false_eq_true, if_false]
    exact Ev.now _
  · simp only [if_true]
    by_cases h1 : i < 0
    · have e : rowE a b xs.length i = 2 := by unfold rowE; rw [hr, if_pos rfl, if_neg (by omega)]
      rw [e, if_neg (by omega)]
      simp only [if_pos h1]
      exact herr
    · simp only [if_neg h1]
      by_cases h2 : i ≥ a
      · have e : rowE a b xs.length i = 2 := by unfold rowE; rw [hr, if_pos rfl, if_neg (by omega)]
        rw [e, if_neg (by omega), decide_eq_true h2]
        exact herr
      · have e : rowE a b xs.length i = 0 := by unfold rowE; rw [hr, if_pos rfl, if_pos (by omega)]
        rw [e, if_pos rfl, decide_eq_false h2]
        have hrb := of_decide_eq_true hr
        obtain ⟨c, rfl⟩ : ∃ c : Nat, b = c := ⟨b.toNat, by omega⟩
        obtain ⟨r, rfl⟩ : ∃ r : Nat, a = r := ⟨a.toNat, by omega⟩
        obtain ⟨j, rfl⟩ : ∃ j : Nat, i = j := ⟨i.toNat, by omega⟩
        rw [Int.toNat_natCast, Int.toNat_natCast]
        have hlen : xs.length = r * c := by have := hrb.2.2; rw [← Int.natCast_mul] at this; omega
        have hjr : (j + 1) * c ≤ r * c := Nat.mul_le_mul_right c (by omega)
        rw [Nat.add_mul, Nat.one_mul] at hjr
        have hrc : r * c ≤ 64 * 64 := Nat.mul_le_mul (by omega) (by omega)
        have hloop : ∀ d q, q + d = c → Ev (fun k => recoupref03_Row.l0 k (j : Int) (nI ((xs.drop (j * c)).take q)) (q : Int) (r : Int) (c : Int) (nI xs)) (nI ((xs.drop (j * c)).take c), (0 : Int)) := by
          intro d
          induction d with
          | zero =>
            intro q hq
            obtain rfl : q = c := by omega
            refine Ev.step (f := fun _ => some (nI ((xs.drop (j * q)).take q), (0 : Int))) (fun k => ?_) (Ev.now _)
            rw [recoupref03_Row.l0, if_neg (by omega)]
          | succ d ih =>
            intro q hq
            have e1 : (xs.drop (j * c)).take (q + 1) = (xs.drop (j * c)).take q ++ [xs.getD (j * c + q) 0] := by
              rw [List.take_succ_eq_append_getElem (by rw [List.length_drop]; omega), List.getElem_drop]
              have : j * c + q < xs.length := by omega
              simp [List.getD, this]
            have hat : recoupref03_At.f (r : Int) (c : Int) (nI xs) (j : Int) (q : Int) = some ((xs.getD (j * c + q) 0).toNat : Int) := by
              unfold recoupref03_At.f
              rw [w64_place (by omega), if_pos (by omega), if_pos (by rw [nI_length]; omega), rd_nI]
            refine Ev.step (fun k => ?_) (ih (q + 1) (by omega))
            rw [recoupref03_Row.l0, if_pos (by omega), hat, Option.bind_some, if_pos (by rw [nI_length, List.length_take, List.length_drop]; omega), nI_snoc, ← e1, w64_succ (by omega)]
        refine Ev.step (fun k => ?_) (hloop c 0 (by omega))
        rw [recoupref03_Row.j0, if_neg (by simp)]
        rfl
theorem ofD_len (L : List (List UInt8)) : (ofD L).length ≤ 4096 := by
  unfold ofD
  split
  · rename_i h
    unfold ofB at h
    simp only [Bool.and_eq_true, decide_eq_true_eq] at h
    rw [catTo_len h.1.1.2 _ (Nat.le_refl _)]
    exact Nat.le_trans (Nat.mul_le_mul h.1.2 h.2) (by omega)
  · simp
theorem rows_pure (L : List (List UInt8)) (a b : Int) (xs : List UInt8) (i : Int) (hL : L.length ≤ 9223372036854775807) (hc : ofC L ≤ 9223372036854775807) (hl : xs.length ≤ 140737488355328) : ∃ k, recouplaw03_MatrixRows.f k (nIL L) a b (nI xs) i = some true := by
  refine Ev.rounds ?_
  unfold recouplaw03_MatrixRows.f
  have hd := ofD_len L
  obtain ⟨s, h1, h2⟩ := rows_same (ofR L) (ofK L) a b (nI (ofD L)) (nI xs) (by rw [nI_length]; omega) (by rw [nI_length]; exact hl)
  simp only [g_of, g_row, Option.bind_some]
  refine Ev.bind (pu_rof L hL hc) ?_
  refine Ev.bind (pu_rrow a b xs i hl) ?_
  simp only [rows_like, rows_eq, Option.bind_some, if_true, h1, h2, beq_self_eq_true, rows_self a b (nI xs) (by rw [nI_length]; exact hl), rows_right a b (nI xs) (by rw [nI_length]; exact hl)]
  exact Ev.now _
theorem ofC_bd {w : World} {B : Nat} {A : Option Addr} {L : List (List UInt8)} (h : RdL w B A L) : ofC L ≤ 9223372036854775807 := by
  rcases Nat.eq_zero_or_pos L.length with h0 | h0
  · obtain rfl := List.eq_nil_of_length_eq_zero h0
    simp [ofC]
  · obtain ⟨_, _, _, _, _, _, _, _, h2, _⟩ := h 0 h0
    exact h2
theorem matrixRows_calls (a0 : Option Addr) (n0 c0 : Nat) (L : List (List UInt8)) (a b : Int) (a1 : Option Addr) (n1 c1 : Nat) (xs : List UInt8) (i : Int) (w : World)
    (r0 : RdL w w.heap.size a0 L) (e0 : L.length = n0) (l0 : n0 ≤ c0) (m0 : c0 ≤ maxLen)
    (ba : -9223372036854775808 ≤ a ∧ a ≤ 9223372036854775807) (bb : -9223372036854775808 ≤ b ∧ b ≤ 9223372036854775807) (r1 : Rd w w.heap.size a1 n1 (bVs xs)) (l1 : n1 ≤ c1) (m1 : c1 ≤ 140737488351232) (bi : -9223372036854775808 ≤ i) (bi2 : i ≤ 9223372036854775807) :
    Calls Try.prog 5 #[.slice a0 n0 c0, mV a b a1 n1 c1, .int .i64 i] w fun e w' => e = .returned (.bool true) ∧ Below w.heap.size w w' := by
  subst e0
  unfold maxLen at m0
  obtain rfl : xs.length = n1 := by have := r1.len; rw [bVs_length] at this; exact this
  obtain ⟨k, h⟩ := rows_pure L a b xs i (by omega) (ofC_bd r0) (by omega)
  have hc := recouplaw03_MatrixRows.calls k a0 c0 (nIL L) a b a1 c1 (nI xs) i true w (C_of_RdL r0 (by omega)) (by rw [nIL_length]; exact l0) (C_of_rd r1 (by omega)) (by rw [nI_length]; exact l1) rfl h
  rw [nIL_length, nI_length] at hc
  exact hc
end Go.Proofs.Ytgcgajeagdaenaa
namespace Go.Proofs.Ytgcgajeagdaenaa.matrixRows
open Go.ChangeShapes Go.WideShapes Go.ChangeAt Go.RowKit

set_option linter.unusedVariables false

set_option maxRecDepth 100000 in
theorem lifted (os : Os) (started : os.Started) (H : Type) (enc : TypeId × Value → H) :
    ReturnsInHanded {} Try.checked os 5 .any (Rows.matrixRowsSpec.pre6 enc Try.prog Try.f5 Rows.matrixRowsRow.domain false) (Rows.matrixRowsSpec.post enc Try.prog Try.f5 false true false false) := by
  refine returnsInHanded_of_change_sized (C := Try.checked) own_knob started (by kernel_rfl) Try.func5
    (ChangeSpec.witness6 (enc := enc) (C := Try.checked) false ⟨#[], #[.slice none 0 0, .agg #[.int .i64 0, .int .i64 0, .slice none 0 0], .int .i64 0], []⟩ 8 (by kernel_rfl) (by kernel_rfl) (by kernel_rfl) (by kernel_rfl)) ?_
  intro W base args ds gs before hval0 hW hcnd hsz0 _
  have hsz : (DataW.weightsEach Try.prog (Try.f5.params.toList ++ Rows.matrixRowsSpec.plain.varTypes Try.prog) (ds ++ gs)).all (· ≤ reachBytes) = true := hsz0
  have hval : ∀ (j : Nat) t v, Try.f5.params[j]? = some t → args[j]? = some v → Value.okWide Try.prog W .any base t v := hval0
  have hW' := hW
  obtain ⟨p, q, hA0, hV, rfl, hfz, hnd⟩ := hW
  have hA : DataW.TrodAll enc Try.prog W 0 (fun _ => true) true Try.f5.params.toList args.toList ds p := hA0
  rw [Try.params5] at hA hval hsz
  obtain ⟨v0, vs0, d0, ds0, p0, q0, hargs, rfl, rfl, h0, r0⟩ := trodAll_cons hA
  obtain ⟨v1, vs1, d1, ds1, p1, q1, rfl, rfl, rfl, h1, r1⟩ := trodAll_cons r0
  obtain ⟨v2, vs2, d2, ds2, p2, q2, rfl, rfl, rfl, h2, r2⟩ := trodAll_cons r1
  obtain ⟨rfl, rfl, rfl⟩ := trodAll_nil r2
  obtain rfl : args = #[v0, v1, v2] := by cases args; simp_all
  obtain ⟨rfl, rfl⟩ := trodVars_none hV
  have k0 := h0
  have lt0 : ∀ x ∈ p0, x.block < W.heap.size := by obtain ⟨m, hm⟩ := k0; exact DataW.trod_lt m _ _ _ hm
  have k1 := h1
  have lt1 : ∀ x ∈ p1, x.block < W.heap.size := by obtain ⟨m, hm⟩ := k1; exact DataW.trod_lt m _ _ _ hm
  have k2 := h2
  have lt2 : ∀ x ∈ p2, x.block < W.heap.size := by obtain ⟨m, hm⟩ := k2; exact DataW.trod_lt m _ _ _ hm
  obtain ⟨a0, n0, c0, rfl⟩ := okWide_slice Try.underlying39 (hval 0 39 v0 rfl rfl)
  obtain ⟨x0, rd0, ln0, lc0, cm0⟩ := open_lists h0
  obtain ⟨mr1, mc1, a1, n1, cap1, x1, dd1, rfl, wr1, wc1, rd1, lc1, cm1, rfl, sz1⟩ := open_matrix (hval 1 24 v1 rfl rfl) h1
  have cr1 := sized_matrix hsz (j := 1) rfl rfl sz1
  obtain ⟨a2, rfl, rfl, rfl, w2⟩ := open_int Try.underlying3 (hval 2 3 v2 rfl rfl) h2
  clear hA0 hval0 hsz0
  refine (matrixRows_calls a0 n0 c0 x0 mr1 mc1 a1 n1 cap1 x1 a2 W rd0 ln0 lc0 cm0 (bounds_i64 wr1) (bounds_i64 wc1) rd1 lc1 cr1 (bounds_i64 w2).1 (bounds_i64 w2).2).mono fun e W' ⟨he, bel⟩ => ?_
  subst he
  exact ⟨_, rfl, _, _, _, [], _, [], hW', trodAll_mk1 (shut_bool Try.underlying4 _), (trodAll_cons_mk (Below.trod laid_out (by kernel_rfl) (of_decide_eq_true (by kernel_rfl)) k0 bel lt0) (trodAll_cons_mk (Below.trod laid_out (by kernel_rfl) (of_decide_eq_true (by kernel_rfl)) k1 bel lt1) (trodAll_cons_mk (shut_int Try.underlying3 w2) trodAll_mk0))), rfl, bel.frame _, fun h => by cases h⟩

theorem over : Rows.matrixRowsRow.holds Try.pinned (OpenSpec.ofChange Rows.matrixRowsSpec) :=
  OpenClaim.holds_of_wide 5 Try.f5 rfl rfl rfl rfl rfl rfl rfl ⟨rfl, rfl, rfl, rfl, rfl⟩ rfl rfl rfl rfl rfl (by kernel_rfl) Try.func5 (by kernel_rfl)
    (of_decide_eq_true (by kernel_rfl)) (by unfold Func.isWrapper; first | (rw [if_pos (by decide +kernel)]; kernel_rfl) | (rw [if_neg (by decide +kernel)]; exact ⟨rfl, rfl⟩))
    (fun os started H enc _ => lifted os started H enc)

theorem proved : Rows.MatrixRowsSaid := over
#print axioms proved
end Go.Proofs.Ytgcgajeagdaenaa.matrixRows
