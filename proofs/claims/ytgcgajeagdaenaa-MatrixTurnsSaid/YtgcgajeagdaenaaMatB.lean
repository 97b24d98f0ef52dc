/- The walk of blank. -/
import Derived.Test.YtgcgajeagdaenaaMatW
namespace Go.Proofs.Ytgcgajeagdaenaa
open Go.RowKit
set_option linter.unusedVariables false
set_option linter.unusedSimpArgs false

set_option maxHeartbeats 800000 in
theorem blank_calls (r c : Nat) (p : Nat) (w : World) (hr : r ≤ 64) (hc : c ≤ 64) (hp : Hid (p = r * c)) :
    Calls Try.prog 44 #[.int .i64 (r : Int), .int .i64 (c : Int)] w fun e w' => ∃ A, e = .returned (mV r c A p p) ∧ OwnB w' w.heap.size A p p (List.replicate p 0) ∧ Below w.heap.size w w' := by
  have hb : p ≤ 4096 := by
    rw [hp.out]
    exact Nat.le_trans (Nat.mul_le_mul hr hc) (by omega)
  have e1 : IntKind.i64.wrap ((r : Int) * (c : Int)) = (p : Int) := by rw [IntKind.wrap_i64, hp.out, Int.natCast_mul]; have := prod_bd (r := r) (c := c) (by omega) (by omega) (by omega) (by omega); omega
  have hmk := make_bytes p (by omega)
  go_enter Try.func44, Try.ntmps44
  go_wp2_with fail
  have hrow := row_made_bytes (w.alloc (Obj.cells #[Value.int IntKind.i64 (r : Int), Value.int IntKind.i64 (c : Int), Value.slice (some ⟨w.heap.size + 1, 0, none⟩) p p] 24)) p
  rw [World.size_alloc] at hrow
  refine bodyPost_ret (v := mV r c (some ⟨w.heap.size + 1, 0, none⟩) p p) (by simp [results, Try.results44, go_sem]) rfl ⟨_, rfl, hrow.ownB (by omega) (by simp) (by simp only [maxLen]; omega), ((Below.refl _ _).alloc (Nat.le_refl _) _).alloc (by simp) _⟩
/-- the same, the new row by its block -/
theorem blank_row (r c : Nat) (p : Nat) (w : World) (hr : r ≤ 64) (hc : c ≤ 64) (hp : Hid (p = r * c)) :
    Calls Try.prog 44 #[.int .i64 (r : Int), .int .i64 (c : Int)] w fun e w' => ∃ g, e = .returned (mV r c (some ⟨g, 0, none⟩) p p) ∧ Row w' g 5 (bVs (List.replicate p 0)) ∧ w.heap.size ≤ g ∧ Below w.heap.size w w' := by
  have hb : p ≤ 4096 := by
    rw [hp.out]
    exact Nat.le_trans (Nat.mul_le_mul hr hc) (by omega)
  have e1 : IntKind.i64.wrap ((r : Int) * (c : Int)) = (p : Int) := by rw [IntKind.wrap_i64, hp.out, Int.natCast_mul]; have := prod_bd (r := r) (c := c) (by omega) (by omega) (by omega) (by omega); omega
  have hmk := make_bytes p (by omega)
  go_enter Try.func44, Try.ntmps44
  go_wp2_with fail
  have hrow := row_made_bytes (w.alloc (Obj.cells #[Value.int IntKind.i64 (r : Int), Value.int IntKind.i64 (c : Int), Value.slice (some ⟨w.heap.size + 1, 0, none⟩) p p] 24)) p
  rw [World.size_alloc] at hrow
  refine bodyPost_ret (v := mV r c (some ⟨w.heap.size + 1, 0, none⟩) p p) (by simp [results, Try.results44, go_sem]) rfl ⟨_, rfl, hrow, by omega, ((Below.refl _ _).alloc (Nat.le_refl _) _).alloc (by simp) _⟩
end Go.Proofs.Ytgcgajeagdaenaa
