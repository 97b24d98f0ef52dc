/- The walk of the document's Make. -/
import Derived.Test.YtgcgajeagdaenaaRMatZ
import Derived.Test.YtgcgajeagdaenaaMakeW
namespace Go.Proofs.Ytgcgajeagdaenaa
open Go.RowKit
set_option linter.unusedVariables false
set_option linter.unusedSimpArgs false

set_option maxHeartbeats 800000 in
theorem refMake_no (r c : Int) (w : World) (h : makeB r c = false) :
    Calls Try.prog 14 #[.int .i64 r, .int .i64 c] w fun e w' => e = .returned (.tuple #[mV 0 0 none 0 0, .int .i64 2]) ∧ Below w.heap.size w w' := by
  have h' : r < 0 ∨ 64 < r ∨ c < 0 ∨ 64 < c := by simp [makeB, sideB] at h; omega
  clear h
  by_cases a1 : r < 0
  · have d1 : decide (r < 0) = true := by simpa using a1
    clear h'
    go_enter Try.func14, Try.ntmps14
    go_wp2_with fail
    exact bodyPost_ret (v := .tuple #[mV 0 0 none 0 0, .int .i64 2]) (by simp [results, Try.results14, go_sem]) rfl ⟨rfl, (Below.refl _ _).alloc (Nat.le_refl _) _⟩
  have d1 : decide (r < 0) = false := by simpa using a1
  by_cases a2 : 64 < r
  · have d2 : decide (64 < r) = true := by simpa using a2
    clear h'
    go_enter Try.func14, Try.ntmps14
    go_wp2_with fail
    exact bodyPost_ret (v := .tuple #[mV 0 0 none 0 0, .int .i64 2]) (by simp [results, Try.results14, go_sem]) rfl ⟨rfl, (Below.refl _ _).alloc (Nat.le_refl _) _⟩
  have d2 : decide (64 < r) = false := by simpa using a2
  by_cases a3 : c < 0
  · have d3 : decide (c < 0) = true := by simpa using a3
    clear h'
    go_enter Try.func14, Try.ntmps14
    go_wp2_with fail
    exact bodyPost_ret (v := .tuple #[mV 0 0 none 0 0, .int .i64 2]) (by simp [results, Try.results14, go_sem]) rfl ⟨rfl, (Below.refl _ _).alloc (Nat.le_refl _) _⟩
  have d3 : decide (c < 0) = false := by simpa using a3
  · have a4 : 64 < c := by omega
    have d4 : decide (64 < c) = true := by simpa using a4
    clear h'
    go_enter Try.func14, Try.ntmps14
    go_wp2_with fail
    exact bodyPost_ret (v := .tuple #[mV 0 0 none 0 0, .int .i64 2]) (by simp [results, Try.results14, go_sem]) rfl ⟨rfl, (Below.refl _ _).alloc (Nat.le_refl _) _⟩
set_option maxHeartbeats 800000 in
theorem refMake_yes (r c p : Nat) (w : World) (hr : r ≤ 64) (hc : c ≤ 64) (hp : Hid (p = r * c)) :
    Calls Try.prog 14 #[.int .i64 (r : Int), .int .i64 (c : Int)] w fun e w' => ∃ A, e = .returned (.tuple #[mV r c A p p, .int .i64 0]) ∧ OwnB w' w.heap.size A p p (List.replicate p 0) ∧ Below w.heap.size w w' := by
  have d1 : decide ((r : Int) < 0) = false := by simp
  have d2 : decide ((64 : Int) < (r : Int)) = false := by simp; omega
  have d3 : decide ((c : Int) < 0) = false := by simp
  have d4 : decide ((64 : Int) < (c : Int)) = false := by simp; omega
  go_enter Try.func14, Try.ntmps14
  go_wp2_with (first | (go_at_call 45; refine (refZero_calls r c p _ hr hc hp).mono ?_; rintro e w1 ⟨A, rfl, ho, hb⟩; obtain ⟨c0, c1, c2, f0, f1, f2⟩ := ((Row.new w [.int .i64 0, .int .i64 0, .slice none 0 0] 24).below hb (by simp)).three))
  refine bodyPost_ret (v := .tuple #[mV r c A p p, .int .i64 0]) (by simp [results, Try.results14, go_sem, c0, c1, c2]) rfl ⟨_, rfl, (ho.far3 (by simp) _ _ _).mono (by simp), below_set3 (((Below.refl _ _).alloc (Nat.le_refl _) _).trans (hb.mono (by simp))) (Nat.le_refl _) _ _ _⟩
end Go.Proofs.Ytgcgajeagdaenaa
