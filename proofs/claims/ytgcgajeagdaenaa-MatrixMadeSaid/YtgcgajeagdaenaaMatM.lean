/- The walk of Make. -/
import Derived.Test.YtgcgajeagdaenaaMatB
import Derived.Test.YtgcgajeagdaenaaMatR
import Derived.Test.YtgcgajeagdaenaaMakeW
namespace Go.Proofs.Ytgcgajeagdaenaa
open Go.RowKit
set_option linter.unusedVariables false
set_option linter.unusedSimpArgs false

set_option maxHeartbeats 800000 in
theorem make_no (r c : Int) (w : World) (h : makeB r c = false) :
    Calls Try.prog 13 #[.int .i64 r, .int .i64 c] w fun e w' => e = .returned (.tuple #[mV 0 0 none 0 0, .int .i64 2]) ∧ Below w.heap.size w w' := by
  by_cases h1 : sideB r = true
  · have h2 : sideB c = false := by simpa [makeB, h1] using h
    clear h
    go_enter Try.func13, Try.ntmps13
    go_wp2_with (go_at_call 43; refine (side_calls _ _).mono ?_; rintro e w' ⟨rfl, rfl⟩)
    exact bodyPost_ret (v := .tuple #[mV 0 0 none 0 0, .int .i64 2]) (by simp [results, Try.results13, go_sem]) rfl ⟨rfl, (Below.refl _ _).alloc (Nat.le_refl _) _⟩
  · have h1 : sideB r = false := by simpa using h1
    clear h
    go_enter Try.func13, Try.ntmps13
    go_wp2_with (go_at_call 43; refine (side_calls _ _).mono ?_; rintro e w' ⟨rfl, rfl⟩)
    exact bodyPost_ret (v := .tuple #[mV 0 0 none 0 0, .int .i64 2]) (by simp [results, Try.results13, go_sem]) rfl ⟨rfl, (Below.refl _ _).alloc (Nat.le_refl _) _⟩
set_option maxHeartbeats 800000 in
theorem make_yes (r c p : Nat) (w : World) (hr : r ≤ 64) (hc : c ≤ 64) (hp : Hid (p = r * c)) :
    Calls Try.prog 13 #[.int .i64 (r : Int), .int .i64 (c : Int)] w fun e w' => ∃ A, e = .returned (.tuple #[mV r c A p p, .int .i64 0]) ∧ OwnB w' w.heap.size A p p (List.replicate p 0) ∧ Below w.heap.size w w' := by
  have h1 : sideB (r : Int) = true := by simp [sideB]; omega
  have h2 : sideB (c : Int) = true := by simp [sideB]; omega
  go_enter Try.func13, Try.ntmps13
  go_wp2_with (first | (go_at_call 43; refine (side_calls _ _).mono ?_; rintro e w' ⟨rfl, rfl⟩) | (go_at_call 44; refine (blank_calls r c p _ hr hc hp).mono ?_; rintro e w1 ⟨A, rfl, ho, hb⟩; obtain ⟨c0, c1, c2, f0, f1, f2⟩ := ((Row.new w [.int .i64 0, .int .i64 0, .slice none 0 0] 24).below hb (by simp)).three))
  refine bodyPost_ret (v := .tuple #[mV r c A p p, .int .i64 0]) (by simp [results, Try.results13, go_sem, c0, c1, c2]) rfl ⟨_, rfl, (ho.far3 (by simp) _ _ _).mono (by simp), below_set3 (((Below.refl _ _).alloc (Nat.le_refl _) _).trans (hb.mono (by simp))) (Nat.le_refl _) _ _ _⟩
end Go.Proofs.Ytgcgajeagdaenaa
