/- The walk of looker.reg. -/
import Derived.Test.YthbjcafldbocpaaVneed
namespace Go.Proofs.Ythbjcafldbocpaa
open Go.RowKit
set_option linter.unusedVariables false
set_option linter.unusedSimpArgs false

theorem reg_yes (gk gr gs r nr : Nat) (w : World) (c1 : w.cell? ⟨gk, 1, none⟩ = some (.int .i64 (nr : Int))) (c6 : w.cell? ⟨gk, 6, none⟩ = some (.slice (some ⟨gr, 0, none⟩) nr nr)) (c7 : w.cell? ⟨gk, 7, none⟩ = some (.slice (some ⟨gs, 0, none⟩) nr nr))
    (hr : r < nr) (hs : w.cell? ⟨gs, r, none⟩ = some (.bool true)) :
    Calls Try.prog 76 #[.pointer (some ⟨gk, 0, none⟩), .int .i64 (r : Int)] w fun e w' => e = .returned (.pointer (some ⟨gr, r * 64, none⟩)) ∧ w' = w := by
  have h1 : decide ((r : Int) < (nr : Int)) = true := decide_eq_true (by omega)
  go_enter Try.func76, Try.ntmps76
  go_wp2_with fail
  refine (need_yes _).mono ?_
  rintro e w' ⟨rfl, rfl⟩
  go_wp2_with fail
  go_ret
  exact ⟨rfl, rfl⟩
theorem reg_unset (gk gs r nr : Nat) (w : World) (c1 : w.cell? ⟨gk, 1, none⟩ = some (.int .i64 (nr : Int))) (c7 : w.cell? ⟨gk, 7, none⟩ = some (.slice (some ⟨gs, 0, none⟩) nr nr))
    (hr : r < nr) (hs : w.cell? ⟨gs, r, none⟩ = some (.bool false)) :
    Calls Try.prog 76 #[.pointer (some ⟨gk, 0, none⟩), .int .i64 (r : Int)] w fun e w' => e = .panicked giveUp ∧ w' = w := by
  have h1 : decide ((r : Int) < (nr : Int)) = true := decide_eq_true (by omega)
  go_enter Try.func76, Try.ntmps76
  go_wp2_with fail
  refine (need_no _).mono ?_
  rintro e w' ⟨rfl, rfl⟩
  go_wp2_with fail
  exact ⟨rfl, rfl, rfl⟩
theorem reg_far (gk gs r nr : Nat) (w : World) (c1 : w.cell? ⟨gk, 1, none⟩ = some (.int .i64 (nr : Int))) (hr : nr ≤ r) :
    Calls Try.prog 76 #[.pointer (some ⟨gk, 0, none⟩), .int .i64 (r : Int)] w fun e w' => e = .panicked giveUp ∧ w' = w := by
  have h1 : decide ((r : Int) < (nr : Int)) = false := decide_eq_false (by omega)
  go_enter Try.func76, Try.ntmps76
  go_wp2_with fail
  refine (need_no _).mono ?_
  rintro e w' ⟨rfl, rfl⟩
  go_wp2_with fail
  exact ⟨rfl, rfl, rfl⟩
end Go.Proofs.Ythbjcafldbocpaa
