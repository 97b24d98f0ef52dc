/- The walk of the document's Like: two matrices that are the same. -/
import Derived.Test.YtgcgajeagdaenaaMatW
import Derived.Test.YtgcgajeagdaenaaSame
namespace Go.Proofs.Ytgcgajeagdaenaa
open Go.RowKit
set_option linter.unusedVariables false
set_option linter.unusedSimpArgs false

theorem same_self (A : Option Addr) (n ac : Nat) (B : Option Addr) (m bc : Nat) (xs : List UInt8) (w : World) (ha : Rd w w.heap.size A n (bVs xs)) (hb : Rd w w.heap.size B m (bVs xs)) :
    Calls Try.prog 26 #[.slice A n ac, .slice B m bc] w fun e w' => e = .returned (.bool true) ∧ w = w' := by
  have h := same_calls A n ac B m bc xs xs w ha hb
  rw [sameB_self] at h
  exact h
set_option maxHeartbeats 800000 in
theorem like_self (r c : Int) (A : Option Addr) (n ac : Nat) (B : Option Addr) (m bc : Nat) (xs : List UInt8) (w : World) (ha : Rd w w.heap.size A n (bVs xs)) (hb : Rd w w.heap.size B m (bVs xs)) :
    Calls Try.prog 31 #[mV r c A n ac, mV r c B m bc] w fun e w' => e = .returned (.bool true) ∧ Below w.heap.size w w' := by
  have hB : Below w.heap.size w ((w.alloc (Obj.cells #[.int .i64 r, .int .i64 c, .slice A n ac] 24)).alloc (Obj.cells #[.int .i64 r, .int .i64 c, .slice B m bc] 24)) := ((Below.refl _ _).alloc (Nat.le_refl _) _).alloc (by simp) _
  have ra := ha.go hB
  have rb := hb.go hB
  have HB := Lib.hid hB
  clear hB ha hb
  go_enter Try.func31, Try.ntmps31
  go_wp2_with (go_at_call 26; refine (same_self _ _ _ _ _ _ _ _ ra rb).mono ?_; rintro e w' ⟨rfl, rfl⟩)
  go_ret
  exact ⟨rfl, HB.out⟩
end Go.Proofs.Ytgcgajeagdaenaa
