/- The walk of chapter 3's like: two answers that are the same. -/
import Derived.Test.YtgcgajeagdaenaaLike
namespace Go.Proofs.Ytgcgajeagdaenaa
open Go.RowKit
set_option linter.unusedVariables false
set_option linter.unusedSimpArgs false

set_option maxHeartbeats 800000 in
theorem like3_self (r c : Int) (A : Option Addr) (n ac : Nat) (e : Int) (B : Option Addr) (m bc : Nat) (xs : List UInt8) (w : World) (ha : Rd w w.heap.size A n (bVs xs)) (hb : Rd w w.heap.size B m (bVs xs)) :
    Calls Try.prog 19 #[mV r c A n ac, .int .i64 e, mV r c B m bc, .int .i64 e] w fun e w' => e = .returned (.bool true) ∧ Below w.heap.size w w' := by
  have hB : Below w.heap.size w ((w.alloc (Obj.cells #[.int .i64 r, .int .i64 c, .slice A n ac] 24)).alloc (Obj.cells #[.int .i64 r, .int .i64 c, .slice B m bc] 24)) := ((Below.refl _ _).alloc (Nat.le_refl _) _).alloc (by simp) _
  have ra := ha.go hB
  have rb := hb.go hB
  have HB := Lib.hid hB
  clear hB ha hb
  go_enter Try.func19, Try.ntmps19
  go_wp2_with (go_at_call 31; refine (like_self _ _ _ _ _ _ _ _ _ _ ra rb).mono ?_; rintro e w1 ⟨rfl, hb1⟩)
  go_ret
  exact ⟨rfl, HB.out.trans (hb1.mono HB.out.size)⟩
end Go.Proofs.Ytgcgajeagdaenaa
