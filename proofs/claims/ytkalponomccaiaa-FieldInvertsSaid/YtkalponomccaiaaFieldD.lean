/- Walk of Div. -/
import Derived.Test.YtkalponomccaiaaFieldI
namespace Go.Proofs.Ytkalponomccaiaa
open Go.RowKit

set_option maxHeartbeats 400000 in
theorem div_calls (a b : UInt8) (w : World) :
    Calls Try.prog 25 #[.int .u8 (a.toNat : Int), .int .u8 (b.toNat : Int)] w fun e w' => e = .returned (.tuple #[.int .u8 ((Gf.mul a (Gf.inv b)).toNat : Int), .int .i64 (Gf.invE b)]) ∧ Below w.heap.size w w' := by
  by_cases hz : b = 0
  · have h1 := Lib.hid (show Gf.mul a (Gf.inv b) = 0 by rw [hz, Gf.inv_zero, Gf.mul_zero])
    have h2 : Gf.invE b = 5 := by unfold Gf.invE; rw [if_pos hz]
    have hi := inv_calls b w
    rw [h2] at hi
    have HI := Lib.hid hi
    have H2 := Lib.hid h2
    clear hz h2 hi
    go_enter Try.func25, Try.ntmps25
    go_wp2_with (go_at_call 23; refine HI.out.mono ?_; rintro e w1 ⟨rfl, hb1⟩)
    go_ret2
    exact ⟨by rw [h1.out, H2.out]; rfl, hb1⟩
  · have h2 : Gf.invE b = 0 := by unfold Gf.invE; rw [if_neg hz]
    have hi := inv_calls b w
    rw [h2] at hi
    have HI := Lib.hid hi
    have H2 := Lib.hid h2
    clear hz h2 hi
    go_enter Try.func25, Try.ntmps25
    go_wp2_with (first | (go_at_call 23; refine HI.out.mono ?_; rintro e w1 ⟨rfl, hb1⟩) | (go_at_call 14; refine (mul_calls _ _ _).mono ?_; rintro e w' ⟨rfl, rfl⟩))
    go_ret2
    exact ⟨by rw [H2.out]; rfl, hb1⟩

end Go.Proofs.Ytkalponomccaiaa
