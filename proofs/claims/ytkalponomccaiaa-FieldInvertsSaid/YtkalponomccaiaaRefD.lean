/- Walk of the document's quotient. -/
import Derived.Test.YtkalponomccaiaaRefI
namespace Go.Proofs.Ytkalponomccaiaa
open Go.RowKit

set_option maxHeartbeats 400000 in
theorem refDiv_calls (a b : UInt8) (w : World) :
    Calls Try.prog 26 #[.int .u8 (a.toNat : Int), .int .u8 (b.toNat : Int)] w fun e w' => e = .returned (.tuple #[.int .u8 ((Gf.mul a (Gf.inv b)).toNat : Int), .int .i64 (Gf.invE b)]) ∧ w = w' := by
  go_enter Try.func26, Try.ntmps26
  go_wp2_with (first | (go_at_call 24; refine (refInv_calls _ _).mono ?_; rintro e w' ⟨rfl, rfl⟩) | (go_at_call 15; refine (refMul_calls _ _ _).mono ?_; rintro e w' ⟨rfl, rfl⟩))
  go_ret2
  exact ⟨rfl, rfl⟩

end Go.Proofs.Ytkalponomccaiaa
