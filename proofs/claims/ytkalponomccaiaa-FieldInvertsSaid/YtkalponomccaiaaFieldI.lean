/- Walks of Inv and Div. -/
import Derived.Test.YtkalponomccaiaaFieldT
namespace Go.Proofs.Ytkalponomccaiaa
open Go.RowKit

/-- the error of an inverse, as a number -/
def Gf.invE (a : UInt8) : Int := if a = 0 then 5 else 0
theorem pw_inv (a : UInt8) : Gf.pw a (-1) = Gf.inv a := by
  unfold Gf.pw Gf.inv
  rw [if_neg (by decide)]
  by_cases h : a = 0
  · rw [if_pos h, if_pos h]
  · rw [if_neg h, if_neg h]
    have hm : ((-1 : Int) % 255).toNat = 254 := by decide
    rw [hm]
    have h1 := Gf.lg_bd h
    rw [← Gf.ex_mod (255 - Gf.lg a)]
    congr 1
    omega
theorem powE_inv (a : UInt8) : Gf.powE a (-1) = Gf.invE a := by
  unfold Gf.powE Gf.invE
  by_cases h : a = 0 <;> simp [h]

set_option maxHeartbeats 400000 in
theorem inv_calls (a : UInt8) (w : World) :
    Calls Try.prog 23 #[.int .u8 (a.toNat : Int)] w fun e w' => e = .returned (.tuple #[.int .u8 ((Gf.inv a).toNat : Int), .int .i64 (Gf.invE a)]) ∧ Below w.heap.size w w' := by
  have hp := pow_calls a (-1) w (by omega) (by omega)
  rw [pw_inv, powE_inv] at hp
  have HP := Lib.hid hp
  clear hp
  go_enter Try.func23, Try.ntmps23
  go_wp2_with (go_at_call 19; refine HP.out.mono ?_; rintro e w1 ⟨rfl, hb1⟩)
  go_ret2
  exact ⟨rfl, hb1⟩

end Go.Proofs.Ytkalponomccaiaa
