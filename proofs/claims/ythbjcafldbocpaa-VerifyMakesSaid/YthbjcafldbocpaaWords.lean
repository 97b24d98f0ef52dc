/- Words on bytes; the walk of double. -/
import Derived.Test.YthbjcafldbocpaaProg
import Derived.Test.YthbjcafldbocpaaGf
import Derived.WalkKit
import Derived.WalkSpells
import Derived.WalkLawsBesides
import Derived.Lib.Hide
import Derived.Laws.BitsAllLaws
namespace Go.Proofs.Ythbjcafldbocpaa
open Go.RowKit
set_option linter.unusedVariables false
set_option linter.unusedSimpArgs false

theorem ret_u8 {a b : Int} (h : a = b) : Ending.returned (.int .u8 a) = .returned (.int .u8 b) := by rw [h]
theorem band_u8 (a b : UInt8) : bits .and .u8 (a.toNat : Int) (b.toNat : Int) = ((a &&& b).toNat : Int) := by
  rw [u8_and_nat _ _ a.toNat_lt b.toNat_lt, UInt8.toNat_and]
theorem bxor_u8 (a b : UInt8) : bits .xor .u8 (a.toNat : Int) (b.toNat : Int) = ((Gf.add a b).toNat : Int) := by
  unfold Gf.add
  rw [u8_xor_nat _ _ a.toNat_lt b.toNat_lt, UInt8.toNat_xor]
theorem toNat_zero (a : UInt8) : a.toNat = 0 ↔ a = 0 := UInt8.toNat_inj (b := 0)
theorem u8_eq_zero (a : UInt8) : ((a.toNat : Int) == 0) = decide (a = 0) := by
  rw [Bool.eq_iff_iff]; simp [toNat_zero]
theorem u8_shr1 (b : UInt8) : (b >>> 1).toNat = b.toNat / 2 := by
  rw [UInt8.toNat_shiftRight]; simp [Nat.shiftRight_eq_div_pow]
theorem double_yes : ∀ n, n < 256 → (bits BinOp.and IntKind.u8 ((UInt8.ofNat n).toNat : Int) 128 != 0) = true → bits BinOp.xor IntKind.u8 (((UInt8.ofNat n).toNat : Int) * 2 % 256) 29 = ((Gf.dbl (UInt8.ofNat n)).toNat : Int) := by decide +kernel
theorem double_no : ∀ n, n < 256 → (bits BinOp.and IntKind.u8 ((UInt8.ofNat n).toNat : Int) 128 != 0) = false → (((UInt8.ofNat n).toNat : Int) * 2 % 256) = ((Gf.dbl (UInt8.ofNat n)).toNat : Int) := by decide +kernel

set_option maxHeartbeats 400000 in
theorem double_calls (a : UInt8) (w : World) :
    Calls Try.prog 78 #[.int .u8 (a.toNat : Int)] w fun e w' => e = .returned (.int .u8 ((Gf.dbl a).toNat : Int)) ∧ w = w' := by
  go_enter Try.func78, Try.ntmps78
  go_wp2_with fail
  · go_ret
    exact ⟨ret_u8 (Gf.all_u8 (P := fun a => (bits BinOp.and IntKind.u8 (a.toNat : Int) 128 != 0) = true → bits BinOp.xor IntKind.u8 ((a.toNat : Int) * 2 % 256) 29 = ((Gf.dbl a).toNat : Int)) double_yes a ‹_›), rfl⟩
  · go_ret
    exact ⟨ret_u8 (Gf.all_u8 (P := fun a => (bits BinOp.and IntKind.u8 (a.toNat : Int) 128 != 0) = false → ((a.toNat : Int) * 2 % 256) = ((Gf.dbl a).toNat : Int)) double_no a ‹_›), rfl⟩

theorem shr_one_u8 (b : UInt8) : ((b >>> 1).toNat : Int) = (b.toNat : Int) / 2 := by
  rw [u8_shr1]; omega
theorem Gf.mulTo_zero (n : Nat) : ∀ a p, Gf.mulTo n a 0 p = p := by
  induction n with
  | zero => intro a p; rfl
  | succ n ih => intro a p; simp only [Gf.mulTo]; rw [if_pos (by decide)]; exact ih _ _
theorem and_one_u8 (b : UInt8) : (bits .and .u8 (b.toNat : Int) 1 != 0) = !decide (b &&& 1 = 0) := by
  have := band_u8 b 1
  rw [show ((1 : UInt8).toNat : Int) = 1 from rfl] at this
  rw [this]
  show (!(((b &&& 1).toNat : Int) == 0)) = _
  rw [u8_eq_zero]

end Go.Proofs.Ythbjcafldbocpaa
