/- Walks of the field's small functions. -/
import Derived.Test.YtkalponomccaiaaProg
import Derived.Test.YtkalponomccaiaaGf
import Derived.WalkKit
import Derived.WalkSpells
import Derived.WalkLawsBesides
import Derived.Lib.Hide
import Derived.Laws.BitsAllLaws
namespace Go.Proofs.Ytkalponomccaiaa
open Go.RowKit

theorem ret_u8 {a b : Int} (h : a = b) : Ending.returned (.int .u8 a) = .returned (.int .u8 b) := by rw [h]
theorem band_u8 (a b : UInt8) : bits .and .u8 (a.toNat : Int) (b.toNat : Int) = ((a &&& b).toNat : Int) := by
  rw [u8_and_nat _ _ a.toNat_lt b.toNat_lt, UInt8.toNat_and]
theorem bxor_u8 (a b : UInt8) : bits .xor .u8 (a.toNat : Int) (b.toNat : Int) = ((Gf.add a b).toNat : Int) := by
  unfold Gf.add
  rw [u8_xor_nat _ _ a.toNat_lt b.toNat_lt, UInt8.toNat_xor]
theorem toNat_zero (a : UInt8) : a.toNat = 0 ↔ a = 0 := UInt8.toNat_inj (b := 0)
theorem u8_eq_zero (a : UInt8) : ((a.toNat : Int) == 0) = decide (a = 0) := by
  rw [Bool.eq_iff_iff]; simp [toNat_zero]
theorem u8_shr1 (b : UInt8) : (b >>> 1).toNat = b.toNat / 2 := by
  rw [UInt8.toNat_shiftRight]; simp [Nat.shiftRight_eq_div_pow]
theorem double_yes : ∀ n, n < 256 → (bits BinOp.and IntKind.u8 ((UInt8.ofNat n).toNat : Int) 128 != 0) = true → bits BinOp.xor IntKind.u8 (((UInt8.ofNat n).toNat : Int) * 2 % 256) 29 = ((Gf.dbl (UInt8.ofNat n)).toNat : Int) := by decide +kernel
theorem double_no : ∀ n, n < 256 → (bits BinOp.and IntKind.u8 ((UInt8.ofNat n).toNat : Int) 128 != 0) = false → (((UInt8.ofNat n).toNat : Int) * 2 % 256) = ((Gf.dbl (UInt8.ofNat n)).toNat : Int) := by decide +kernel

set_option maxHeartbeats 400000 in
theorem double_calls (a : UInt8) (w : World) :
    Calls Try.prog 37 #[.int .u8 (a.toNat : Int)] w fun e w' => e = .returned (.int .u8 ((Gf.dbl a).toNat : Int)) ∧ w = w' := by
  go_enter Try.func37, Try.ntmps37
  go_wp2_with fail
  · go_ret
    exact ⟨ret_u8 (Gf.all_u8 (P := fun a => (bits BinOp.and IntKind.u8 (a.toNat : Int) 128 != 0) = true → bits BinOp.xor IntKind.u8 ((a.toNat : Int) * 2 % 256) 29 = ((Gf.dbl a).toNat : Int)) double_yes a ‹_›), rfl⟩
  · go_ret
    exact ⟨ret_u8 (Gf.all_u8 (P := fun a => (bits BinOp.and IntKind.u8 (a.toNat : Int) 128 != 0) = false → ((a.toNat : Int) * 2 % 256) = ((Gf.dbl a).toNat : Int)) double_no a ‹_›), rfl⟩

set_option maxHeartbeats 400000 in
theorem add_calls (a b : UInt8) (w : World) :
    Calls Try.prog 13 #[.int .u8 (a.toNat : Int), .int .u8 (b.toNat : Int)] w fun e w' => e = .returned (.int .u8 ((Gf.add a b).toNat : Int)) ∧ w = w' := by
  go_enter Try.func13, Try.ntmps13
  go_wp2_with fail
  go_ret
  exact ⟨ret_u8 (bxor_u8 a b), rfl⟩

theorem shr_one_u8 (b : UInt8) : ((b >>> 1).toNat : Int) = (b.toNat : Int) / 2 := by
  rw [u8_shr1]; omega
theorem Gf.mulTo_zero (n : Nat) : ∀ a p, Gf.mulTo n a 0 p = p := by
  induction n with
  | zero => intro a p; rfl
  | succ n ih => intro a p; simp only [Gf.mulTo]; rw [if_pos (by decide)]; exact ih _ _
theorem and_one_u8 (b : UInt8) : (bits .and .u8 (b.toNat : Int) 1 != 0) = !decide (b &&& 1 = 0) := by
  have := band_u8 b 1
  rw [show ((1 : UInt8).toNat : Int) = 1 from rfl] at this
  rw [this]
  show (!(((b &&& 1).toNat : Int) == 0)) = _
  rw [u8_eq_zero]

set_option maxHeartbeats 400000 in
theorem mul_calls (a b : UInt8) (w : World) :
    Calls Try.prog 14 #[.int .u8 (a.toNat : Int), .int .u8 (b.toNat : Int)] w fun e w' => e = .returned (.int .u8 ((Gf.mul a b).toNat : Int)) ∧ w = w' := by
  go_enter Try.func14, Try.ntmps14
  go_wp2_with fail
  go_loop [0, 1, 5] (fun v0 v1 v5 => ∃ (n : Nat) (x y p : UInt8), v0 = .int .u8 (x.toNat : Int) ∧ v1 = .int .u8 (y.toNat : Int) ∧ v5 = .int .u8 (p.toNat : Int) ∧ Hid (Gf.mulTo n x y p = Gf.mul a b ∧ y.toNat < 2 ^ n)) (fun _ v1 _ => (intOf v1).toNat)
  case atStart => exact ⟨8, a, b, 0, rfl, rfl, rfl, rfl, b.toNat_lt⟩
  case round =>
    obtain ⟨n, x, y, p, rfl, rfl, rfl, H⟩ := hrel
    by_cases hy : y = 0
    · have hy1 : ((y.toNat : Int) != 0) = false := by show (!((y.toNat : Int) == 0)) = false; rw [u8_eq_zero, hy]; rfl
      have HY := Lib.hid hy
      clear hy
      go_wp2_with fail
      go_ret
      obtain ⟨H1, _⟩ := H.out
      rw [HY.out, Gf.mulTo_zero] at H1
      exact ⟨ret_u8 (by rw [H1]), rfl⟩
    · have hy1 : ((y.toNat : Int) != 0) = true := by show (!((y.toNat : Int) == 0)) = true; rw [u8_eq_zero, decide_eq_false hy]; rfl
      have hpos : 0 < y.toNat := Nat.pos_of_ne_zero (fun h => hy ((toNat_zero y).1 h))
      have hs := shr_one_u8 y
      obtain ⟨m, rfl⟩ : ∃ m, n = m + 1 := by
        cases n with
        | zero => exact absurd H.out.2 (by simp; omega)
        | succ m => exact ⟨m, rfl⟩
      have HS := Lib.hid hs
      clear hs
      by_cases h1 : y &&& 1 = 0
      · have hb : (bits .and .u8 (y.toNat : Int) 1 != 0) = false := by rw [and_one_u8, h1]; rfl
        have H1 := Lib.hid h1
        clear h1 hy
        go_wp2_with (go_at_call 37; refine (double_calls _ _).mono ?_; rintro e w' ⟨rfl, rfl⟩)
        go_round
        case rel =>
          refine ⟨m, Gf.dbl x, y >>> 1, p, rfl, by rw [HS.out], rfl, ?_, ?_⟩
          · have h := H.out.1
            simp only [Gf.mulTo, H1.out, if_true] at h
            exact h
          · have h := H.out.2
            rw [u8_shr1]
            omega
        case measure => simp [intOf]; omega
      · have hb : (bits .and .u8 (y.toNat : Int) 1 != 0) = true := by rw [and_one_u8, decide_eq_false h1]; rfl
        have H1 := Lib.hid h1
        clear h1 hy
        go_wp2_with (go_at_call 37; refine (double_calls _ _).mono ?_; rintro e w' ⟨rfl, rfl⟩)
        go_round
        case rel =>
          refine ⟨m, Gf.dbl x, y >>> 1, Gf.add p x, rfl, by rw [HS.out], by rw [bxor_u8], ?_, ?_⟩
          · have h := H.out.1
            simp only [Gf.mulTo] at h
            rw [if_neg H1.out] at h
            exact h
          · have h := H.out.2
            rw [u8_shr1]
            omega
        case measure => simp [intOf]; omega

set_option maxHeartbeats 400000 in
theorem anchored_calls (w : World) :
    Calls Try.prog 16 #[] w fun e w' => e = .returned (.bool true) ∧ w = w' := by
  have h1 := mul_calls 2 128
  have h2 := add_calls 5 3
  have e1 : Gf.mul 2 128 = 29 := by decide
  have e2 : Gf.add 5 3 = 6 := by decide
  rw [e1] at h1
  rw [e2] at h2
  have H1 := Lib.hid h1
  have H2 := Lib.hid h2
  clear h1 h2 e1 e2
  go_enter Try.func16, Try.ntmps16
  go_wp2_with (first | (go_at_call 14; refine (H1.out _).mono ?_; rintro e w' ⟨rfl, rfl⟩) | (go_at_call 13; refine (H2.out _).mono ?_; rintro e w' ⟨rfl, rfl⟩))
  go_ret
  exact ⟨rfl, rfl⟩

end Go.Proofs.Ytkalponomccaiaa
