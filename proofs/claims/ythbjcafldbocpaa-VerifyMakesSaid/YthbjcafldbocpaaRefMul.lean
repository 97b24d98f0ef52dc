/- Walk of the document's product. -/
import Derived.Test.YthbjcafldbocpaaWords
namespace Go.Proofs.Ythbjcafldbocpaa
open Go.RowKit
set_option linter.unusedVariables false
set_option linter.unusedSimpArgs false

theorem ofInt_i64 (a : Nat) (ha : a < 9223372036854775808) : (BitVec.ofInt 64 (a : Int)).toNat = a := by
  rw [BitVec.ofInt_natCast, BitVec.toNat_ofNat]; exact Nat.mod_eq_of_lt (by omega)
theorem i64_and_nat (a b : Nat) (ha : a < 9223372036854775808) (hb : b < 9223372036854775808) : bits .and .i64 (a : Int) (b : Int) = ((a &&& b : Nat) : Int) := by
  have hx : a &&& b < 2 ^ 63 := Nat.and_lt_two_pow _ (by omega)
  show IntKind.i64.wrap ((BitVec.ofInt 64 (a : Int) &&& BitVec.ofInt 64 (b : Int)).toNat : Int) = _
  rw [BitVec.toNat_and, ofInt_i64 a ha, ofInt_i64 b hb, IntKind.wrap_i64]
  omega
theorem i64_xor_nat (a b : Nat) (ha : a < 9223372036854775808) (hb : b < 9223372036854775808) : bits .xor .i64 (a : Int) (b : Int) = ((a ^^^ b : Nat) : Int) := by
  have hx : a ^^^ b < 2 ^ 63 := Nat.xor_lt_two_pow (by omega) (by omega)
  show IntKind.i64.wrap ((BitVec.ofInt 64 (a : Int) ^^^ BitVec.ofInt 64 (b : Int)).toNat : Int) = _
  rw [BitVec.toNat_xor, ofInt_i64 a ha, ofInt_i64 b hb, IntKind.wrap_i64]
  omega
theorem testb_u8 (b : UInt8) (i : Nat) : (bits BinOp.and IntKind.u8 ((b.toNat : Int) / 2 ^ i) 1 == 1) = b.toNat.testBit i := by
  have e : ((b.toNat : Int) / 2 ^ i) = ((b.toNat / 2 ^ i : Nat) : Int) := by simp
  have hb : b.toNat / 2 ^ i < 256 := Nat.lt_of_le_of_lt (Nat.div_le_self _ _) b.toNat_lt
  rw [e, show (1 : Int) = ((1 : Nat) : Int) from rfl, u8_and_nat _ _ hb (by decide), Nat.and_one_is_mod, Nat.testBit_eq_decide_div_mod_eq, Bool.eq_iff_iff]
  simp
  omega
theorem testb_i64 (p i : Nat) (hp : p < 2 ^ 15) : (bits BinOp.and IntKind.i64 ((p : Int) / 2 ^ i) 1 == 1) = p.testBit i := by
  have e : ((p : Int) / 2 ^ i) = ((p / 2 ^ i : Nat) : Int) := by simp
  have hb : p / 2 ^ i < 2 ^ 15 := Nat.lt_of_le_of_lt (Nat.div_le_self _ _) hp
  rw [e, show (1 : Int) = ((1 : Nat) : Int) from rfl, i64_and_nat _ _ (by omega) (by decide), Nat.and_one_is_mod, Nat.testBit_eq_decide_div_mod_eq, Bool.eq_iff_iff]
  simp
  omega
theorem shl_i64 (a i : Nat) (ha : a < 512) (hi : i < 8) : wrap64 (wrap64 (a : Int) * 2 ^ i) = ((a <<< i : Nat) : Int) := by
  have h1 : wrap64 (a : Int) = a := by unfold wrap64; omega
  have h2 : a * 2 ^ i ≤ 512 * 2 ^ 7 := Nat.mul_le_mul (by omega) (Nat.pow_le_pow_right (by omega) (by omega))
  have e : (a : Int) * 2 ^ i = ((a * 2 ^ i : Nat) : Int) := by simp
  rw [h1, Nat.shiftLeft_eq, e]
  unfold wrap64
  omega
theorem i64_eq {a b : Int} (h : a = b) : Value.int .i64 a = .int .i64 b := by rw [h]

theorem ref_step1 (a b : UInt8) (i : Nat) (hi : i < 8) (h : (bits BinOp.and IntKind.u8 ((b.toNat : Int) / 2 ^ i) 1 == 1) = true) :
    bits BinOp.xor IntKind.i64 (Gf.sumTo a.toNat b.toNat i : Int) (wrap64 (wrap64 (a.toNat : Int) * 2 ^ i)) = (Gf.sumTo a.toNat b.toNat (i + 1) : Int) := by
  rw [testb_u8] at h
  have h1 := Gf.sumTo_lt a.toNat b.toNat a.toNat_lt i (by omega)
  have ha := a.toNat_lt
  have h2 : a.toNat <<< i < 2 ^ 16 := by
    rw [Nat.shiftLeft_eq]
    have : a.toNat * 2 ^ i ≤ 255 * 2 ^ 7 := Nat.mul_le_mul (by omega) (Nat.pow_le_pow_right (by omega) (by omega))
    omega
  rw [shl_i64 _ _ (by omega) hi, i64_xor_nat _ _ (by omega) (by omega)]
  simp only [Gf.sumTo, h, if_true]
theorem ref_step0 (a b : UInt8) (i : Nat) (h : (bits BinOp.and IntKind.u8 ((b.toNat : Int) / 2 ^ i) 1 == 1) = false) :
    (Gf.sumTo a.toNat b.toNat i : Int) = (Gf.sumTo a.toNat b.toNat (i + 1) : Int) := by
  rw [testb_u8] at h
  simp [Gf.sumTo, h]
theorem ref_red1 (p i : Nat) (hp : p < 2 ^ 15) (h8 : 8 ≤ i) (hi : i ≤ 14) (h : (bits BinOp.and IntKind.i64 ((p : Int) / 2 ^ i) 1 == 1) = true) :
    bits BinOp.xor IntKind.i64 (p : Int) (wrap64 (285 * 2 ^ (i - 8))) = (Gf.redBit p i : Int) := by
  rw [testb_i64 _ _ hp] at h
  have e := shl_i64 285 (i - 8) (by omega) (by omega)
  have e1 : wrap64 ((285 : Nat) : Int) = 285 := by unfold wrap64; omega
  rw [e1] at e
  have h2 : 285 <<< (i - 8) < 2 ^ 16 := by
    rw [Nat.shiftLeft_eq]
    have : 285 * 2 ^ (i - 8) ≤ 285 * 2 ^ 6 := Nat.mul_le_mul (Nat.le_refl _) (Nat.pow_le_pow_right (by omega) (by omega))
    omega
  rw [e, i64_xor_nat _ _ (by omega) (by omega)]
  simp only [Gf.redBit, h, if_true]
theorem ref_red0 (p i : Nat) (hp : p < 2 ^ 15) (h : (bits BinOp.and IntKind.i64 ((p : Int) / 2 ^ i) 1 == 1) = false) : (p : Int) = (Gf.redBit p i : Int) := by
  rw [testb_i64 _ _ hp] at h
  simp [Gf.redBit, h]

set_option maxHeartbeats 400000 in
theorem refMul_calls (a b : UInt8) (w : World) :
    Calls Try.prog 47 #[.int .u8 (a.toNat : Int), .int .u8 (b.toNat : Int)] w fun e w' => e = .returned (.int .u8 ((Gf.mul a b).toNat : Int)) ∧ w = w' := by
  go_enter Try.func47, Try.ntmps47
  go_wp2_with fail
  go_loop [5, 6] (fun v5 v6 => ∃ i : Nat, i ≤ 8 ∧ v5 = .int .i64 (Gf.sumTo a.toNat b.toNat i : Int) ∧ v6 = .int .i64 (i : Int)) (fun _ v6 => 8 - (intOf v6).toNat)
  case atStart => exact ⟨0, by omega, rfl, rfl⟩
  case round =>
    obtain ⟨i, hi, rfl, rfl⟩ := hrel
    by_cases hlt : i < 8
    · go_wp2_with fail
      · go_round
        case rel => exact ⟨i + 1, by omega, i64_eq (ref_step1 a b i hlt ‹_›), by go_num⟩
        case measure => simp [intOf]; omega
      · go_round
        case rel => exact ⟨i + 1, by omega, i64_eq (ref_step0 a b i ‹_›), by go_num⟩
        case measure => simp [intOf]; omega
    · obtain rfl : i = 8 := by omega
      have HL := Gf.sumTo_lt a.toNat b.toNat a.toNat_lt 8 (by omega)
      have HM := Lib.hid (Gf.ref_mul a b)
      generalize Gf.sumTo a.toNat b.toNat 8 = s at *
      go_wp2_with fail
      go_loop [5, 7] (fun v5 v7 => ∃ (p n : Nat), n ≤ 7 ∧ p < 2 ^ 15 ∧ v5 = .int .i64 (p : Int) ∧ v7 = .int .i64 ((n + 7 : Nat) : Int) ∧ Hid (Gf.redFrom n p = Gf.redN s)) (fun _ v7 => (intOf v7).toNat)
      case atStart => exact ⟨s, 7, by omega, HL, rfl, rfl, rfl⟩
      case round =>
        obtain ⟨p, n, hn, hp, rfl, rfl, H⟩ := hrel
        by_cases hlt : 1 ≤ n
        · obtain ⟨m, rfl⟩ : ∃ m, n = m + 1 := ⟨n - 1, by omega⟩
          have hm : m + 1 + 7 = m + 8 := by omega
          rw [hm]
          go_wp2_with fail
          · go_round
            case rel => exact ⟨Gf.redBit p (m + 8), m, by omega, Gf.redBit_lt _ _ (by omega) hp, i64_eq (ref_red1 p (m + 8) hp (by omega) (by omega) ‹_›), by go_num, H⟩
            case measure => simp [intOf]; omega
          · go_round
            case rel => exact ⟨Gf.redBit p (m + 8), m, by omega, Gf.redBit_lt _ _ (by omega) hp, i64_eq (ref_red0 p (m + 8) hp ‹_›), by go_num, H⟩
            case measure => simp [intOf]; omega
        · obtain rfl : n = 0 := by omega
          go_wp2_with fail
          go_ret
          have h := H.out
          rw [HM.out] at h
          simp only [Gf.redFrom] at h
          have hl := (Gf.mul a b).toNat_lt
          exact ⟨ret_u8 (by omega), rfl⟩

end Go.Proofs.Ythbjcafldbocpaa
