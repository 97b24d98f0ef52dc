/- The walk of the law FieldExponents. -/
import Derived.Test.YtkalponomccaiaaFieldT
namespace Go.Proofs.Ytkalponomccaiaa
open Go.RowKit

theorem mod_lin (L p q r : Nat) (h : p + q = r ∨ p + q = r + 255) : (L * p + L * q) % 255 = L * r % 255 := by
  rw [← Nat.mul_add]
  rcases h with h | h
  · rw [h]
  · rw [h, Nat.mul_add, Nat.mul_comm L 255, Nat.add_mul_mod_self_left]
theorem pw_add {a : UInt8} (h : a ≠ 0) (m n : Int) : Gf.mul (Gf.pw a m) (Gf.pw a n) = Gf.pw a (m + n) := by
  rw [Gf.pw_ne h, Gf.pw_ne h, Gf.pw_ne h, Gf.ex_add, ← Gf.ex_mod, ← Gf.ex_mod (Gf.lg a * _)]
  congr 1
  apply mod_lin
  omega
theorem pw_nz {a : UInt8} (h : a ≠ 0) (m : Int) : Gf.pw a m ≠ 0 := by rw [Gf.pw_ne h]; exact Gf.ex_ne _
theorem mul_mod_nat (m n : Int) : ((m * n) % 255).toNat = ((m % 255).toNat * (n % 255).toNat) % 255 := by
  have hm := Int.emod_nonneg m (show (255 : Int) ≠ 0 by omega)
  have hn := Int.emod_nonneg n (show (255 : Int) ≠ 0 by omega)
  obtain ⟨p, hp⟩ : ∃ p : Nat, m % 255 = (p : Int) := ⟨(m % 255).toNat, by omega⟩
  obtain ⟨q, hq⟩ : ∃ q : Nat, n % 255 = (q : Int) := ⟨(n % 255).toNat, by omega⟩
  rw [Int.mul_emod, hp, hq, Int.toNat_natCast, Int.toNat_natCast, ← Int.natCast_mul]
  omega
theorem pw_mul {a : UInt8} (h : a ≠ 0) (m n : Int) : Gf.pw (Gf.pw a m) n = Gf.pw a (m * n) := by
  rw [Gf.pw_ne (pw_nz h m), Gf.pw_ne h, Gf.pw_ne h, Gf.lg_ex, mul_mod_nat, ← Gf.ex_mod, ← Gf.ex_mod (Gf.lg a * _)]
  congr 1
  rw [Nat.mod_mul_mod, ← Nat.mul_mod_mod (Gf.lg a), Nat.mod_mod, Nat.mul_mod_mod, Nat.mul_assoc]
theorem powE_ne {a : UInt8} (h : a ≠ 0) (m : Int) : Gf.powE a m = 0 := by unfold Gf.powE; rw [if_neg (fun e => h e.1)]
theorem pow00_calls (w : World) : Calls Try.prog 19 #[.int .u8 0, .int .i64 0] w fun e w' => e = .returned (.tuple #[.int .u8 1, .int .i64 0]) ∧ Below w.heap.size w w' :=
  pow_calls 0 0 w (by omega) (by omega)
theorem mul_bd8 (m n : Int) (h1 : -128 ≤ m) (h2 : m ≤ 127) (h3 : -128 ≤ n) (h4 : n ≤ 127) : -16384 ≤ m * n ∧ m * n ≤ 16384 := by
  have h : (m * n).natAbs ≤ 128 * 128 := by
    rw [Int.natAbs_mul]
    exact Nat.mul_le_mul (by omega) (by omega)
  omega

set_option maxHeartbeats 800000 in
theorem fieldExponents_calls (a : UInt8) (m n : Int) (w : World) (h1 : -128 ≤ m) (h2 : m ≤ 127) (h3 : -128 ≤ n) (h4 : n ≤ 127) :
    Calls Try.prog 7 #[.int .u8 (a.toNat : Int), .int .i8 m, .int .i8 n] w fun e w' => e = .returned (.bool true) ∧ Below w.heap.size w w' := by
  have hbW : Below w.heap.size w w := Below.refl _ _
  have ha := u8_eq_zero a
  by_cases h : a = 0
  · rw [decide_eq_true h] at ha
    clear h
    go_enter Try.func7, Try.ntmps7
    go_wp2_with (first | (go_at_call 19; (with_reducible refine (pow00_calls _).mono ?_); rintro e w2 ⟨rfl, hb2⟩; replace hbW := hbW.trans (hb2.mono hbW.size); clear hb2) | (go_at_call 16; refine (anchored_calls _).mono ?_; rintro e w' ⟨rfl, rfl⟩))
    go_ret
    exact ⟨rfl, hbW⟩
  · rw [decide_eq_false h] at ha
    have hmn := mul_bd8 m n h1 h2 h3 h4
    have e1 : IntKind.i64.wrap (m * n) = m * n := by rw [IntKind.wrap_i64]; omega
    have q1 := pw_add h m n
    have q2 := pw_mul h m n
    have c1 := fun w => pow_calls a m w (by omega) (by omega)
    have c2 := fun w => pow_calls a n w (by omega) (by omega)
    have c3 := fun w => pow_calls a (m + n) w (by omega) (by omega)
    have c4 := fun w => pow_calls (Gf.pw a m) n w (by omega) (by omega)
    have c5 := fun w => pow_calls a (m * n) w (by omega) (by omega)
    simp only [powE_ne h] at c1 c2 c3 c5
    simp only [powE_ne (pw_nz h m)] at c4
    have C1 := Lib.hid c1
    have C2 := Lib.hid c2
    have C3 := Lib.hid c3
    have C4 := Lib.hid c4
    have C5 := Lib.hid c5
    clear h c1 c2 c3 c4 c5 hmn
    go_enter Try.func7, Try.ntmps7
    go_wp2_with fail
    refine (C1.out _).mono ?_; rintro e w2 ⟨rfl, hb2⟩; replace hbW := hbW.trans (hb2.mono hbW.size); clear hb2
    go_wp2_with fail
    refine (C2.out _).mono ?_; rintro e w2 ⟨rfl, hb2⟩; replace hbW := hbW.trans (hb2.mono hbW.size); clear hb2
    go_wp2_with fail
    refine (C3.out _).mono ?_; rintro e w2 ⟨rfl, hb2⟩; replace hbW := hbW.trans (hb2.mono hbW.size); clear hb2
    go_wp2_with fail
    refine (C4.out _).mono ?_; rintro e w2 ⟨rfl, hb2⟩; replace hbW := hbW.trans (hb2.mono hbW.size); clear hb2
    go_wp2_with fail
    refine (C5.out _).mono ?_; rintro e w2 ⟨rfl, hb2⟩; replace hbW := hbW.trans (hb2.mono hbW.size); clear hb2
    go_wp2_with (first | (go_at_call 14; refine (mul_calls _ _ _).mono ?_; rintro e w' ⟨rfl, rfl⟩) | (go_at_call 16; refine (anchored_calls _).mono ?_; rintro e w' ⟨rfl, rfl⟩))
    go_ret
    exact ⟨rfl, hbW⟩

end Go.Proofs.Ytkalponomccaiaa
