/- Walks of the laws FieldLogs, FieldQuotients, FieldInverts, FieldPowers, FieldExponents. -/
import Derived.Test.YtkalponomccaiaaRefP
import Derived.Test.YtkalponomccaiaaRefD
import Derived.Test.YtkalponomccaiaaFieldD
namespace Go.Proofs.Ytkalponomccaiaa
open Go.RowKit

theorem logZero_calls (w : World) : Calls Try.prog 17 #[.int .u8 0] w fun e w' => e = .returned (.tuple #[.int .i64 0, .int .i64 5]) ∧ Below w.heap.size w w' := log_calls 0 w

set_option maxRecDepth 100000 in
set_option maxHeartbeats 800000 in
theorem fieldLogs_calls (a b : UInt8) (w : World) :
    Calls Try.prog 5 #[.int .u8 (a.toNat : Int), .int .u8 (b.toNat : Int)] w fun e w' => e = .returned (.bool true) ∧ Below w.heap.size w w' := by
  have hbW : Below w.heap.size w w := Below.refl _ _
  have ha := u8_eq_zero a
  have hb := u8_eq_zero b
  by_cases h : a = 0 ∨ b = 0
  · by_cases h1 : a = 0
    all_goals
      first | rw [decide_eq_true h1] at ha | (have h2 := h.resolve_left h1; rw [decide_eq_true h2] at hb; rw [decide_eq_false h1] at ha; clear h2)
      clear h h1
      go_enter Try.func5, Try.ntmps5
      go_wp2_with (first | (go_at_call 17; (with_reducible refine (logZero_calls _).mono ?_); rintro e w2 ⟨rfl, hb2⟩; replace hbW := hbW.trans (hb2.mono hbW.size); clear hb2) | (go_at_call 16; refine (anchored_calls _).mono ?_; rintro e w' ⟨rfl, rfl⟩))
      go_ret
      exact ⟨rfl, hbW⟩
  · have h1 : a ≠ 0 := fun e => h (.inl e)
    have h2 : b ≠ 0 := fun e => h (.inr e)
    rw [decide_eq_false h2] at hb
    rw [decide_eq_false h1] at ha
    have l1 := Gf.lg_bd h1
    have l2 := Gf.lg_bd h2
    have c1 := log_calls a
    have c2 := log_calls b
    have c3 := log_calls (Gf.mul a b)
    have c4 := exp_calls (Gf.lg a)
    rw [show ((Gf.lg a : Int) % 255).toNat = Gf.lg a by omega, Gf.ex_lg h1] at c4
    rw [show Gf.lgZ a = Gf.lg a by unfold Gf.lgZ; rw [if_neg h1], show Gf.zeroE a = 0 by unfold Gf.zeroE; rw [if_neg h1]] at c1
    rw [show Gf.lgZ b = Gf.lg b by unfold Gf.lgZ; rw [if_neg h2], show Gf.zeroE b = 0 by unfold Gf.zeroE; rw [if_neg h2]] at c2
    rw [show Gf.lgZ (Gf.mul a b) = ((Gf.lg a : Int) + (Gf.lg b : Int)) % 255 by unfold Gf.lgZ; rw [if_neg (Gf.mul_ne h1 h2), Gf.lg_mul h1 h2]; omega, show Gf.zeroE (Gf.mul a b) = 0 by unfold Gf.zeroE; rw [if_neg (Gf.mul_ne h1 h2)]] at c3
    generalize Gf.lg a = x at *
    generalize Gf.lg b = y at *
    have C1 := Lib.hid c1
    have C2 := Lib.hid c2
    have C3 := Lib.hid c3
    have C4 := Lib.hid c4
    clear h h1 h2 c1 c2 c3 c4
    go_enter Try.func5, Try.ntmps5
    go_wp2_with fail
    refine (C1.out _).mono ?_; rintro e w2 ⟨rfl, hb2⟩; replace hbW := hbW.trans (hb2.mono hbW.size); clear hb2
    go_wp2_with fail
    refine (C2.out _).mono ?_; rintro e w2 ⟨rfl, hb2⟩; replace hbW := hbW.trans (hb2.mono hbW.size); clear hb2
    go_wp2_with (go_at_call 14; refine (mul_calls _ _ _).mono ?_; rintro e w' ⟨rfl, rfl⟩)
    refine (C3.out _).mono ?_; rintro e w2 ⟨rfl, hb2⟩; replace hbW := hbW.trans (hb2.mono hbW.size); clear hb2
    go_wp2_with (first | (go_at_call 18; refine (C4.out _).mono ?_; rintro e w2 ⟨rfl, hb2⟩; replace hbW := hbW.trans (hb2.mono hbW.size); clear hb2) | (go_at_call 16; refine (anchored_calls _).mono ?_; rintro e w' ⟨rfl, rfl⟩))
    go_ret
    exact ⟨rfl, hbW⟩

set_option maxHeartbeats 800000 in
theorem fieldQuotients_calls (a b : UInt8) (w : World) :
    Calls Try.prog 8 #[.int .u8 (a.toNat : Int), .int .u8 (b.toNat : Int)] w fun e w' => e = .returned (.bool true) ∧ Below w.heap.size w w' := by
  have hbW : Below w.heap.size w w := Below.refl _ _
  have hz : (Gf.invE b = 0 ∧ True) ∨ (Gf.invE b = 5 ∧ Gf.mul a (Gf.inv b) = 0) := by
    unfold Gf.invE
    by_cases h : b = 0
    · subst h; exact .inr ⟨rfl, Gf.mul_zero _⟩
    · exact .inl ⟨if_neg h, trivial⟩
  rcases hz with ⟨hz, _⟩ | ⟨hz, hm⟩
  · go_enter Try.func8, Try.ntmps8
    go_wp2_with (first | (go_at_call 23; refine (inv_calls _ _).mono ?_; rintro e w2 ⟨rfl, hb2⟩; replace hbW := hbW.trans (hb2.mono hbW.size); clear hb2) | (go_at_call 25; refine (div_calls _ _ _).mono ?_; rintro e w2 ⟨rfl, hb2⟩; replace hbW := hbW.trans (hb2.mono hbW.size); clear hb2) | (go_at_call 24; refine (refInv_calls _ _).mono ?_; rintro e w' ⟨rfl, rfl⟩) | (go_at_call 26; refine (refDiv_calls _ _ _).mono ?_; rintro e w' ⟨rfl, rfl⟩))
    go_ret
    exact ⟨rfl, hbW⟩
  · have hq : (((Gf.mul a (Gf.inv b)).toNat : Int) == 0) = true := by rw [hm]; rfl
    clear hm
    go_enter Try.func8, Try.ntmps8
    go_wp2_with (first | (go_at_call 23; refine (inv_calls _ _).mono ?_; rintro e w2 ⟨rfl, hb2⟩; replace hbW := hbW.trans (hb2.mono hbW.size); clear hb2) | (go_at_call 25; refine (div_calls _ _ _).mono ?_; rintro e w2 ⟨rfl, hb2⟩; replace hbW := hbW.trans (hb2.mono hbW.size); clear hb2) | (go_at_call 24; refine (refInv_calls _ _).mono ?_; rintro e w' ⟨rfl, rfl⟩) | (go_at_call 26; refine (refDiv_calls _ _ _).mono ?_; rintro e w' ⟨rfl, rfl⟩))
    go_ret
    exact ⟨rfl, hbW⟩

set_option maxHeartbeats 800000 in
theorem fieldInverts_calls (a b : UInt8) (w : World) :
    Calls Try.prog 9 #[.int .u8 (a.toNat : Int), .int .u8 (b.toNat : Int)] w fun e w' => e = .returned (.bool true) ∧ Below w.heap.size w w' := by
  have hbW : Below w.heap.size w w := Below.refl _ _
  have hb := u8_eq_zero b
  by_cases h : b = 0
  · rw [decide_eq_true h] at hb
    have hz : Gf.invE b = 5 := by unfold Gf.invE; rw [if_pos h]
    clear h
    go_enter Try.func9, Try.ntmps9
    go_wp2_with (first | (go_at_call 23; refine (inv_calls _ _).mono ?_; rintro e w2 ⟨rfl, hb2⟩; replace hbW := hbW.trans (hb2.mono hbW.size); clear hb2) | (go_at_call 25; refine (div_calls _ _ _).mono ?_; rintro e w2 ⟨rfl, hb2⟩; replace hbW := hbW.trans (hb2.mono hbW.size); clear hb2) | (go_at_call 16; refine (anchored_calls _).mono ?_; rintro e w' ⟨rfl, rfl⟩))
    go_ret
    exact ⟨rfl, hbW⟩
  · rw [decide_eq_false h] at hb
    have hz : Gf.invE b = 0 := by unfold Gf.invE; rw [if_neg h]
    have h1 : Gf.mul b (Gf.inv b) = 1 := Gf.mul_inv h
    have h2 : Gf.mul (Gf.mul a (Gf.inv b)) b = a := by rw [Gf.mul_assoc, Gf.inv_mul h, Gf.mul_one]
    have q1 : (((Gf.mul b (Gf.inv b)).toNat : Int) == 1) = true := by rw [h1]; rfl
    clear h h1
    go_enter Try.func9, Try.ntmps9
    go_wp2_with (first | (go_at_call 23; refine (inv_calls _ _).mono ?_; rintro e w2 ⟨rfl, hb2⟩; replace hbW := hbW.trans (hb2.mono hbW.size); clear hb2) | (go_at_call 25; refine (div_calls _ _ _).mono ?_; rintro e w2 ⟨rfl, hb2⟩; replace hbW := hbW.trans (hb2.mono hbW.size); clear hb2) | (go_at_call 14; refine (mul_calls _ _ _).mono ?_; rintro e w' ⟨rfl, rfl⟩) | (go_at_call 16; refine (anchored_calls _).mono ?_; rintro e w' ⟨rfl, rfl⟩))
    go_ret
    exact ⟨rfl, hbW⟩

set_option maxHeartbeats 800000 in
theorem fieldPowers_calls (a : UInt8) (n : Int) (w : World) (h0 : -9223372036854775808 ≤ n) (h1 : n ≤ 9223372036854775807) :
    Calls Try.prog 6 #[.int .u8 (a.toNat : Int), .int .i64 n] w fun e w' => e = .returned (.bool true) ∧ Below w.heap.size w w' := by
  have hbW : Below w.heap.size w w := Below.refl _ _
  have C1 := Lib.hid (fun w => pow_calls a n w h0 h1)
  clear h0 h1
  go_enter Try.func6, Try.ntmps6
  go_wp2_with (first | (go_at_call 19; refine (C1.out _).mono ?_; rintro e w2 ⟨rfl, hb2⟩; replace hbW := hbW.trans (hb2.mono hbW.size); clear hb2) | (go_at_call 17; refine (log_calls _ _).mono ?_; rintro e w2 ⟨rfl, hb2⟩; replace hbW := hbW.trans (hb2.mono hbW.size); clear hb2) | (go_at_call 18; refine (exp_calls _ _).mono ?_; rintro e w2 ⟨rfl, hb2⟩; replace hbW := hbW.trans (hb2.mono hbW.size); clear hb2) | (go_at_call 20; refine (refPow_calls _ _ _).mono ?_; rintro e w' ⟨rfl, rfl⟩) | (go_at_call 21; refine (refLog_calls _ _).mono ?_; rintro e w' ⟨rfl, rfl⟩) | (go_at_call 22; refine (refExp_calls _ _).mono ?_; rintro e w' ⟨rfl, rfl⟩))
  go_ret
  exact ⟨rfl, hbW⟩

end Go.Proofs.Ytkalponomccaiaa
