/- Walks of the laws FieldProducts and FieldRing. -/
import Derived.Test.YtkalponomccaiaaRefMul
import Derived.OpenShut
namespace Go.Proofs.Ytkalponomccaiaa
open Go.RowKit

theorem u8_of {n : Int} (h : (Lit.int .u8 n).wf = true) : ∃ u : UInt8, n = (u.toNat : Int) := by
  have hb := bounds_u8 h
  refine ⟨UInt8.ofNat n.toNat, ?_⟩
  rw [UInt8.toNat_ofNat']
  omega
theorem u8_beq (a b : UInt8) : ((a.toNat : Int) == (b.toNat : Int)) = decide (a = b) := by
  rw [Bool.eq_iff_iff]
  simp only [beq_iff_eq, decide_eq_true_eq]
  exact ⟨fun h => UInt8.toNat_inj.1 (Int.ofNat_inj.1 h), fun h => by rw [h]⟩

set_option maxHeartbeats 400000 in
theorem fieldProducts_calls (a b : UInt8) (w : World) :
    Calls Try.prog 3 #[.int .u8 (a.toNat : Int), .int .u8 (b.toNat : Int)] w fun e w' => e = .returned (.bool true) ∧ w = w' := by
  have hx := bxor_u8 a b
  go_enter Try.func3, Try.ntmps3
  go_wp2_with (first | (go_at_call 13; refine (add_calls _ _ _).mono ?_; rintro e w' ⟨rfl, rfl⟩) | (go_at_call 14; refine (mul_calls _ _ _).mono ?_; rintro e w' ⟨rfl, rfl⟩) | (go_at_call 15; refine (refMul_calls _ _ _).mono ?_; rintro e w' ⟨rfl, rfl⟩))
  go_ret
  exact ⟨rfl, rfl⟩

theorem mul1_calls (a : UInt8) (w : World) : Calls Try.prog 14 #[.int .u8 (a.toNat : Int), .int .u8 1] w fun e w' => e = .returned (.int .u8 (a.toNat : Int)) ∧ w = w' := by
  have h := mul_calls a 1 w
  rw [Gf.mul_one] at h
  exact h

set_option maxHeartbeats 400000 in
theorem fieldRing_calls (a b c : UInt8) (w : World) :
    Calls Try.prog 4 #[.int .u8 (a.toNat : Int), .int .u8 (b.toNat : Int), .int .u8 (c.toNat : Int)] w fun e w' => e = .returned (.bool true) ∧ w = w' := by
  have h1 := Gf.mul_comm b a
  have h2 := Gf.mul_assoc a b c
  have h3 := Gf.mul_add a b c
  have hz : (((Gf.mul a b).toNat : Int) == 0) = (decide (a = 0) || decide (b = 0)) := by
    rw [u8_eq_zero, ← Bool.decide_or, Bool.eq_iff_iff]; simp [Gf.mul_eq_zero]
  have ha := u8_eq_zero a
  have hb := u8_eq_zero b
  have E : ∃ x y : Bool, decide (a = 0) = x ∧ decide (b = 0) = y := ⟨_, _, rfl, rfl⟩
  obtain ⟨x, y, hx, hy⟩ := E
  rw [hx, hy] at hz
  rw [hx] at ha
  rw [hy] at hb
  clear hx hy
  cases x <;> cases y
  all_goals
    go_enter Try.func4, Try.ntmps4
    go_wp2_with (first | (go_at_call 13; refine (add_calls _ _ _).mono ?_; rintro e w' ⟨rfl, rfl⟩) | (go_at_call 14; (first | (with_reducible refine (mul_calls _ _ _).mono ?_) | (with_reducible refine (mul1_calls _ _).mono ?_)); rintro e w' ⟨rfl, rfl⟩) | (go_at_call 16; refine (anchored_calls _).mono ?_; rintro e w' ⟨rfl, rfl⟩))
    go_ret
    exact ⟨rfl, rfl⟩
end Go.Proofs.Ytkalponomccaiaa
