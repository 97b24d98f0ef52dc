/- Walk of the document's inverse. -/
import Derived.Test.YtkalponomccaiaaRefMul
import Derived.Test.YtkalponomccaiaaFieldI
namespace Go.Proofs.Ytkalponomccaiaa
open Go.RowKit

theorem u8_beq (a b : UInt8) : ((a.toNat : Int) == (b.toNat : Int)) = decide (a = b) := by
  rw [Bool.eq_iff_iff]
  simp only [beq_iff_eq, decide_eq_true_eq]
  exact ⟨fun h => UInt8.toNat_inj.1 (Int.ofNat_inj.1 h), fun h => by rw [h]⟩
theorem u8_one (a : UInt8) : ((a.toNat : Int) == 1) = decide (a = 1) := u8_beq a 1
theorem u8_nat (n : Nat) (h : n < 256) : ∃ u : UInt8, u.toNat = n := ⟨UInt8.ofNat n, by rw [UInt8.toNat_ofNat']; omega⟩

set_option maxRecDepth 100000 in
set_option maxHeartbeats 400000 in
theorem refInv_calls (a : UInt8) (w : World) :
    Calls Try.prog 24 #[.int .u8 (a.toNat : Int)] w fun e w' => e = .returned (.tuple #[.int .u8 ((Gf.inv a).toNat : Int), .int .i64 (Gf.invE a)]) ∧ w = w' := by
  go_enter Try.func24, Try.ntmps24
  go_wp2_with fail
  go_loop [4] (fun v4 => ∃ b : Nat, 1 ≤ b ∧ b ≤ 256 ∧ v4 = .int .i64 (b : Int) ∧ Hid (∀ u : UInt8, 1 ≤ u.toNat → u.toNat < b → Gf.mul a u ≠ 1)) (fun v4 => 256 - (intOf v4).toNat)
  case atStart => exact ⟨1, by omega, by omega, rfl, fun u h1 h2 => by omega⟩
  case round =>
    obtain ⟨b, hb1, hb2, rfl, HB⟩ := hrel
    by_cases hlt : b < 256
    · obtain ⟨u, rfl⟩ := u8_nat b hlt
      have hq := u8_one (Gf.mul a u)
      have hw : (u.toNat : Int) % 256 = (u.toNat : Int) := by omega
      by_cases hm : Gf.mul a u = 1
      · rw [decide_eq_true hm] at hq
        have H1 := Lib.hid (Gf.inv_unique hm)
        have H2 := Lib.hid (show Gf.invE a = 0 by unfold Gf.invE; rw [if_neg (by rintro rfl; rw [Gf.mul_zero_left] at hm; exact absurd hm (by decide))])
        clear hm
        go_wp2_with (go_at_call 15; refine (refMul_calls _ _ _).mono ?_; rintro e w' ⟨rfl, rfl⟩)
        go_ret2
        exact ⟨by rw [← H1.out, H2.out]; rfl, rfl⟩
      · rw [decide_eq_false hm] at hq
        have HM := Lib.hid hm
        clear hm
        go_wp2_with (go_at_call 15; refine (refMul_calls _ _ _).mono ?_; rintro e w' ⟨rfl, rfl⟩)
        go_round
        case rel =>
          refine ⟨u.toNat + 1, by omega, by omega, by go_num, fun v h1 h2 => ?_⟩
          by_cases e : v.toNat = u.toNat
          · rw [UInt8.toNat_inj.1 e]; exact HM.out
          · exact HB.out v h1 (by omega)
        case measure => simp [intOf]; omega
    · obtain rfl : b = 256 := by omega
      have hz : a = 0 := by
        by_cases h : a = 0
        · exact h
        · have h1 := HB.out (Gf.inv a) (Nat.pos_of_ne_zero fun e => Gf.inv_ne h ((toNat_zero _).1 e)) (Gf.inv a).toNat_lt
          exact absurd (Gf.mul_inv h) h1
      have H1 := Lib.hid (show Gf.inv a = 0 by rw [hz]; rfl)
      have H2 := Lib.hid (show Gf.invE a = 5 by unfold Gf.invE; rw [if_pos hz])
      clear hz
      go_wp2_with fail
      go_ret2
      exact ⟨by rw [H1.out, H2.out]; rfl, rfl⟩

end Go.Proofs.Ytkalponomccaiaa
