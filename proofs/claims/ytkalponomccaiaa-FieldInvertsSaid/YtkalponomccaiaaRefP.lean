/- Walks of the document's powers and exponents. -/
import Derived.Test.YtkalponomccaiaaRefMul
import Derived.Test.YtkalponomccaiaaFieldE
namespace Go.Proofs.Ytkalponomccaiaa
open Go.RowKit

set_option maxHeartbeats 400000 in
theorem times_calls (a : UInt8) (n : Nat) (hn : n < 255) (w : World) :
    Calls Try.prog 40 #[.int .u8 (a.toNat : Int), .int .i64 (n : Int)] w fun e w' => e = .returned (.int .u8 ((Gf.npow a n).toNat : Int)) ∧ w = w' := by
  go_enter Try.func40, Try.ntmps40
  go_wp2_with fail
  go_loop [5, 6] (fun v5 v6 => ∃ i : Nat, i ≤ n ∧ v5 = .int .u8 ((Gf.npow a i).toNat : Int) ∧ v6 = .int .i64 (i : Int)) (fun _ v6 => n - (intOf v6).toNat)
  case atStart => exact ⟨0, by omega, rfl, rfl⟩
  case round =>
    obtain ⟨i, hi, rfl, rfl⟩ := hrel
    by_cases hlt : i < n
    · go_wp2_with (go_at_call 15; refine (refMul_calls _ _ _).mono ?_; rintro e w' ⟨rfl, rfl⟩)
      go_round
      case rel => exact ⟨i + 1, by omega, rfl, by go_num⟩
      case measure => simp [intOf]; omega
    · obtain rfl : i = n := by omega
      go_wp2_with fail
      go_ret
      exact ⟨rfl, rfl⟩

theorem tmod_lo (n : Int) (h : n.tmod 255 < 0) : wrap64 (n.tmod 255 + 255) = n % 255 := by
  have h1 := Int.tmod_eq_emod (a := n) (b := 255)
  have := Int.emod_lt_of_pos n (show (0 : Int) < 255 by omega)
  have := Int.emod_nonneg n (show (255 : Int) ≠ 0 by omega)
  unfold wrap64
  rw [h1] at h ⊢
  split at h <;> split <;> omega
theorem tmod_hi (n : Int) (h : ¬ n.tmod 255 < 0) : n.tmod 255 = n % 255 := by
  have h1 := Int.tmod_eq_emod (a := n) (b := 255)
  have := Int.emod_lt_of_pos n (show (0 : Int) < 255 by omega)
  have := Int.emod_nonneg n (show (255 : Int) ≠ 0 by omega)
  rw [h1] at h ⊢
  split at h <;> split <;> omega

set_option maxHeartbeats 400000 in
theorem refPow_calls (a : UInt8) (n : Int) (w : World) :
    Calls Try.prog 20 #[.int .u8 (a.toNat : Int), .int .i64 n] w fun e w' => e = .returned (.tuple #[.int .u8 ((Gf.pw a n).toNat : Int), .int .i64 (Gf.powE a n)]) ∧ w = w' := by
  have ha := u8_eq_zero a
  by_cases hz : a = 0
  · rw [decide_eq_true hz] at ha
    by_cases hlt : n < 0
    · have hd : decide (n < 0) = true := by simpa using hlt
      have h1 := Lib.hid (show Gf.pw a n = 0 by unfold Gf.pw; rw [if_neg (by omega), if_pos hz])
      have h2 := Lib.hid (show Gf.powE a n = 5 by unfold Gf.powE; rw [if_pos ⟨hz, hlt⟩])
      clear hz
      go_enter Try.func20, Try.ntmps20
      go_wp2_with fail
      go_ret2
      exact ⟨by rw [h1.out, h2.out]; rfl, rfl⟩
    · have hd : decide (n < 0) = false := by simpa using hlt
      have h2 := Lib.hid (show Gf.powE a n = 0 by unfold Gf.powE; rw [if_neg (fun h => hlt h.2)])
      by_cases hn : n = 0
      · have h1 := Lib.hid (show Gf.pw a n = 1 by unfold Gf.pw; rw [if_pos hn])
        have hq : (n == 0) = true := by simpa using hn
        clear hz hn
        go_enter Try.func20, Try.ntmps20
        go_wp2_with fail
        go_ret2
        exact ⟨by rw [h1.out, h2.out]; rfl, rfl⟩
      · have h1 := Lib.hid (show Gf.pw a n = 0 by unfold Gf.pw; rw [if_neg hn, if_pos hz])
        have hq : (n == 0) = false := by simpa using hn
        clear hz hn
        go_enter Try.func20, Try.ntmps20
        go_wp2_with fail
        go_ret2
        exact ⟨by rw [h1.out, h2.out]; rfl, rfl⟩
  · rw [decide_eq_false hz] at ha
    have h2 := Lib.hid (show Gf.powE a n = 0 by unfold Gf.powE; rw [if_neg (fun h => hz h.1)])
    have h1 := Lib.hid (show Gf.npow a (n % 255).toNat = Gf.pw a n by rw [Gf.npow_ex hz, Gf.pw_ne hz])
    have m0 : 0 ≤ n % 255 := Int.emod_nonneg _ (by omega)
    have m1 : n % 255 < 255 := Int.emod_lt_of_pos _ (by omega)
    obtain ⟨m, hm⟩ : ∃ m : Nat, n % 255 = (m : Int) := ⟨(n % 255).toNat, by omega⟩
    rw [hm, Int.toNat_natCast] at h1
    have hk : m < 255 := by omega
    by_cases hlt : n.tmod 255 < 0
    · have e1 := tmod_lo n hlt
      have hd : decide (n.tmod 255 < 0) = true := by simpa using hlt
      rw [hm] at e1
      clear hz m0 m1 hm hlt
      go_enter Try.func20, Try.ntmps20
      go_wp2_with (go_at_call 40; refine (times_calls _ _ hk _).mono ?_; rintro e w' ⟨rfl, rfl⟩)
      go_ret2
      exact ⟨by rw [← h1.out, h2.out]; rfl, rfl⟩
    · have e1 := tmod_hi n hlt
      have hd : decide (n.tmod 255 < 0) = false := by simpa using hlt
      rw [hm] at e1
      rw [e1] at hd
      clear hz m0 m1 hm hlt
      go_enter Try.func20, Try.ntmps20
      go_wp2_with (go_at_call 40; refine (times_calls _ _ hk _).mono ?_; rintro e w' ⟨rfl, rfl⟩)
      go_ret2
      exact ⟨by rw [← h1.out, h2.out]; rfl, rfl⟩

theorem pw_two (n : Int) : Gf.pw 2 n = Gf.ex (n % 255).toNat := by
  have h2 : (2 : UInt8) ≠ 0 := by decide
  rw [Gf.pw_ne h2]
  have : Gf.lg 2 = 1 := by decide
  rw [this, Nat.one_mul]
theorem refPow2_calls (n : Int) (w : World) :
    Calls Try.prog 20 #[.int .u8 2, .int .i64 n] w fun e w' => e = .returned (.tuple #[.int .u8 ((Gf.ex (n % 255).toNat).toNat : Int), .int .i64 0]) ∧ w = w' := by
  have h := refPow_calls 2 n w
  rw [pw_two] at h
  have h2 : Gf.powE 2 n = 0 := by unfold Gf.powE; rw [if_neg (fun h => absurd h.1 (by decide))]
  rw [h2] at h
  exact h
set_option maxHeartbeats 400000 in
theorem refExp_calls (n : Int) (w : World) :
    Calls Try.prog 22 #[.int .i64 n] w fun e w' => e = .returned (.int .u8 ((Gf.ex (n % 255).toNat).toNat : Int)) ∧ w = w' := by
  go_enter Try.func22, Try.ntmps22
  go_wp2_with (go_at_call 20; refine (refPow2_calls _ _).mono ?_; rintro e w' ⟨rfl, rfl⟩)
  go_ret
  exact ⟨rfl, rfl⟩

theorem u8_beq' (a b : UInt8) : ((a.toNat : Int) == (b.toNat : Int)) = decide (a = b) := by
  rw [Bool.eq_iff_iff]
  simp only [beq_iff_eq, decide_eq_true_eq]
  exact ⟨fun h => UInt8.toNat_inj.1 (Int.ofNat_inj.1 h), fun h => by rw [h]⟩
theorem refMul2_calls (a : UInt8) (w : World) : Calls Try.prog 15 #[.int .u8 (a.toNat : Int), .int .u8 2] w fun e w' => e = .returned (.int .u8 ((Gf.dbl a).toNat : Int)) ∧ w = w' := by
  have h := refMul_calls a 2 w
  rw [Gf.mul_two] at h
  exact h
set_option maxRecDepth 100000 in
set_option maxHeartbeats 400000 in
theorem refLog_calls (a : UInt8) (w : World) :
    Calls Try.prog 21 #[.int .u8 (a.toNat : Int)] w fun e w' => e = .returned (.tuple #[.int .i64 (Gf.lgZ a), .int .i64 (Gf.zeroE a)]) ∧ w = w' := by
  go_enter Try.func21, Try.ntmps21
  go_wp2_with fail
  go_loop [4, 5] (fun v4 v5 => ∃ (p : UInt8) (n : Nat), n ≤ 255 ∧ v4 = .int .u8 (p.toNat : Int) ∧ v5 = .int .i64 (n : Int) ∧ Hid (p = Gf.ex n ∧ ∀ i, i < n → Gf.ex i ≠ a)) (fun _ v5 => 255 - (intOf v5).toNat)
  case atStart => exact ⟨1, 0, by omega, rfl, rfl, rfl, fun i h => by omega⟩
  case round =>
    obtain ⟨p, n, hn, rfl, rfl, H⟩ := hrel
    by_cases hlt : n < 255
    · have hq := u8_beq' p a
      by_cases hm : p = a
      · rw [decide_eq_true hm] at hq
        have ha : a ≠ 0 := by rw [← hm, H.out.1]; exact Gf.ex_ne n
        have hl : Gf.lg a = n := by rw [← hm, H.out.1, Gf.lg_ex, Nat.mod_eq_of_lt hlt]
        have h1 := Lib.hid (show Gf.lgZ a = n by unfold Gf.lgZ; rw [if_neg ha, hl])
        have h2 := Lib.hid (show Gf.zeroE a = 0 by unfold Gf.zeroE; rw [if_neg ha])
        clear hm ha hl
        go_wp2_with fail
        go_ret2
        exact ⟨by rw [h1.out, h2.out]; rfl, rfl⟩
      · rw [decide_eq_false hm] at hq
        have HM := Lib.hid hm
        clear hm
        go_wp2_with (go_at_call 15; refine (refMul2_calls _ _).mono ?_; rintro e w' ⟨rfl, rfl⟩)
        go_round
        case rel =>
          refine ⟨Gf.dbl p, n + 1, by omega, rfl, by go_num, by rw [H.out.1]; rfl, fun i hi => ?_⟩
          by_cases e : i = n
          · rw [e, ← H.out.1]; exact HM.out
          · exact H.out.2 i (by omega)
        case measure => simp [intOf]; omega
    · obtain rfl : n = 255 := by omega
      have hz : a = 0 := by
        by_cases h : a = 0
        · exact h
        · exact absurd (Gf.ex_lg h) (H.out.2 _ (Gf.lg_bd h))
      have h1 := Lib.hid (show Gf.lgZ a = 0 by unfold Gf.lgZ; rw [if_pos hz])
      have h2 := Lib.hid (show Gf.zeroE a = 5 by unfold Gf.zeroE; rw [if_pos hz])
      clear hz
      go_wp2_with fail
      go_ret2
      exact ⟨by rw [h1.out, h2.out]; rfl, rfl⟩

end Go.Proofs.Ytkalponomccaiaa
