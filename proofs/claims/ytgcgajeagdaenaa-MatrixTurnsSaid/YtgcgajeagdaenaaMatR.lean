/- Walks of side, Right. -/
import Derived.Test.YtgcgajeagdaenaaMatW
namespace Go.Proofs.Ytgcgajeagdaenaa
open Go.RowKit
set_option linter.unusedVariables false
set_option linter.unusedSimpArgs false

set_option maxHeartbeats 400000 in
theorem side_calls (n : Int) (w : World) : Calls Try.prog 43 #[.int .i64 n] w fun e w' => e = .returned (.bool (sideB n)) ∧ w = w' := by
  by_cases h1 : 0 ≤ n
  · by_cases h2 : n ≤ 64
    · have H := Lib.hid (show sideB n = true by simp [sideB, h1, h2])
      have d1 : decide (0 ≤ n) = true := by simpa using h1
      have d2 : decide (n ≤ 64) = true := by simpa using h2
      go_enter Try.func43, Try.ntmps43
      go_wp2_with fail
      go_ret
      exact ⟨by rw [H.out]; rfl, rfl⟩
    · have H := Lib.hid (show sideB n = false by simp [sideB, h1, h2])
      have d1 : decide (0 ≤ n) = true := by simpa using h1
      have d2 : decide (n ≤ 64) = false := by simpa using h2
      go_enter Try.func43, Try.ntmps43
      go_wp2_with fail
      go_ret
      exact ⟨by rw [H.out]; rfl, rfl⟩
  · have H := Lib.hid (show sideB n = false by simp [sideB, h1])
    have d1 : decide (0 ≤ n) = false := by simpa using h1
    go_enter Try.func43, Try.ntmps43
    go_wp2_with fail
    go_ret
    exact ⟨by rw [H.out]; rfl, rfl⟩
set_option maxRecDepth 100000 in
set_option maxHeartbeats 800000 in
theorem right_calls (r c : Int) (A : Option Addr) (n cap : Nat) (w : World) : Calls Try.prog 17 #[mV r c A n cap] w fun e w' => e = .returned (.bool (rightB r c n)) ∧ Below w.heap.size w w' := by
  by_cases hr : sideB r = true
  · by_cases hc : sideB c = true
    · have h1 : 0 ≤ r ∧ r ≤ 64 := by simpa [sideB] using hr
      have h2 : 0 ≤ c ∧ c ≤ 64 := by simpa [sideB] using hc
      obtain ⟨p, hp⟩ : ∃ p, p = r * c := ⟨_, rfl⟩
      have hb := prod_bd h1.1 h1.2 h2.1 h2.2
      have e1 : IntKind.i64.wrap (r * c) = p := by rw [IntKind.wrap_i64, hp]; omega
      have H := Lib.hid (show rightB r c n = decide ((n : Int) = p) by rw [hp]; simp [rightB, h1, h2])
      clear h1 h2 hb hp
      by_cases hn : (n : Int) = p
      · have q : ((n : Int) == p) = true := by simpa using hn
        have HN := Lib.hid (show decide ((n : Int) = p) = true by simpa using hn)
        clear hn
        go_enter Try.func17, Try.ntmps17
        go_wp2_with (go_at_call 43; refine (side_calls _ _).mono ?_; rintro e w' ⟨rfl, rfl⟩)
        go_ret
        exact ⟨by rw [H.out, HN.out]; rfl, (Below.refl _ _).alloc (Nat.le_refl _) _⟩
      · have q : ((n : Int) == p) = false := by simpa using hn
        have HN := Lib.hid (show decide ((n : Int) = p) = false by simpa using hn)
        clear hn
        go_enter Try.func17, Try.ntmps17
        go_wp2_with (go_at_call 43; refine (side_calls _ _).mono ?_; rintro e w' ⟨rfl, rfl⟩)
        go_ret
        exact ⟨by rw [H.out, HN.out]; rfl, (Below.refl _ _).alloc (Nat.le_refl _) _⟩
    · have hc : sideB c = false := by simpa using hc
      have H := Lib.hid (show rightB r c n = false by simp [rightB, sideB] at hc ⊢; intro h1 h2 h3 h4; omega)
      go_enter Try.func17, Try.ntmps17
      go_wp2_with (go_at_call 43; refine (side_calls _ _).mono ?_; rintro e w' ⟨rfl, rfl⟩)
      go_ret
      exact ⟨by rw [H.out]; rfl, (Below.refl _ _).alloc (Nat.le_refl _) _⟩
  · have hr : sideB r = false := by simpa using hr
    have H := Lib.hid (show rightB r c n = false by simp [rightB, sideB] at hr ⊢; intro h1 h2; omega)
    go_enter Try.func17, Try.ntmps17
    go_wp2_with (go_at_call 43; refine (side_calls _ _).mono ?_; rintro e w' ⟨rfl, rfl⟩)
    go_ret
    exact ⟨by rw [H.out]; rfl, (Below.refl _ _).alloc (Nat.le_refl _) _⟩
end Go.Proofs.Ytgcgajeagdaenaa
