/- The walk of the document's Right. -/
import Derived.Test.YtgcgajeagdaenaaMatW
namespace Go.Proofs.Ytgcgajeagdaenaa
open Go.RowKit
set_option linter.unusedVariables false
set_option linter.unusedSimpArgs false

set_option maxRecDepth 100000 in
set_option maxHeartbeats 800000 in
theorem refRight_calls (r c : Int) (A : Option Addr) (n cap : Nat) (w : World) : Calls Try.prog 18 #[mV r c A n cap] w fun e w' => e = .returned (.bool (rightB r c n)) ∧ Below w.heap.size w w' := by
  have hB : Below w.heap.size w (w.alloc (.cells #[.int .i64 r, .int .i64 c, .slice A n cap] 24)) := (Below.refl _ _).alloc (Nat.le_refl _) _
  have HB := Lib.hid hB
  clear hB
  by_cases h1 : 0 ≤ r
  · have d1 : decide (0 ≤ r) = true := by simpa using h1
    by_cases h2 : r ≤ 64
    · have d2 : decide (r ≤ 64) = true := by simpa using h2
      by_cases h3 : 0 ≤ c
      · have d3 : decide (0 ≤ c) = true := by simpa using h3
        by_cases h4 : c ≤ 64
        · have d4 : decide (c ≤ 64) = true := by simpa using h4
          obtain ⟨p, hp⟩ : ∃ p, p = r * c := ⟨_, rfl⟩
          have hb := prod_bd h1 h2 h3 h4
          have e1 : IntKind.i64.wrap (r * c) = p := by rw [IntKind.wrap_i64, hp]; omega
          have H := Lib.hid (show rightB r c n = decide ((n : Int) = p) by rw [hp]; simp [rightB, h1, h2, h3, h4])
          clear hb hp
          by_cases hn : (n : Int) = p
          · have q : ((n : Int) == p) = true := by simpa using hn
            have HN := Lib.hid (show decide ((n : Int) = p) = true by simpa using hn)
            clear hn
            go_enter Try.func18, Try.ntmps18
            go_wp2_with fail
            go_ret
            exact ⟨by rw [H.out, HN.out]; rfl, HB.out⟩
          · have q : ((n : Int) == p) = false := by simpa using hn
            have HN := Lib.hid (show decide ((n : Int) = p) = false by simpa using hn)
            clear hn
            go_enter Try.func18, Try.ntmps18
            go_wp2_with fail
            go_ret
            exact ⟨by rw [H.out, HN.out]; rfl, HB.out⟩
        · have d4 : decide (c ≤ 64) = false := by simpa using h4
          have H := Lib.hid (show rightB r c n = false by simp [rightB, h4])
          go_enter Try.func18, Try.ntmps18
          go_wp2_with fail
          go_ret
          exact ⟨by rw [H.out]; rfl, HB.out⟩
      · have d3 : decide (0 ≤ c) = false := by simpa using h3
        have H := Lib.hid (show rightB r c n = false by simp [rightB, h3])
        go_enter Try.func18, Try.ntmps18
        go_wp2_with fail
        go_ret
        exact ⟨by rw [H.out]; rfl, HB.out⟩
    · have d2 : decide (r ≤ 64) = false := by simpa using h2
      have H := Lib.hid (show rightB r c n = false by simp [rightB, h2])
      go_enter Try.func18, Try.ntmps18
      go_wp2_with fail
      go_ret
      exact ⟨by rw [H.out]; rfl, HB.out⟩
  · have d1 : decide (0 ≤ r) = false := by simpa using h1
    have H := Lib.hid (show rightB r c n = false by simp [rightB, h1])
    go_enter Try.func18, Try.ntmps18
    go_wp2_with fail
    go_ret
    exact ⟨by rw [H.out]; rfl, HB.out⟩
end Go.Proofs.Ytgcgajeagdaenaa
