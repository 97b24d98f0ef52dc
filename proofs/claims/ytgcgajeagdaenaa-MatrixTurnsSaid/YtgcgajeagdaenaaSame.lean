/- The walk of the document's Same. -/
import Derived.Test.YtgcgajeagdaenaaMem
import Derived.Laws.IdiomStrings
import Derived.Laws.BytesArg
namespace Go.Proofs.Ytgcgajeagdaenaa
open Go.RowKit
set_option linter.unusedVariables false
set_option linter.unusedSimpArgs false

/-- are two lists of bytes the same -/
def sameB (xs ys : List UInt8) : Bool := xs == ys
theorem sameB_self (xs : List UInt8) : sameB xs xs = true := by simp [sameB]
theorem to_string {w : World} {B : Nat} {A : Option Addr} {n cap : Nat} {xs : List UInt8} (h : Rd w B A n (bVs xs)) :
    (convert 22 9 (.slice A n cap)).run Try.prog w = .ok (.string ⟨xs.toArray⟩) w := by
  rcases Nat.eq_zero_or_pos n with h0 | hp
  · subst h0
    have hx : xs = [] := List.eq_nil_of_length_eq_zero (by have := h.len; rw [bVs_length] at this; exact this)
    subst hx
    cases A with
    | none => 
      have h1 := run_convert_bytes_string (P := Try.prog) w 22 9 5 none 0 cap Try.underlying22 Try.underlying5 Try.underlying9
      rw [h1]
      simp [Conv.bytesToString]
      rfl
    | some a => exact run_convert_bytes_back (P := Try.prog) w 22 9 5 a cap [] Try.underlying22 Try.underlying5 Try.underlying9 (fun j hj => absurd hj (by simp))
  · obtain ⟨g, o, rfl, hg, hc⟩ := h.2 hp
    have hl := h.len
    rw [bVs_length] at hl
    subst hl
    refine run_convert_bytes_back (P := Try.prog) w 22 9 5 ⟨g, o, none⟩ cap xs Try.underlying22 Try.underlying5 Try.underlying9 (fun j hj => ?_)
    have h1 := hc j _ (bVs_get xs j hj)
    unfold Addr.add
    split
    · next h0 => subst h0; simpa using h1
    · exact h1

set_option maxHeartbeats 400000 in
theorem same_calls (A : Option Addr) (n ac : Nat) (B : Option Addr) (m bc : Nat) (xs ys : List UInt8) (w : World) (ha : Rd w w.heap.size A n (bVs xs)) (hb : Rd w w.heap.size B m (bVs ys)) :
    Calls Try.prog 26 #[.slice A n ac, .slice B m bc] w fun e w' => e = .returned (.bool (sameB xs ys)) ∧ w = w' := by
  have h1 := to_string (cap := ac) ha
  have h2 := to_string (cap := bc) hb
  go_enter Try.func26, Try.ntmps26
  go_wp2_with fail
  go_ret
  exact ⟨rfl, rfl⟩
end Go.Proofs.Ytgcgajeagdaenaa
