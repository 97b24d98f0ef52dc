/- Words: may rows and columns be so many. -/
import Derived.Test.YtgcgajeagdaenaaMatW
namespace Go.Proofs.Ytgcgajeagdaenaa
def makeB (r c : Int) : Bool := sideB r && sideB c
theorem makeB_yes {r c : Int} (h : makeB r c = true) : ∃ a b : Nat, r = a ∧ c = b ∧ a ≤ 64 ∧ b ≤ 64 := by
  simp [makeB, sideB] at h
  exact ⟨r.toNat, c.toNat, by omega, by omega, by omega, by omega⟩
end Go.Proofs.Ytgcgajeagdaenaa
