/- Words: what Pick answers. -/
import Derived.Test.YtgcgajeagdaenaaPickW
namespace Go.Proofs.Ytgcgajeagdaenaa
open Go.RowKit
set_option linter.unusedVariables false
set_option linter.unusedSimpArgs false

def PickPost (r c : Int) (n : Nat) (xs : List UInt8) (zs : List Int) (w : World) (e : Ending) (w' : World) : Prop :=
  ∃ A' n' cap', e = .returned (.tuple #[mV (pkR (rightB r c n) r zs) (pkC (rightB r c n) r c zs) A' n' cap', .int .i64 (pickE (rightB r c n) r zs)]) ∧ OwnB w' w.heap.size A' n' cap' (pkD (rightB r c n) r c xs zs) ∧ Below w.heap.size w w'
theorem own_none (w : World) (base : Nat) : OwnB w base none 0 0 [] := ⟨rfl, rfl, .inl ⟨rfl, rfl⟩⟩
theorem pickPost_err {r c : Int} {n : Nat} {xs : List UInt8} {zs : List Int} {w w' : World} {E : Int} (h : pickE (rightB r c n) r zs = E) (hE : E ≠ 0) (hb : Below w.heap.size w w') :
    PickPost r c n xs zs w (.returned (.tuple #[mV 0 0 none 0 0, .int .i64 E])) w' := by
  refine ⟨none, 0, 0, ?_, ?_, hb⟩
  · unfold pkR pkC; rw [h, if_neg hE, if_neg hE]
  · unfold pkD; rw [h, if_neg hE]; exact own_none _ _
end Go.Proofs.Ytgcgajeagdaenaa
