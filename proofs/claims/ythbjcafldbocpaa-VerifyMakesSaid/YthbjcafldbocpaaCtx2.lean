/- More words of what a walk carries: stores into a list of the walk's own, one entry at a time. -/
import Derived.Test.YthbjcafldbocpaaCtx
import Derived.Test.YthbjcafldbocpaaApp
namespace Go.Proofs.Ythbjcafldbocpaa
open Go.RowKit
set_option linter.unusedVariables false
set_option linter.unusedSimpArgs false

theorem Ctx.set {w0 w : World} {bs : List (Nat × List Value)} (h : Ctx w0 w bs []) {p : Addr} (hp : w0.heap.size ≤ p.block) (hn : ∀ b ∈ bs, b.1 ≠ p.block) (u : Value) : Ctx w0 (w.setCell p u) bs [] :=
  ⟨h.below.setCell hp u, fun b hm => (h.rows b hm).far (hn b hm) u, fun r hm => absurd hm (by simp)⟩
/-- block g holds a list that becomes new where v is written at q -/
def CurS (w : World) (g q : Nat) (v : UInt8) (new : List UInt8) : Prop := ∃ l : List UInt8, q < l.length ∧ l.set q v = new ∧ Row w g 5 (bVs l)
section
variable {w w' : World} {g q : Nat} {v : UInt8} {new : List UInt8}
theorem CurS.go (h : CurS w g q v new) (hb : Below w.heap.size w w') : CurS w' g q v new := by
  obtain ⟨l, h1, h2, h3⟩ := h
  exact ⟨l, h1, h2, h3.below hb h3.lt⟩
theorem CurS.drew (h : CurS w g q v new) : CurS w.drew g q v new := h
theorem CurS.cell (h : CurS w g q v new) : ∃ old, w.cell? ⟨g, q, none⟩ = some old := by
  obtain ⟨l, h1, h2, h3⟩ := h
  exact h3.has (by rw [bVs_length]; exact h1)
theorem CurS.frozen (h : CurS w g q v new) : w.frozen? ⟨g, q, none⟩ = false := by
  obtain ⟨l, h1, h2, h3⟩ := h
  exact h3.frozen q
theorem CurS.done (h : CurS w g q v new) : Row (w.setCell ⟨g, q, none⟩ (.int .u8 (v.toNat : Int))) g 5 (bVs new) := by
  obtain ⟨l, h1, h2, h3⟩ := h
  have := h3.set q (.int .u8 (v.toNat : Int))
  rwa [bVs_set, h2] at this
theorem CurS.set (h : CurS w g q v new) : CurS (w.setCell ⟨g, q, none⟩ (.int .u8 (v.toNat : Int))) g q v new := by
  have hd := h.done
  obtain ⟨l, h1, h2, h3⟩ := h
  refine ⟨new, by rw [← h2, List.length_set]; exact h1, ?_, hd⟩
  rw [← h2, List.set_set]
theorem CurS.fin (h : CurS (w.setCell ⟨g, q, none⟩ (.int .u8 (v.toNat : Int))) g q v new) : Row (w.setCell ⟨g, q, none⟩ (.int .u8 (v.toNat : Int))) g 5 (bVs new) := by
  obtain ⟨l, h1, h2, h3⟩ := h
  have he : l.set q v = l := by
    have hc : (w.setCell ⟨g, q, none⟩ (.int .u8 (v.toNat : Int))).cell? ⟨g, q, none⟩ = some (.int .u8 ((l[q]).toNat : Int)) := by rw [h3.cell, bVs_get l q h1]
    have h4 := h3
    unfold Row at h4
    simp only [World.setCell, Array.getElem?_modify, if_true] at h4
    have hv : l[q] = v := by
      cases ho : w.heap[g]? with
      | none => rw [ho] at h4; simp at h4
      | some o =>
        rw [ho] at h4
        cases o with
        | cells c e fz =>
          simp at h4
          have h5 : (c.setIfInBounds q (.int .u8 (v.toNat : Int)))[q]? = (bVs l).toArray[q]? := by rw [h4.1]
          rw [show (bVs l).toArray[q]? = (bVs l)[q]? by simp, bVs_get l q h1, Array.getElem?_setIfInBounds] at h5
          by_cases hq : q < c.size
          · simp [hq] at h5
            exact (UInt8.toNat_inj.1 (by omega)).symm
          · simp [hq] at h5
        | _ => simp at h4
    rw [← hv]
    exact List.set_getElem_self h1
  rw [← h2, he]
  exact h3
theorem CurS.lt (h : CurS w g q v new) : g < w.heap.size := by
  obtain ⟨l, h1, h2, h3⟩ := h
  exact h3.lt
end
end Go.Proofs.Ythbjcafldbocpaa
