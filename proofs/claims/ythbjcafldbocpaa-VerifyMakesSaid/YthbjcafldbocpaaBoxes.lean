/- Boxes that a drawn region makes before, between or behind its calls. -/
import Derived.Test.YthbjcafldbocpaaCtx2
namespace Go.Proofs.Ythbjcafldbocpaa
open Go.RowKit
set_option linter.unusedVariables false
set_option linter.unusedSimpArgs false

section
variable {x y : World} {g : Nat} {t t' : TypeId} {ys : List Value} {o o' : Obj} {a b c : Value}
theorem box_last (h : Below (x.alloc (.cells #[a, b, c] t)).heap.size (x.alloc (.cells #[a, b, c] t)) y) : Row y x.heap.size t [a, b, c] := (Row.new x [a, b, c] t).below h (by simp)
theorem box_prev (h : Below ((x.alloc (.cells #[a, b, c] t)).alloc o).heap.size ((x.alloc (.cells #[a, b, c] t)).alloc o) y) : Row y x.heap.size t [a, b, c] := ((Row.new x [a, b, c] t).alloc o).below h (by simp; omega)
theorem box_lastD (h : Below (x.alloc (.cells #[a, b, c] t)).drew.heap.size (x.alloc (.cells #[a, b, c] t)).drew y) : Row y x.heap.size t [a, b, c] := (show Row (x.alloc (.cells #[a, b, c] t)).drew x.heap.size t [a, b, c] from Row.new x [a, b, c] t).below h (show x.heap.size < (x.alloc (.cells #[a, b, c] t)).heap.size by simp)
theorem box_prevD (h : Below ((x.alloc (.cells #[a, b, c] t)).alloc o).drew.heap.size ((x.alloc (.cells #[a, b, c] t)).alloc o).drew y) : Row y x.heap.size t [a, b, c] := (show Row ((x.alloc (.cells #[a, b, c] t)).alloc o).drew x.heap.size t [a, b, c] from (Row.new x [a, b, c] t).alloc o).below h (show x.heap.size < ((x.alloc (.cells #[a, b, c] t)).alloc o).heap.size by simp; omega)
theorem carry0 (r : Row x g t ys) (h : Below x.heap.size x y) : Row y g t ys := r.below h r.lt
theorem carry1 (r : Row x g t ys) (h : Below (x.alloc o).heap.size (x.alloc o) y) : Row y g t ys := carry0 (r.alloc o) h
theorem carry2 (r : Row x g t ys) (h : Below ((x.alloc o).alloc o').heap.size ((x.alloc o).alloc o') y) : Row y g t ys := carry0 ((r.alloc o).alloc o') h
theorem less1 (h : Below (x.alloc o).heap.size (x.alloc o) y) : x.heap.size + 1 ≤ y.heap.size := by have := h.size; simpa using this
theorem less2 (h : Below ((x.alloc o).alloc o').heap.size ((x.alloc o).alloc o') y) : x.heap.size + 1 + 1 ≤ y.heap.size := by have := h.size; simpa using this
theorem less0 (h : Below x.heap.size x y) : x.heap.size ≤ y.heap.size := h.size
theorem lessD (h : Below x.drew.heap.size x.drew y) : x.heap.size ≤ y.heap.size := h.size
theorem size_drew (x : World) : x.drew.heap.size = x.heap.size := rfl
theorem Row.newE (x : World) (cs : List Value) (t : TypeId) (e : g = x.heap.size) : Row (x.alloc (.cells cs.toArray t)) g t cs := by rw [e]; exact Row.new x cs t
theorem Row.drew (r : Row x g t ys) : Row x.drew g t ys := r
theorem Ctx.cons {w0 : World} {bs : List (Nat × List Value)} (h : Ctx w0 x bs []) (r : Row x g 37 ys) : Ctx w0 x ((g, ys) :: bs) [] :=
  ⟨h.below, fun b hm => by
    rcases List.mem_cons.1 hm with rfl | hm
    · exact r
    · exact h.rows b hm, fun r hm => absurd hm (by simp)⟩
theorem Row.rd {xs : List UInt8} {n : Nat} (r : Row x g 5 (bVs xs)) (hn : xs.length = n) : Rd x x.heap.size (some ⟨g, 0, none⟩) n (bVs xs) := by
  refine ⟨by rw [bVs_length, hn], fun _ => ⟨g, 0, rfl, r.lt, fun j u hu => ?_⟩⟩
  rw [Nat.zero_add, r.cell, hu]
theorem Row.two (h : Row x g t [a, b, c]) : x.cell? ⟨g, 0, none⟩ = some a ∧ x.cell? ⟨g, 1, none⟩ = some b ∧ x.cell? ⟨g, 2, none⟩ = some c ∧ x.frozen? ⟨g, 0, none⟩ = false ∧ x.frozen? ⟨g, 1, none⟩ = false ∧ x.frozen? ⟨g, 2, none⟩ = false ∧ g < x.heap.size := by
  obtain ⟨h0, h1, h2, h3, h4, h5⟩ := h.three
  exact ⟨h0, h1, h2, h3, h4, h5, h.lt⟩
end
end Go.Proofs.Ythbjcafldbocpaa
