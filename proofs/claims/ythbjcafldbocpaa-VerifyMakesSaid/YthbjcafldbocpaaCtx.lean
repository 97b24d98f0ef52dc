/- What a walk carries from call to call: boxed matrices, lists that read. -/
import Derived.Test.YthbjcafldbocpaaMatW
namespace Go.Proofs.Ythbjcafldbocpaa
open Go.RowKit
set_option linter.unusedVariables false
set_option linter.unusedSimpArgs false

/-- w came of w0 without a change to what was there; bs: blocks that hold matrices; rs: lists that read. -/
structure Ctx (w0 w : World) (bs : List (Nat × List Value)) (rs : List (Option Addr × Nat × List UInt8)) : Prop where
  below : Below w0.heap.size w0 w
  rows : ∀ b ∈ bs, Row w b.1 37 b.2
  rds : ∀ r ∈ rs, Rd w w.heap.size r.1 r.2.1 (bVs r.2.2)
section
variable {w0 w w' : World} {bs : List (Nat × List Value)} {rs : List (Option Addr × Nat × List UInt8)}
theorem Ctx.start (w : World) : Ctx w w [] [] := ⟨Below.refl _ _, fun b h => absurd h (by simp), fun r h => absurd h (by simp)⟩
theorem Ctx.go (h : Ctx w0 w bs rs) (hb : Below w.heap.size w w') : Ctx w0 w' bs rs :=
  ⟨h.below.trans (hb.mono h.below.size), fun b hm => (h.rows b hm).below hb (h.rows b hm).lt, fun r hm => (h.rds r hm).go hb⟩
theorem Ctx.add {A : Option Addr} {n : Nat} {xs : List UInt8} (h : Ctx w0 w bs rs) (hr : Rd w w.heap.size A n (bVs xs)) : Ctx w0 w bs ((A, n, xs) :: rs) :=
  ⟨h.below, h.rows, fun r hm => by
    rcases List.mem_cons.1 hm with rfl | hm
    · exact hr
    · exact h.rds r hm⟩
theorem Ctx.box (h : Ctx w0 w bs rs) (cs : List Value) : Ctx w0 (w.alloc (.cells cs.toArray 37)) ((w.heap.size, cs) :: bs) rs := by
  have hb : Below w.heap.size w (w.alloc (.cells cs.toArray 37)) := (Below.refl _ _).alloc (Nat.le_refl _) _
  refine ⟨h.below.trans (hb.mono h.below.size), fun b hm => ?_, fun r hm => (h.rds r hm).go hb⟩
  rcases List.mem_cons.1 hm with rfl | hm
  · exact Row.new w cs _
  · exact (h.rows b hm).below hb (h.rows b hm).lt
theorem Ctx.alloc (h : Ctx w0 w bs rs) (o : Obj) : Ctx w0 (w.alloc o) bs rs := h.go ((Below.refl _ _).alloc (Nat.le_refl _) o)
theorem Ctx.drewN (h : Ctx w0 w bs rs) (n : Nat) : Ctx w0 (w.drewN n) bs rs := h.go (below_drewN (Below.refl _ _) n)
theorem Ctx.drew (h : Ctx w0 w bs rs) : Ctx w0 w.drew bs rs := h.go (Below.drew (Below.refl _ _))
theorem Ctx.row (h : Ctx w0 w bs rs) (i : Nat) {g : Nat} {cs : List Value} (e : bs[i]? = some (g, cs)) : Row w g 37 cs := h.rows _ (List.mem_of_getElem? e)
theorem Ctx.rd (h : Ctx w0 w bs rs) (i : Nat) {A : Option Addr} {n : Nat} {xs : List UInt8} (e : rs[i]? = some (A, n, xs)) : Rd w w.heap.size A n (bVs xs) := h.rds _ (List.mem_of_getElem? e)
theorem Ctx.lt (h : Ctx w0 w bs rs) (i : Nat) {g : Nat} {cs : List Value} (e : bs[i]? = some (g, cs)) : g < w.heap.size := (h.row i e).lt
theorem Ctx.cells (h : Ctx w0 w bs rs) (i : Nat) {g : Nat} {a b c : Value} (e : bs[i]? = some (g, [a, b, c])) : w.cell? ⟨g, 0, none⟩ = some a ∧ w.cell? ⟨g, 1, none⟩ = some b ∧ w.cell? ⟨g, 2, none⟩ = some c :=
  ⟨(h.row i e).cell 0, (h.row i e).cell 1, (h.row i e).cell 2⟩
end
end Go.Proofs.Ythbjcafldbocpaa
