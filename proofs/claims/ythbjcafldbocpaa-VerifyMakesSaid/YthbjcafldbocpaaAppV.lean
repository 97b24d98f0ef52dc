/- append of one value, that takes one cell, to a row of the call's own: whole numbers, slices. -/
import Derived.Test.YthbjcafldbocpaaApp
import Derived.Deep.AppendLies
namespace Go.Proofs.Ythbjcafldbocpaa
open Go.RowKit
set_option linter.unusedVariables false
set_option linter.unusedSimpArgs false

theorem wpList_append_one {ops : Array Oper} {rest : List Oper} {o : Oper} {a : Act} {w0 : World} {Q : Exit → Act → World → Prop} (t e : TypeId) (z : Value) (bytes : Nat) (ht : Try.prog.underlying t = some (.slice e))
    (hinf : (Try.prog.info? e).map (fun i => (i.zero, i.size, i.bytes)) = some (some z, 1, bytes)) (hzs : z.cells.size = 1) (s x : Operand) (hgd : o.guard = none)
    (ho : o.op = .call { callee := .builtin .append, args := #[s, x], argTypes := #[t, t] })
    (base : Nat) (v : Value) (n : Nat) (xs : List Value) (y : Value) (hy : y.oneCell' = true) (hs : a.eval s = v) (hown : w0.ownsRow base e 1 v n xs) (g0 : Nat) (hx : a.eval x = .slice (some ⟨g0, 0, none⟩) 1 1) (hg0 : g0 = w0.heap.size)
    (hlen : n + 1 ≤ maxLen) (hbytes : (n + 1) * bytes ≤ 140737488355328) (hbase : base ≤ w0.heap.size)
    (h : ∀ v' w', w'.ownsRow base e 1 v' (n + 1) (xs ++ [y]) → Below base w0 w' → w0.grownBy w' v.ownBlock → wpList Try.prog ops Q rest (a.put o.dst v') w') :
    wpList Try.prog ops Q (o :: rest) a (w0.alloc (.cells #[y] e)) := by
  subst hg0
  obtain ⟨i, hi, hz, hsz, hby⟩ := info_parts hinf
  refine wpList_append_own _ hgd s x t ho base e i z 1 bytes ht hi hz hsz hby hzs (by decide) v n xs hs (World.ownsRow.alloc hown _) ⟨w0.heap.size, 0, none⟩ 1 1 [y] hx rfl ?_ ?_ hlen hbytes (by simp; omega) ?_
  · intro j u hu
    have hj : j = 0 := by
      rcases Nat.lt_or_ge j 1 with hlt | hge
      · omega
      · rw [List.getElem?_eq_none (by simpa using hge)] at hu; cases hu
    subst hj
    simp only [List.getElem?_cons_zero, Option.some.injEq] at hu
    subst hu
    simp [Addr.add]
  · intro u hu
    rw [List.mem_singleton.1 hu]
    exact hy
  · intro v' w' hown' hg _
    refine h v' w' hown' ?_ ?_
    · exact ((Below.refl base w0).alloc hbase _).grown hg (by simp; omega) (fun k hk => (hown.lt k hk).1)
    · exact ⟨hg.os, hg.tape, hg.output, Nat.le_trans (by simp) hg.size, fun k hk hne => (hg.block k (by simp; omega) hne).trans (Below.heap_alloc _ _ _ hk)⟩
/-- the same at a step of a region that draws its order -/
theorem wp_append_one_drew {o : Oper} {a : Act} {w0 : World} {K : Act → World → Prop} {Q : Exit → Act → World → Prop} (t e : TypeId) (z : Value) (bytes : Nat) (ht : Try.prog.underlying t = some (.slice e))
    (hinf : (Try.prog.info? e).map (fun i => (i.zero, i.size, i.bytes)) = some (some z, 1, bytes)) (hzs : z.cells.size = 1) (s x : Operand)
    (ho : o.op = .call { callee := .builtin .append, args := #[s, x], argTypes := #[t, t] })
    (base : Nat) (v : Value) (n : Nat) (xs : List Value) (y : Value) (hy : y.oneCell' = true) (hs : a.eval s = v) (hown : w0.ownsRow base e 1 v n xs) (g0 : Nat) (hx : a.eval x = .slice (some ⟨g0, 0, none⟩) 1 1) (hg0 : g0 = w0.heap.size)
    (hlen : n + 1 ≤ maxLen) (hbytes : (n + 1) * bytes ≤ 140737488355328) (hbase : base ≤ w0.heap.size)
    (h : ∀ g cap w', w'.ownsRow base e 1 (.slice (some ⟨g, 0, none⟩) (n + 1) cap) (n + 1) (xs ++ [y]) → Below base w0 w' → w0.grownBy w' v.ownBlock → (v.ownBlock = some g ∨ g = w0.heap.size + 1) → K (a.put o.dst (.slice (some ⟨g, 0, none⟩) (n + 1) cap)) w') :
    o.wp Try.prog a (w0.alloc (.cells #[y] e)).drew K Q := by
  subst hg0
  obtain ⟨i, hi, hz, hsz, hby⟩ := info_parts hinf
  refine wp_append_lies _ s x t ho base e i z 1 bytes ht hi hz hsz hby hzs (by decide) v n xs hs (World.ownsRow.drew (World.ownsRow.alloc hown _)) ⟨w0.heap.size, 0, none⟩ 1 1 [y] hx rfl ?_ ?_ (by decide) hlen hbytes (by show base ≤ (w0.alloc (.cells #[y] e)).heap.size; simp; omega) (w0.heap.size + 1) (by show (w0.alloc (.cells #[y] e)).heap.size = _; simp) ?_
  · intro j u hu
    have hj : j = 0 := by
      rcases Nat.lt_or_ge j 1 with hlt | hge
      · omega
      · rw [List.getElem?_eq_none (by simpa using hge)] at hu; cases hu
    subst hj
    simp only [List.getElem?_cons_zero, Option.some.injEq] at hu
    subst hu
    simp [Addr.add]
  · intro u hu
    rw [List.mem_singleton.1 hu]
    exact hy
  · intro g cap w' hown' hg hat _
    refine h g cap w' hown' ?_ ?_ hat
    · exact (((Below.refl base w0).alloc hbase _).drew).grown hg (by show base ≤ (w0.alloc (.cells #[y] e)).heap.size; simp; omega) (fun k hk => (hown.lt k hk).1)
    · exact ⟨hg.os, hg.tape, hg.output, Nat.le_trans (show w0.heap.size ≤ (w0.alloc (.cells #[y] e)).heap.size by simp) hg.size, fun k hk hne => (hg.block k (show k < (w0.alloc (.cells #[y] e)).heap.size by simp; omega) hne).trans (Below.heap_alloc _ _ _ hk)⟩
/-- the same at a step of a region that draws its order, the draw put away -/
theorem wp_append_oneD {o : Oper} {a : Act} {w0 : World} {K : Act → World → Prop} {Q : Exit → Act → World → Prop} (t e : TypeId) (z : Value) (bytes : Nat) (ht : Try.prog.underlying t = some (.slice e))
    (hinf : (Try.prog.info? e).map (fun i => (i.zero, i.size, i.bytes)) = some (some z, 1, bytes)) (hzs : z.cells.size = 1) (s x : Operand)
    (ho : o.op = .call { callee := .builtin .append, args := #[s, x], argTypes := #[t, t] })
    (base : Nat) (v : Value) (n : Nat) (xs : List Value) (y : Value) (hy : y.oneCell' = true) (hs : a.eval s = v) (hown : w0.ownsRow base e 1 v n xs) (g0 : Nat) (hx : a.eval x = .slice (some ⟨g0, 0, none⟩) 1 1) (hg0 : g0 = w0.heap.size)
    (hlen : n + 1 ≤ maxLen) (hbytes : (n + 1) * bytes ≤ 140737488355328) (hbase : base ≤ w0.heap.size)
    (h : ∀ g cap w', w'.ownsRow base e 1 (.slice (some ⟨g, 0, none⟩) (n + 1) cap) (n + 1) (xs ++ [y]) → Below base w0 w' → w0.grownBy w' v.ownBlock → (v.ownBlock = some g ∨ g = w0.heap.size + 1) → K (a.put o.dst (.slice (some ⟨g, 0, none⟩) (n + 1) cap)) w') :
    o.wp Try.prog a (w0.alloc (.cells #[y] e)) K Q := by
  subst hg0
  obtain ⟨i, hi, hz, hsz, hby⟩ := info_parts hinf
  refine wp_append_lies _ s x t ho base e i z 1 bytes ht hi hz hsz hby hzs (by decide) v n xs hs (World.ownsRow.alloc hown _) ⟨w0.heap.size, 0, none⟩ 1 1 [y] hx rfl ?_ ?_ (by decide) hlen hbytes (by show base ≤ (w0.alloc (.cells #[y] e)).heap.size; simp; omega) (w0.heap.size + 1) (by show (w0.alloc (.cells #[y] e)).heap.size = _; simp) ?_
  · intro j u hu
    have hj : j = 0 := by
      rcases Nat.lt_or_ge j 1 with hlt | hge
      · omega
      · rw [List.getElem?_eq_none (by simpa using hge)] at hu; cases hu
    subst hj
    simp only [List.getElem?_cons_zero, Option.some.injEq] at hu
    subst hu
    simp [Addr.add]
  · intro u hu
    rw [List.mem_singleton.1 hu]
    exact hy
  · intro g cap w' hown' hg hat _
    refine h g cap w' hown' ?_ ?_ hat
    · exact ((Below.refl base w0).alloc hbase _).grown hg (by show base ≤ (w0.alloc (.cells #[y] e)).heap.size; simp; omega) (fun k hk => (hown.lt k hk).1)
    · exact ⟨hg.os, hg.tape, hg.output, Nat.le_trans (show w0.heap.size ≤ (w0.alloc (.cells #[y] e)).heap.size by simp) hg.size, fun k hk hne => (hg.block k (show k < (w0.alloc (.cells #[y] e)).heap.size by simp; omega) hne).trans (Below.heap_alloc _ _ _ hk)⟩
/-- in a plain list of operations, the new value written out -/
theorem wpList_append_one2 {ops : Array Oper} {rest : List Oper} {o : Oper} {a : Act} {w0 : World} {Q : Exit → Act → World → Prop} (t e : TypeId) (z : Value) (bytes : Nat) (ht : Try.prog.underlying t = some (.slice e))
    (hinf : (Try.prog.info? e).map (fun i => (i.zero, i.size, i.bytes)) = some (some z, 1, bytes)) (hzs : z.cells.size = 1) (s x : Operand) (hgd : o.guard = none)
    (ho : o.op = .call { callee := .builtin .append, args := #[s, x], argTypes := #[t, t] })
    (base : Nat) (v : Value) (n : Nat) (xs : List Value) (y : Value) (hy : y.oneCell' = true) (hs : a.eval s = v) (hown : w0.ownsRow base e 1 v n xs) (g0 : Nat) (hx : a.eval x = .slice (some ⟨g0, 0, none⟩) 1 1) (hg0 : g0 = w0.heap.size)
    (hlen : n + 1 ≤ maxLen) (hbytes : (n + 1) * bytes ≤ 140737488355328) (hbase : base ≤ w0.heap.size)
    (h : ∀ g cap w', w'.ownsRow base e 1 (.slice (some ⟨g, 0, none⟩) (n + 1) cap) (n + 1) (xs ++ [y]) → Below base w0 w' → w0.grownBy w' v.ownBlock → (v.ownBlock = some g ∨ g = w0.heap.size + 1) → wpList Try.prog ops Q rest (a.put o.dst (.slice (some ⟨g, 0, none⟩) (n + 1) cap)) w') :
    wpList Try.prog ops Q (o :: rest) a (w0.alloc (.cells #[y] e)) := by
  subst hg0
  obtain ⟨i, hi, hz, hsz, hby⟩ := info_parts hinf
  refine wpList_append_lies _ hgd s x t ho base e i z 1 bytes ht hi hz hsz hby hzs (by decide) v n xs hs (World.ownsRow.alloc hown _) ⟨w0.heap.size, 0, none⟩ 1 1 [y] hx rfl ?_ ?_ (by decide) hlen hbytes (by simp; omega) (w0.heap.size + 1) (by simp) ?_
  · intro j u hu
    have hj : j = 0 := by
      rcases Nat.lt_or_ge j 1 with hlt | hge
      · omega
      · rw [List.getElem?_eq_none (by simpa using hge)] at hu; cases hu
    subst hj
    simp only [List.getElem?_cons_zero, Option.some.injEq] at hu
    subst hu
    simp [Addr.add]
  · intro u hu
    rw [List.mem_singleton.1 hu]
    exact hy
  · intro g cap w' hown' hg hat _
    refine h g cap w' hown' ?_ ?_ hat
    · exact ((Below.refl base w0).alloc hbase _).grown hg (by simp; omega) (fun k hk => (hown.lt k hk).1)
    · exact ⟨hg.os, hg.tape, hg.output, Nat.le_trans (by simp) hg.size, fun k hk hne => (hg.block k (by simp; omega) hne).trans (Below.heap_alloc _ _ _ hk)⟩
theorem int_info : (Try.prog.info? 3).map (fun i => (i.zero, i.size, i.bytes)) = some (some (.int .i64 0), 1, 8) := by kernel_rfl
theorem row_info : (Try.prog.info? 35).map (fun i => (i.zero, i.size, i.bytes)) = some (some (.slice none 0 0), 1, 24) := by kernel_rfl
/-- whole numbers as values -/
def nVs (zs : List Nat) : List Value := zs.map fun (z : Nat) => Value.int .i64 (z : Int)
theorem nVs_append (xs ys : List Nat) : nVs (xs ++ ys) = nVs xs ++ nVs ys := by simp [nVs]
/-- v is a slice of whole numbers of the call's own -/
def OwnN (w : World) (base : Nat) (v : Value) (zs : List Nat) : Prop := w.ownsRow base 3 1 v zs.length (nVs zs)
end Go.Proofs.Ythbjcafldbocpaa
