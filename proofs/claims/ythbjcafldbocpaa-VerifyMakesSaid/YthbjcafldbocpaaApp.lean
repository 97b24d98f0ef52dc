/- append of bytes to a row of the call's own. -/
import Derived.Test.YthbjcafldbocpaaMem
import Derived.Test.YthbjcafldbocpaaWords
import Derived.OwnWalk
import Derived.RegionTactic
import Derived.Deep.AppendLies
import Derived.Maps.AppendAt
namespace Go.Proofs.Ythbjcafldbocpaa
open Go.RowKit
set_option linter.unusedVariables false
set_option linter.unusedSimpArgs false

/-- v is a slice value of the call's own (nil, or made from block base on) that holds the bytes xs. -/
def OwnV (w : World) (base : Nat) (v : Value) (xs : List UInt8) : Prop := w.ownsRow base 5 1 v xs.length (bVs xs)
theorem OwnV.nil (w : World) (base : Nat) : OwnV w base (.slice none 0 0) [] := ⟨rfl, .inl ⟨rfl, rfl⟩⟩
theorem OwnV.slice {w : World} {base : Nat} {v : Value} {xs : List UInt8} (h : OwnV w base v xs) : ∃ A cap, v = .slice A xs.length cap ∧ OwnB w base A xs.length cap xs := by
  rcases h.2 with ⟨rfl, h0⟩ | ⟨g, cap, cur, rfl, hrest⟩
  · rw [h0]; exact ⟨none, 0, rfl, h0, by have := h; unfold OwnV at this; rw [h0] at this; exact this⟩
  · exact ⟨_, _, rfl, rfl, h⟩
theorem OwnV.drewN {w : World} {base : Nat} {v : Value} {xs : List UInt8} (h : OwnV w base v xs) (k : Nat) : OwnV (w.drewN k) base v xs := h
theorem OwnV.below {w w' : World} {base : Nat} {v : Value} {xs : List UInt8} (h : OwnV w base v xs) (hb : Below w.heap.size w w') : OwnV w' base v xs := by
  have hg : w.grownBy w' (some w.heap.size) := ⟨hb.os, hb.tape, hb.output, hb.size, fun k hk _ => hb.block k hk⟩
  refine World.ownsRow.kept h hg ?_
  rcases hv : v.ownBlock with _ | q
  · exact .inl rfl
  · refine .inr (fun e => ?_)
    have := (World.ownsRow.lt h q hv).2
    injection e with e
    omega
theorem OwnV.kept {w w' : World} {base : Nat} {v : Value} {xs : List UInt8} {row : Option Nat} (h : OwnV w base v xs) (hg : w.grownBy w' row) (hne : v.ownBlock = none ∨ v.ownBlock ≠ row) : OwnV w' base v xs := World.ownsRow.kept h hg hne

/-- 'out = append(out, y)', one byte, as the walk meets it behind the new one-cell block. -/
theorem wpList_append_byte {ops : Array Oper} {rest : List Oper} {o : Oper} {a : Act} {w0 : World} {Q : Exit → Act → World → Prop} (s x : Operand) (hgd : o.guard = none)
    (ho : o.op = .call { callee := .builtin .append, args := #[s, x], argTypes := #[35, 35] })
    (base : Nat) (v : Value) (xs : List UInt8) (y : UInt8) (hs : a.eval s = v) (hown : OwnV w0 base v xs) (hx : a.eval x = .slice (some ⟨w0.heap.size, 0, none⟩) 1 1)
    (hlen : xs.length + 1 ≤ 140737488355328) (hbase : base ≤ w0.heap.size)
    (h : ∀ v' w', OwnV w' base v' (xs ++ [y]) → Below base w0 w' → w0.grownBy w' v.ownBlock → wpList Try.prog ops Q rest (a.put o.dst v') w') :
    wpList Try.prog ops Q (o :: rest) a (w0.alloc (.cells #[.int .u8 (y.toNat : Int)] 5)) := by
  obtain ⟨i, hi, hz, hsz, hby⟩ := info_parts u8_info
  refine wpList_append_own _ hgd s x 35 ho base 5 i (.int .u8 0) 1 1 Try.underlying35 hi hz hsz hby rfl (by decide) v xs.length (bVs xs) hs (World.ownsRow.alloc hown _) ⟨w0.heap.size, 0, none⟩ 1 1 (bVs [y]) hx rfl ?_ ?_ ?_ ?_ ?_ ?_
  · intro j u hu
    have hj : j = 0 := by
      rcases Nat.lt_or_ge j (bVs [y]).length with hlt | hge
      · simp [bVs] at hlt; omega
      · rw [List.getElem?_eq_none hge] at hu; cases hu
    subst hj
    simp only [bVs, List.map_cons, List.map_nil, List.getElem?_cons_zero, Option.some.injEq] at hu
    subst hu
    simp [Addr.add]
  · exact fun u hu => bVs_one hu
  · simp only [maxLen]; omega
  · omega
  · simp; omega
  · intro v' w' hown' hg _
    refine h v' w' ?_ ?_ ?_
    · unfold OwnV
      rw [bVs_append, List.length_append]
      exact hown'
    · exact ((Below.refl base w0).alloc hbase _).grown hg (by simp; omega) (fun k hk => (hown.lt k hk).1)
    · exact ⟨hg.os, hg.tape, hg.output, Nat.le_trans (by simp) hg.size, fun k hk hne => (hg.block k (by simp; omega) hne).trans (Below.heap_alloc _ _ _ hk)⟩

/-- the same in a region that draws its order; gx: the new one-cell block -/
theorem step_append_byte {ops : Array Oper} {o : Oper} {a : Act} {W : World} {K : Act → World → Prop} {Q : Exit → Act → World → Prop} {E : Prop} (s x : Operand) (hgd : o.guard = none)
    (ho : o.op = .call { callee := .builtin .append, args := #[s, x], argTypes := #[35, 35] })
    (base gx : Nat) (v : Value) (xs : List UInt8) (y : UInt8) (hs : a.eval s = v) (hown : OwnV W base v xs) (hx : a.eval x = .slice (some ⟨gx, 0, none⟩) 1 1) (hc : W.cell? ⟨gx, 0, none⟩ = some (.int .u8 (y.toNat : Int)))
    (hlen : xs.length + 1 ≤ 140737488355328) (hbase : base ≤ W.heap.size)
    (h : ∀ v' w', OwnV w' base v' (xs ++ [y]) → Below base W w' → W.grownBy w' v.ownBlock → K (a.put o.dst v') w') :
    if Region.wanted o (yielded ops a.tmps) = true then Oper.wp Try.prog o a W K Q else E := by
  have hw : Region.wanted o (yielded ops a.tmps) = true := by simp [Region.wanted, hgd]
  rw [if_pos hw]
  obtain ⟨i, hi, hz, hsz, hby⟩ := info_parts u8_info
  refine wp_append_own _ s x 35 ho base 5 i (.int .u8 0) 1 1 Try.underlying35 hi hz hsz hby rfl (by decide) v xs.length (bVs xs) hs hown ⟨gx, 0, none⟩ 1 1 (bVs [y]) hx rfl ?_ ?_ ?_ ?_ hbase ?_
  · intro j u hu
    have hj : j = 0 := by
      rcases Nat.lt_or_ge j (bVs [y]).length with hlt | hge
      · simp [bVs] at hlt; omega
      · rw [List.getElem?_eq_none hge] at hu; cases hu
    subst hj
    simp only [bVs, List.map_cons, List.map_nil, List.getElem?_cons_zero, Option.some.injEq] at hu
    subst hu
    simpa [Addr.add] using hc
  · exact fun u hu => bVs_one hu
  · simp only [maxLen]; omega
  · omega
  · intro v' w' hown' hg _
    refine h v' w' ?_ ((Below.refl base W).grown hg hbase (fun k hk => (hown.lt k hk).1)) hg
    unfold OwnV
    rw [bVs_append, List.length_append]
    exact hown'

theorem run_append_nil_any (w : World) (base : Nat) (ty : TypeId) (v : Value) (xs : List UInt8) (hown : OwnV w base v xs) (c : Nat) :
    (Builtin.append_ #[35, 35] ty #[v, .slice none 0 c]).run Try.prog w = .ok v w := by
  obtain ⟨i, hi, hz, hsz, hby⟩ := info_parts u8_info
  have ht := Try.underlying35
  rcases hown.2 with ⟨rfl, h0⟩ | ⟨g, cap, cur, rfl, _, _, hnc, _⟩
  · simp [Builtin.append_, run_underlying ht, sizeOf, typeInfo, hi, Builtin.lenOf, Builtin.firstCells]
  · simp [Builtin.append_, run_underlying ht, sizeOf, typeInfo, hi, Builtin.lenOf, Builtin.firstCells, hnc, storeCells]
set_option maxRecDepth 100000 in
/-- 'append(v, ys...)', v the call's own, ys whatever list that reads. -/
theorem run_append_rd (w : World) (base : Nat) (ty : TypeId) (v : Value) (xs ys : List UInt8) (hown : OwnV w base v xs) (B : Nat) (A : Option Addr) (m c : Nat) (hr : Rd w B A m (bVs ys))
    (hlen : xs.length + m ≤ 140737488355328) (hbase : base ≤ w.heap.size) :
    ∃ v' w', (Builtin.append_ #[35, 35] ty #[v, .slice A m c]).run Try.prog w = .ok v' w' ∧ OwnV w' base v' (xs ++ ys) ∧ w.grownBy w' v.ownBlock ∧ (v'.ownBlock = v.ownBlock ∨ v'.ownBlock = some w.heap.size) := by
  have hm := hr.len
  rw [bVs_length] at hm
  rcases A with _ | ad
  · have h0 : m = 0 := by
      rcases Nat.eq_zero_or_pos m with h | h
      · exact h
      · obtain ⟨g, o, hA, _⟩ := hr.2 h; cases hA
    subst h0
    have hy : ys = [] := List.eq_nil_of_length_eq_zero hm
    subst hy
    exact ⟨v, w, run_append_nil_any w base ty v xs hown c, by rw [List.append_nil]; exact hown, World.grownBy.refl w _, .inl rfl⟩
  · obtain ⟨i, hi, hz, hsz, hby⟩ := info_parts u8_info
    obtain ⟨v', w', hrun, h2, h3, _, h5⟩ := run_append_own_at (P := Try.prog) w base 35 ty 5 i (.int .u8 0) 1 1 Try.underlying35 hi hz hsz hby rfl (by decide) v xs.length (bVs xs) hown ad m c (bVs ys) (by rw [bVs_length]; omega)
      (fun j u hu => by
        have hj : j < m := by
          rcases Nat.lt_or_ge j m with h | h
          · exact h
          · rw [List.getElem?_eq_none (by rw [bVs_length]; omega)] at hu; cases hu
        obtain ⟨g, o, hA, _, hc⟩ := hr.2 (by omega)
        injection hA with hA
        subst hA
        have := hc j u hu
        unfold Addr.add
        split
        · next h0 => subst h0; simpa using this
        · exact this)
      (fun u hu => bVs_one hu) (by simp only [maxLen]; omega) (by omega) hbase
    refine ⟨v', w', hrun, ?_, h3, h5⟩
    unfold OwnV
    rw [bVs_append, List.length_append, hm]
    exact h2
theorem wpList_append_rd {ops : Array Oper} {rest : List Oper} {o : Oper} {a : Act} {W : World} {Q : Exit → Act → World → Prop} (s x : Operand) (hgd : o.guard = none)
    (ho : o.op = .call { callee := .builtin .append, args := #[s, x], argTypes := #[35, 35] })
    (base : Nat) (v : Value) (xs ys : List UInt8) (hs : a.eval s = v) (hown : OwnV W base v xs) (B : Nat) (A : Option Addr) (m c : Nat) (hx : a.eval x = .slice A m c) (hr : Rd W B A m (bVs ys))
    (hlen : xs.length + m ≤ 140737488355328) (hbase : base ≤ W.heap.size)
    (h : ∀ v' w', OwnV w' base v' (xs ++ ys) → W.grownBy w' v.ownBlock → (v'.ownBlock = v.ownBlock ∨ v'.ownBlock = some W.heap.size) → wpList Try.prog ops Q rest (a.put o.dst v') w') : wpList Try.prog ops Q (o :: rest) a W := by
  obtain ⟨v', w', hrun, h1, h2, h3⟩ := run_append_rd W base o.type v xs ys hown B A m c hr hlen hbase
  refine wpList_plain hgd fun _ hK => ?_
  unfold Oper.wp execOp
  simp only [ho, resolve, invoke, builtin, Sem.run_bind, Sem.run_pure, Result.andThen_ok, List.map_toArray, List.map_cons, List.map_nil, hs, hx, hrun]
  exact hK _ _ (h v' w' h1 h2 h3)
/-- an empty list that was just made -/
theorem own_empty (w : World) (base : Nat) (hb : base ≤ w.heap.size) (t : TypeId) (ht : t = 5) : OwnV (w.alloc (.cells #[] t)) base (.slice (some ⟨w.heap.size, 0, none⟩) 0 0) [] := by
  subst ht
  exact ⟨rfl, .inr ⟨w.heap.size, 0, #[], rfl, hb, heap_alloc_new w _, Nat.le_refl _, Nat.zero_le _, rfl, rfl⟩⟩
theorem grown_below {B : Nat} {w w' : World} {row : Option Nat} (hg : w.grownBy w' row) (hB : B ≤ w.heap.size) (hr : ∀ k, row = some k → B ≤ k) : Below B w w' := (Below.refl B w).grown hg hB hr
theorem OwnV.base_le {w : World} {base : Nat} {v : Value} {xs : List UInt8} (h : OwnV w base v xs) : ∀ k, v.ownBlock = some k → base ≤ k ∧ k < w.heap.size := World.ownsRow.lt h

theorem OwnV.slice' {w : World} {base n : Nat} {v : Value} {xs : List UInt8} (h : OwnV w base v xs) (hn : xs.length = n) : ∃ A cap, v = .slice A n cap ∧ OwnB w base A n cap xs := by
  subst hn; exact h.slice
theorem grown_setCell {a w : World} {row : Option Nat} (h : a.grownBy w row) {p : Addr} (hp : some p.block = row ∨ a.heap.size ≤ p.block) (u : Value) : a.grownBy (w.setCell p u) row :=
  ⟨h.os, h.tape, h.output, by simpa using h.size, fun k hk hne => (Below.heap_setCell w p u k (by
    rintro rfl
    rcases hp with hp | hp
    · exact hne hp
    · omega)).trans (h.block k hk hne)⟩
theorem grown_alloc {a w : World} {row : Option Nat} (h : a.grownBy w row) (o : Obj) : a.grownBy (w.alloc o) row :=
  ⟨h.os, h.tape, h.output, Nat.le_trans h.size (by simp), fun k hk hne => (Below.heap_alloc w o k (Nat.lt_of_lt_of_le hk h.size)).trans (h.block k hk hne)⟩
theorem grown_drewN {a w : World} {row : Option Nat} (h : a.grownBy w row) (n : Nat) : a.grownBy (w.drewN n) row := ⟨h.os, h.tape, h.output, h.size, h.block⟩
theorem grown_below' {a w w' : World} {row : Option Nat} (h : a.grownBy w row) (hb : Below w.heap.size w w') : a.grownBy w' row :=
  ⟨hb.os.trans h.os, hb.tape.trans h.tape, hb.output.trans h.output, Nat.le_trans h.size hb.size, fun k hk hne => (hb.block k (Nat.lt_of_lt_of_le hk h.size)).trans (h.block k hk hne)⟩
theorem rd_new (w : World) (xs : List UInt8) (n : Nat) (hn : xs.length = n) (t : TypeId) : Rd (w.alloc (.cells (bVs xs).toArray t)) (w.heap.size + 1) (some ⟨w.heap.size, 0, none⟩) n (bVs xs) := by
  refine ⟨by rw [bVs_length, hn], fun _ => ⟨w.heap.size, 0, rfl, by omega, fun j u hu => ?_⟩⟩
  rw [Nat.zero_add, cell_of_row _ _ _ _ _ _ (heap_alloc_new w _), List.getElem?_toArray]
  exact hu
theorem OwnB.spoil {w w' : World} {base n cap : Nat} {A : Option Addr} {xs : List UInt8} {row : Option Nat} (h : OwnB w base A n cap xs) (hg : w.grownBy w' row) (hne : ∀ k, row = some k → k < base) : OwnB w' base A n cap xs := by
  refine h.keep fun g hA => ?_
  subst hA
  have := h.row g rfl
  refine hg.block g this.2 ?_
  intro e
  have := hne g e.symm
  omega
theorem Rd.spoil {w w' : World} {B n : Nat} {A : Option Addr} {xs : List Value} {row : Option Nat} (h : Rd w B A n xs) (hg : w.grownBy w' row) (hB : B ≤ w.heap.size) (hr : ∀ k, row = some k → B ≤ k) : Rd w' B A n xs :=
  h.keep fun k hk => hg.block k (by omega) (fun e => by have := hr k e.symm; omega)
end Go.Proofs.Ythbjcafldbocpaa
