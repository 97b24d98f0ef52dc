/- Rows of bytes by their blocks' type; slices of slices: words. -/
import Derived.Test.YthbjcafldbocpaaMem
import Derived.Test.YthbjcafldbocpaaApp
import Derived.Test.YthbjcafldbocpaaBr
namespace Go.Proofs.Ythbjcafldbocpaa
open Go.RowKit
set_option linter.unusedVariables false
set_option linter.unusedSimpArgs false

/-- the slice at the address A reads as xs, out of a block of bytes -/
def RdT (w : World) (A : Option Addr) (xs : List UInt8) : Prop :=
  0 < xs.length → ∃ g o cells, A = some ⟨g, o, none⟩ ∧ w.heap[g]? = some (Obj.cells cells 5 (0, 0)) ∧ ∀ j, j < xs.length → cells[o + j]? = some (.int .u8 ((xs.getD j 0).toNat : Int))
section
variable {w w' : World} {A : Option Addr} {xs : List UInt8}
theorem heap_lt {w : World} {g : Nat} {o : Obj} (h : w.heap[g]? = some o) : g < w.heap.size := by
  rcases Nat.lt_or_ge g w.heap.size with hlt | hge
  · exact hlt
  · rw [Array.getElem?_eq_none hge] at h; cases h
theorem RdT.nil (w : World) (A : Option Addr) : RdT w A [] := fun h => absurd h (by simp)
theorem RdT.rd (h : RdT w A xs) : Rd w w.heap.size A xs.length (bVs xs) := by
  refine ⟨bVs_length xs, fun hn => ?_⟩
  obtain ⟨g, o, cells, rfl, hb, hc⟩ := h hn
  refine ⟨g, o, rfl, heap_lt hb, fun j u hu => ?_⟩
  have hj : j < xs.length := by
    rcases Nat.lt_or_ge j xs.length with hlt | hge
    · exact hlt
    · rw [List.getElem?_eq_none (by rw [bVs_length]; exact hge)] at hu; cases hu
  rw [cell_of_row w g (o + j) cells 5 (0, 0) hb, hc j hj, ← hu, bVs_get xs j hj]
  simp [List.getD, hj]
theorem RdT.keep (h : RdT w A xs) (hk : ∀ (g : Nat) (cells : Array Value), w.heap[g]? = some (Obj.cells cells 5 (0, 0)) → w'.heap[g]? = w.heap[g]?) : RdT w' A xs := by
  intro hn
  obtain ⟨g, o, cells, e, hb, hc⟩ := h hn
  exact ⟨g, o, cells, e, (hk g cells hb).trans hb, hc⟩
theorem RdT.below (h : RdT w A xs) (hb : Below w.heap.size w w') : RdT w' A xs := h.keep fun g cells hg => hb.block g (heap_lt hg)
theorem RdT.grown (h : RdT w A xs) {g' : Nat} (hg : w.grownBy w' (some g')) {t : TypeId} {ys : List Value} (hr : Row w g' t ys) (ht : t ≠ 5) : RdT w' A xs :=
  h.keep fun g cells hb => hg.block g (heap_lt hb) (by
    intro e
    injection e with e
    subst e
    unfold Row at hr
    rw [hb] at hr
    injection hr with hr
    injection hr with _ e2
    exact ht e2.symm)
theorem RdT.set (h : RdT w A xs) {p : Addr} {t : TypeId} {ys : List Value} (hr : Row w p.block t ys) (ht : t ≠ 5) (u : Value) : RdT (w.setCell p u) A xs :=
  h.keep fun g cells hb => Below.heap_setCell w p u g (by
    rintro rfl
    unfold Row at hr
    rw [hb] at hr
    injection hr with hr
    injection hr with _ e2
    exact ht e2.symm)
theorem RdT.of_own {base n cap : Nat} (h : OwnB w base A n cap xs) : RdT w A xs := by
  intro hn
  rcases h.2.2 with ⟨_, h0⟩ | ⟨g, c, cur, hv, hg, hh, h1, h2, h3, h4⟩
  · have := h.1; omega
  · simp only [Value.slice.injEq] at hv
    obtain ⟨rfl, _, _⟩ := hv
    refine ⟨g, 0, cur, rfl, hh, fun j hj => ?_⟩
    have e : (bVs xs)[j]? = some (.int .u8 ((xs[j]).toNat : Int)) := bVs_get xs j hj
    rw [Nat.zero_add]
    have h5 : cur[j]? = (bVs xs)[j]? := by
      rw [← h4, List.getElem?_take, if_pos (by have := h.1; omega), Array.getElem?_toList]
    rw [h5, e]
    simp [List.getD, hj]
theorem rowA_zero (A : Option Addr) (k : Nat) (f : Option Addr → Option Addr) : True := trivial
theorem RdT.sub {k c n : Nat} (h : RdT w A xs) (hl : xs.length = n) (hk : k + c ≤ n) {A' : Option Addr} (hA : 0 < c → ∀ g o, A = some ⟨g, o, none⟩ → A' = some ⟨g, o + k, none⟩) : RdT w A' ((xs.drop k).take c) := by
  have hlen : ((xs.drop k).take c).length = c := by rw [List.length_take, List.length_drop]; omega
  intro hn
  rw [hlen] at hn
  obtain ⟨g, o, cells, rfl, hb, hc⟩ := h (by omega)
  refine ⟨g, o + k, cells, hA hn g o rfl, hb, fun j hj => ?_⟩
  rw [hlen] at hj
  rw [Nat.add_assoc, hc (k + j) (by omega)]
  have e : ((xs.drop k).take c).getD j 0 = xs.getD (k + j) 0 := by
    rw [List.getD_eq_getElem?_getD, List.getElem?_take, if_pos hj, List.getElem?_drop, List.getD_eq_getElem?_getD]
  rw [e]
end
/-- the slice of n slices at the address A reads as the lists L, each of c elements -/
def Lst (w : World) (A : Option Addr) (n c : Nat) (L : List (List UInt8)) : Prop :=
  L.length = n ∧ (∀ i, i < n → (L.getD i []).length = c) ∧ (0 < n → ∃ g lv, A = some ⟨g, 0, none⟩ ∧ Row w g 35 lv ∧ n ≤ lv.length ∧ ∀ i, i < n → ∃ Ai ci, lv[i]? = some (.slice Ai c ci) ∧ c ≤ ci ∧ RdT w Ai (L.getD i []))
section
variable {w w' : World} {A : Option Addr} {n c : Nat} {L : List (List UInt8)}
theorem Lst.len (h : Lst w A n c L) : L.length = n := h.1
theorem Lst.width (h : Lst w A n c L) {i : Nat} (hi : i < n) : (L.getD i []).length = c := h.2.1 i hi
theorem Lst.at_ (h : Lst w A n c L) {i : Nat} (hi : i < n) : ∃ g Ai ci, A = some ⟨g, 0, none⟩ ∧ g < w.heap.size ∧ w.cell? ⟨g, i, none⟩ = some (.slice Ai c ci) ∧ w.frozen? ⟨g, i, none⟩ = false ∧ c ≤ ci ∧ RdT w Ai (L.getD i []) := by
  obtain ⟨g, lv, e, hr, hl, hc⟩ := h.2.2 (by omega)
  obtain ⟨Ai, ci, h1, h2, h3⟩ := hc i hi
  exact ⟨g, Ai, ci, e, hr.lt, by rw [hr.cell, h1], hr.frozen i, h2, h3⟩
theorem Lst.row (h : Lst w A n c L) (hn : 0 < n) : ∃ g lv, A = some ⟨g, 0, none⟩ ∧ Row w g 35 lv := by
  obtain ⟨g, lv, e, hr, _⟩ := h.2.2 hn
  exact ⟨g, lv, e, hr⟩
theorem Lst.keep (h : Lst w A n c L) (h1 : ∀ (g : Nat) (cells : Array Value), w.heap[g]? = some (Obj.cells cells 5 (0, 0)) → w'.heap[g]? = w.heap[g]?) (h2 : ∀ g : Nat, A = some ⟨g, 0, none⟩ → w'.heap[g]? = w.heap[g]?) : Lst w' A n c L := by
  refine ⟨h.1, h.2.1, fun hn => ?_⟩
  obtain ⟨g, lv, e, hr, hl, hc⟩ := h.2.2 hn
  refine ⟨g, lv, e, hr.of_block (h2 g e), hl, fun i hi => ?_⟩
  obtain ⟨Ai, ci, q1, q2, q3⟩ := hc i hi
  exact ⟨Ai, ci, q1, q2, q3.keep h1⟩
theorem Lst.below (h : Lst w A n c L) (hb : Below w.heap.size w w') : Lst w' A n c L := by
  refine ⟨h.1, h.2.1, fun hn => ?_⟩
  obtain ⟨g, lv, e, hr, hl, hc⟩ := h.2.2 hn
  refine ⟨g, lv, e, hr.below hb hr.lt, hl, fun i hi => ?_⟩
  obtain ⟨Ai, ci, q1, q2, q3⟩ := hc i hi
  exact ⟨Ai, ci, q1, q2, q3.below hb⟩
theorem Lst.drewN (h : Lst w A n c L) (k : Nat) : Lst (w.drewN k) A n c L := h
theorem Lst.drew (h : Lst w A n c L) : Lst w.drew A n c L := h
/-- another block, of another type than bytes, is written -/
theorem Lst.far (h : Lst w A n c L) {p : Addr} {t : TypeId} {ys : List Value} (hr : Row w p.block t ys) (ht : t ≠ 5) (hA : A ≠ some ⟨p.block, 0, none⟩) (u : Value) : Lst (w.setCell p u) A n c L := by
  refine h.keep (fun g cells hb => Below.heap_setCell w p u g ?_) (fun g e => Below.heap_setCell w p u g ?_)
  · rintro rfl
    unfold Row at hr
    rw [hb] at hr
    injection hr with hr
    injection hr with _ e2
    exact ht e2.symm
  · rintro rfl
    exact hA e
theorem Lst.grown (h : Lst w A n c L) {g' : Nat} (hg : w.grownBy w' (some g')) {t : TypeId} {ys : List Value} (hr : Row w g' t ys) (ht : t ≠ 5) (hA : A ≠ some ⟨g', 0, none⟩) : Lst w' A n c L := by
  refine ⟨h.1, h.2.1, fun hn => ?_⟩
  obtain ⟨g, lv, e, hr2, hl, hc⟩ := h.2.2 hn
  refine ⟨g, lv, e, hr2.of_block (hg.block g hr2.lt (fun e2 => by injection e2 with e2; subst e2; exact hA e)), hl, fun i hi => ?_⟩
  obtain ⟨Ai, ci, q1, q2, q3⟩ := hc i hi
  exact ⟨Ai, ci, q1, q2, q3.grown hg hr ht⟩
theorem set_getD {L : List (List UInt8)} {i j : Nat} {x : List UInt8} (h : i < L.length) : (L.set i x).getD j [] = if j = i then x else L.getD j [] := by
  rw [List.getD_eq_getElem?_getD, List.getD_eq_getElem?_getD, List.getElem?_set]
  by_cases e : i = j
  · rw [if_pos e, if_pos h, if_pos e.symm]; rfl
  · rw [if_neg e, if_neg (fun h2 => e h2.symm)]
/-- one of its slices is exchanged -/
theorem Lst.store (h : Lst w A n c L) {i : Nat} (hi : i < n) {g : Nat} (hA : A = some ⟨g, 0, none⟩) {A' : Option Addr} {c' : Nat} {x : List UInt8} (hx : x.length = c) (hc' : c ≤ c') (hr : RdT w A' x) : Lst (w.setCell ⟨g, i, none⟩ (.slice A' c c')) A n c (L.set i x) := by
  obtain ⟨g2, lv, e, hrow, hl, hc⟩ := h.2.2 (by omega)
  rw [hA] at e
  simp only [Option.some.injEq, Addr.mk.injEq, and_true] at e
  subst e
  have hne : (35 : TypeId) ≠ 5 := by decide
  refine ⟨by rw [List.length_set]; exact h.1, fun j hj => ?_, fun _ => ⟨g, lv.set i (.slice A' c c'), hA, hrow.set i _, by rw [List.length_set]; exact hl, fun j hj => ?_⟩⟩
  · rw [set_getD (by rw [h.1]; exact hi)]
    split
    · exact hx
    · exact h.2.1 j hj
  · rw [set_getD (by rw [h.1]; exact hi), List.getElem?_set]
    by_cases e : i = j
    · rw [if_pos e, if_pos (by omega), if_pos e.symm]
      exact ⟨A', c', rfl, hc', hr.set hrow hne _⟩
    · obtain ⟨Ai, ci, q1, q2, q3⟩ := hc j hj
      rw [if_neg e, if_neg (fun h2 => e h2.symm)]
      exact ⟨Ai, ci, q1, q2, q3.set hrow hne _⟩
end
end Go.Proofs.Ythbjcafldbocpaa
