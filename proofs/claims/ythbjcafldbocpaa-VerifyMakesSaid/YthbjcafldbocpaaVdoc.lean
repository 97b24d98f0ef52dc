/- The document's registers in memory: rows of bytes or nil. -/
import Derived.Test.YthbjcafldbocpaaVpl
import Derived.Test.YthbjcafldbocpaaRdT
import Derived.Test.YthbjcafldbocpaaVhas
import Derived.Lib.Hide
namespace Go.Proofs.Ythbjcafldbocpaa
open Go.RowKit
set_option linter.unusedVariables false
set_option linter.unusedSimpArgs false
/-- a register as a value: nil, or a slice that reads as the row -/
def ValO (W : World) (v : Value) : Option (List UInt8) → Prop
  | none => v = .slice none 0 0
  | some l => ∃ g c, v = .slice (some ⟨g, 0, none⟩) l.length c ∧ l.length ≤ c ∧ RdT W (some ⟨g, 0, none⟩) l
theorem ValO.keep {W W' : World} {v : Value} {o : Option (List UInt8)} (h : ValO W v o) (hk : ∀ (g : Nat) (cells : Array Value), W.heap[g]? = some (Obj.cells cells 5 (0, 0)) → W'.heap[g]? = W.heap[g]?) : ValO W' v o := by
  cases o with
  | none => exact h
  | some l => obtain ⟨g, c, e, hc, hr⟩ := h; exact ⟨g, c, e, hc, hr.keep hk⟩
def Vals (W : World) (lv : List Value) (rs : List (Option (List UInt8))) : Prop := lv.length = rs.length ∧ ∀ i, i < rs.length → ValO W (lv.getD i undef) (rs.getD i none)
theorem Vals.keep {W W' : World} {lv : List Value} {rs : List (Option (List UInt8))} (h : Vals W lv rs) (hk : ∀ (g : Nat) (cells : Array Value), W.heap[g]? = some (Obj.cells cells 5 (0, 0)) → W'.heap[g]? = W.heap[g]?) : Vals W' lv rs :=
  ⟨h.1, fun i hi => (h.2 i hi).keep hk⟩
theorem Vals.set {W : World} {lv : List Value} {rs : List (Option (List UInt8))} (h : Vals W lv rs) (D : Nat) {v : Value} {l : List UInt8} (hv : ValO W v (some l)) : Vals W (lv.set D v) (rs.set D (some l)) := by
  refine ⟨by simp [h.1], fun i hi => ?_⟩
  rw [List.length_set] at hi
  rw [set_getD', set_getD', h.1]
  by_cases hc : D = i ∧ D < rs.length
  · rw [if_pos hc, if_pos hc]; exact hv
  · rw [if_neg hc, if_neg hc]; exact h.2 i hi
theorem Vals.cell {W : World} {ga : Nat} {lv : List Value} {rs : List (Option (List UInt8))} (h : Vals W lv rs) (hr : Row W ga 35 lv) {i : Nat} (hi : i < rs.length) : ∃ v, W.cell? ⟨ga, i, none⟩ = some v ∧ ValO W v (rs.getD i none) := by
  have hl : i < lv.length := by rw [h.1]; exact hi
  refine ⟨lv[i], by rw [hr.cell, List.getElem?_eq_getElem hl], ?_⟩
  have := h.2 i hi
  rwa [List.getD_eq_getElem?_getD, List.getElem?_eq_getElem hl] at this
/-- the document's state in memory -/
structure DW (W : World) (gt ga gz nr no n : Nat) (st : VS) : Prop where
  ht : Row W gt 113 [.slice (some ⟨ga, 0, none⟩) nr nr, .slice (some ⟨gz, 0, none⟩) no no, .int .u64 (st.loads : Int)]
  la : ∃ lv, Row W ga 35 lv ∧ Vals W lv st.regs
  lz : ∃ lv, Row W gz 35 lv ∧ Vals W lv st.outs
  ok : st.Ok nr no n
  hl : st.loads < 2 ^ 64
  ne : ga ≠ gt ∧ gz ≠ gt ∧ gz ≠ ga
theorem row_type {W : World} {g : Nat} {t t' : TypeId} {ys : List Value} {cells : Array Value} (h : Row W g t ys) (hc : W.heap[g]? = some (Obj.cells cells t' (0, 0))) : t = t' := by
  unfold Row at h
  rw [hc] at h
  injection h with h
  injection h with _ e
  exact e.symm
/-- what only turns blocks that hold no bytes leaves the rows as they are -/
theorem DW.bytes {W W' : World} {gt ga gz nr no n : Nat} {st : VS} (h : DW W gt ga gz nr no n st) (hc : Chg3 W.heap.size gt ga gz W W') : ∀ (g : Nat) (cells : Array Value), W.heap[g]? = some (Obj.cells cells 5 (0, 0)) → W'.heap[g]? = W.heap[g]? := by
  intro g cells hg
  obtain ⟨lv, hr, _⟩ := h.la
  obtain ⟨lz, hz, _⟩ := h.lz
  refine hc.block g (heap_lt hg) ?_ ?_ ?_
  · rintro rfl; exact absurd (row_type h.ht hg) (by decide)
  · rintro rfl; exact absurd (row_type hr hg) (by decide)
  · rintro rfl; exact absurd (row_type hz hg) (by decide)
theorem DW.below {W W' : World} {gt ga gz nr no n : Nat} {st : VS} (h : DW W gt ga gz nr no n st) (hb : Below W.heap.size W W') : DW W' gt ga gz nr no n st := by
  have hk : ∀ (g : Nat) (cells : Array Value), W.heap[g]? = some (Obj.cells cells 5 (0, 0)) → W'.heap[g]? = W.heap[g]? := fun g cells hg => hb.block g (heap_lt hg)
  obtain ⟨lv, hr, hv⟩ := h.la
  obtain ⟨lz, hz, hw⟩ := h.lz
  exact ⟨h.ht.below hb h.ht.lt, ⟨lv, hr.below hb hr.lt, hv.keep hk⟩, ⟨lz, hz.below hb hz.lt, hw.keep hk⟩, h.ok, h.hl, h.ne⟩
theorem RdT.of_row {W : World} {g : Nat} {l : List UInt8} (h : Row W g 5 (bVs l)) : RdT W (some ⟨g, 0, none⟩) l := by
  intro hn
  refine ⟨g, 0, _, rfl, h, fun j hj => ?_⟩
  rw [Nat.zero_add, List.getElem?_toArray, bVs_get l j hj]
  simp [List.getD, hj]
set_option maxRecDepth 100000 in
theorem inside_calls (W : World) (ga nr r : Nat) (lv : List Value) (rs : List (Option (List UInt8))) (hr : Row W ga 35 lv) (hv : Vals W lv rs) (hl : rs.length = nr) :
    Calls Try.prog 68 #[.slice (some ⟨ga, 0, none⟩) nr nr, .int .i64 (r : Int)] W fun e W' => e = .returned (.bool (rs.getD r none).isSome) ∧ W' = W := by
  by_cases hlt : r < nr
  · have h1 : decide ((r : Int) < (nr : Int)) = true := decide_eq_true (by omega)
    have i0 : (0 : Int) ≤ (r : Int) := by omega
    have i1 : (r : Int) < (nr : Int) := by omega
    obtain ⟨v, hc, ho⟩ := hv.cell hr (i := r) (by omega)
    cases hx : rs.getD r none with
    | none =>
      rw [hx] at ho
      obtain rfl : v = .slice none 0 0 := ho
      go_enter Try.func68, Try.ntmps68
      go_wp2_with fail
      go_ret
      exact ⟨rfl, rfl⟩
    | some l =>
      rw [hx] at ho
      obtain ⟨g, c, rfl, _, _⟩ := ho
      go_enter Try.func68, Try.ntmps68
      go_wp2_with fail
      go_ret
      exact ⟨rfl, rfl⟩
  · have h1 : decide ((r : Int) < (nr : Int)) = false := decide_eq_false (by omega)
    have hx : rs.getD r none = none := by rw [List.getD_eq_getElem?_getD, List.getElem?_eq_none (by omega)]; rfl
    rw [hx]
    go_enter Try.func68, Try.ntmps68
    go_wp2_with fail
    go_ret
    exact ⟨rfl, rfl⟩
theorem inside_is (W : World) (ga nr r : Nat) (lv : List Value) (rs : List (Option (List UInt8))) (hr : Row W ga 35 lv) (hv : Vals W lv rs) (hl : rs.length = nr) (b : Bool) (hb : (rs.getD r none).isSome = b) :
    Calls Try.prog 68 #[.slice (some ⟨ga, 0, none⟩) nr nr, .int .i64 (r : Int)] W fun e W' => e = .returned (.bool b) ∧ W' = W := by
  rw [← hb]
  exact inside_calls W ga nr r lv rs hr hv hl
theorem DW.drewN {W : World} {gt ga gz nr no n : Nat} {st : VS} (h : DW W gt ga gz nr no n st) (k : Nat) : DW (W.drewN k) gt ga gz nr no n st := ⟨h.ht, h.la, h.lz, h.ok, h.hl, h.ne⟩
theorem setCell_bytes {W : World} {g i : Nat} {t : TypeId} {ys : List Value} (hr : Row W g t ys) (ht : t ≠ 5) (v : Value) : ∀ (k : Nat) (cells : Array Value), W.heap[k]? = some (Obj.cells cells 5 (0, 0)) → (W.setCell ⟨g, i, none⟩ v).heap[k]? = W.heap[k]? :=
  fun k cells hk => Below.heap_setCell W ⟨g, i, none⟩ v k (by rintro rfl; exact ht (row_type hr hk))
/-- a register is written -/
theorem DW.put {W W' : World} {gt ga gz nr no n : Nat} {st : VS} (h : DW W gt ga gz nr no n st) (hb : Below W.heap.size W W') (D : Nat) {l : List UInt8} (hl : l.length = n) {v : Value} (hv : ValO W' v (some l)) :
    DW (W'.setCell ⟨ga, D, none⟩ v) gt ga gz nr no n { st with regs := st.regs.set D (some l) } ∧ Chg3 W.heap.size gt ga gz W (W'.setCell ⟨ga, D, none⟩ v) := by
  obtain ⟨h1, ⟨lv, hr, hv2⟩, ⟨lz, hz, hw⟩, h4, h5, n1, n2, n3⟩ := h.below hb
  have hk := setCell_bytes (i := D) hr (by decide) v
  exact ⟨⟨h1.far (p := ⟨ga, D, none⟩) (Ne.symm n1) v, ⟨_, hr.set D v, (hv2.set D hv).keep hk⟩, ⟨lz, hz.far (p := ⟨ga, D, none⟩) n3 v, hw.keep hk⟩, h4.set D l hl st.loads, h5, n1, n2, n3⟩, (Chg3.of_below hb).set (g := ga) (.inr (.inl rfl)) D v⟩
/-- a place is written -/
theorem DW.putOut {W W' : World} {gt ga gz nr no n : Nat} {st : VS} (h : DW W gt ga gz nr no n st) (hb : Below W.heap.size W W') (D : Nat) {l : List UInt8} (hl : l.length = n) {v : Value} (hv : ValO W' v (some l)) :
    DW (W'.setCell ⟨gz, D, none⟩ v) gt ga gz nr no n { st with outs := st.outs.set D (some l) } ∧ Chg3 W.heap.size gt ga gz W (W'.setCell ⟨gz, D, none⟩ v) := by
  obtain ⟨h1, ⟨lv, hr, hv2⟩, ⟨lz, hz, hw⟩, h4, h5, n1, n2, n3⟩ := h.below hb
  have hk := setCell_bytes (i := D) hz (by decide) v
  refine ⟨⟨h1.far (p := ⟨gz, D, none⟩) (Ne.symm n2) v, ⟨lv, hr.far (p := ⟨gz, D, none⟩) (Ne.symm n3) v, hv2.keep hk⟩, ⟨_, hz.set D v, (hw.set D hv).keep hk⟩, ⟨h4.lr, by simp [h4.lo], h4.wr, fun i x hx => ?_⟩, h5, n1, n2, n3⟩, (Chg3.of_below hb).set (g := gz) (.inr (.inr (.inl rfl))) D v⟩
  simp only [set_getD'] at hx
  split at hx
  · injection hx with hx; rw [← hx]; exact hl
  · exact h4.wo i x hx
theorem Chg3.low3 {B B' a b c : Nat} {w w' : World} (h : Chg3 B a b c w w') (hB : B' ≤ B) : Chg3 B' a b c w w' := ⟨h.os, h.tape, h.output, h.size, fun k hk => h.block k (by omega)⟩
theorem ValO.of_row {W : World} {g n : Nat} {l : List UInt8} (h : Row W g 5 (bVs l)) (hl : l.length = n) : ValO W (.slice (some ⟨g, 0, none⟩) n n) (some l) := ⟨g, n, by rw [hl], by omega, RdT.of_row h⟩
end Go.Proofs.Ythbjcafldbocpaa
