/- Words for memory: lists that are read, rows that are made. -/
import Derived.Test.YthbjcafldbocpaaProg
import Derived.WalkKit
import Derived.WalkSpells
import Derived.WalkLawsBesides
import Derived.Lib.Hide
import Derived.Below
import Derived.Laws.Rows
import Derived.Laws.MakeOwn
import Derived.Laws.OwnMore
import Derived.Deep.Draws
namespace Go.Proofs.Ythbjcafldbocpaa
open Go.RowKit
set_option linter.unusedVariables false
set_option linter.unusedSimpArgs false

/-- a byte as a value; bytes as values -/
abbrev bV (x : UInt8) : Value := .int .u8 (x.toNat : Int)
def bVs (xs : List UInt8) : List Value := xs.map fun x => .int .u8 (x.toNat : Int)
theorem bVs_length (xs : List UInt8) : (bVs xs).length = xs.length := by simp [bVs]
theorem bVs_get (xs : List UInt8) (i : Nat) (h : i < xs.length) : (bVs xs)[i]? = some (.int .u8 ((xs[i]).toNat : Int)) := by simp [bVs, h]
theorem bVs_append (xs ys : List UInt8) : bVs (xs ++ ys) = bVs xs ++ bVs ys := by simp [bVs]
theorem bVs_take (xs : List UInt8) (n : Nat) : (bVs xs).take n = bVs (xs.take n) := by simp [bVs, List.map_take]
theorem bVs_one {u : Value} {xs : List UInt8} (h : u ∈ bVs xs) : u.oneCell' = true := by
  simp only [bVs, List.mem_map] at h
  obtain ⟨x, _, rfl⟩ := h
  rfl

/-- The slice value with the address A and n elements reads as the values xs, in blocks below B. -/
def Rd (w : World) (B : Nat) (A : Option Addr) (n : Nat) (xs : List Value) : Prop :=
  xs.length = n ∧ (0 < n → ∃ g o, A = some ⟨g, o, none⟩ ∧ g < B ∧ ∀ j u, xs[j]? = some u → w.cell? ⟨g, o + j, none⟩ = some u)
section
variable {w w' : World} {B B' n : Nat} {A : Option Addr} {xs : List Value}
theorem Rd.len (h : Rd w B A n xs) : xs.length = n := h.1
theorem Rd.nil : Rd w B A 0 [] := ⟨rfl, fun h => absurd h (by omega)⟩
theorem Rd.at_ (h : Rd w B A n xs) {k : Nat} (hk : k < n) : ∃ g o u, A = some ⟨g, o, none⟩ ∧ g < B ∧ xs[k]? = some u ∧ w.cell? ⟨g, o + k, none⟩ = some u := by
  obtain ⟨g, o, hA, hg, hc⟩ := h.2 (by omega)
  have hl : k < xs.length := by have := h.1; omega
  exact ⟨g, o, xs[k], hA, hg, List.getElem?_eq_getElem hl, hc k _ (List.getElem?_eq_getElem hl)⟩
theorem Rd.keep (h : Rd w B A n xs) (hk : ∀ k, k < B → w'.heap[k]? = w.heap[k]?) : Rd w' B A n xs :=
  ⟨h.1, fun hn => by
    obtain ⟨g, o, hA, hg, hc⟩ := h.2 hn
    exact ⟨g, o, hA, hg, fun j u hu => (World.cell?_of_block (hk g hg)).trans (hc j u hu)⟩⟩
theorem Rd.more (h : Rd w B A n xs) (hB : B ≤ B') : Rd w B' A n xs :=
  ⟨h.1, fun hn => by
    obtain ⟨g, o, hA, hg, hc⟩ := h.2 hn
    exact ⟨g, o, hA, by omega, hc⟩⟩
theorem Rd.below (h : Rd w B A n xs) (hb : Below B' w w') (hB : B ≤ B') : Rd w' B A n xs := h.keep fun k hk => hb.block k (by omega)
theorem Rd.go (h : Rd w w.heap.size A n xs) (hb : Below w.heap.size w w') : Rd w' w'.heap.size A n xs := (h.below hb (Nat.le_refl _)).more hb.size
theorem Rd.take (h : Rd w B A n xs) {k : Nat} (hk : k ≤ n) : Rd w B A k (xs.take k) := by
  refine ⟨by rw [List.length_take, h.1]; omega, fun hp => ?_⟩
  obtain ⟨g, o, hA, hg, hc⟩ := h.2 (by omega)
  refine ⟨g, o, hA, hg, fun j u hu => hc j u ?_⟩
  rw [List.getElem?_take] at hu
  split at hu
  · exact hu
  · cases hu
end

/-- Block g is the cells ys of the type t, none of them frozen. -/
def Row (w : World) (g : Nat) (t : TypeId) (ys : List Value) : Prop := w.heap[g]? = some (.cells ys.toArray t (0, 0))
section
variable {w w' : World} {g : Nat} {t : TypeId} {ys : List Value}
theorem Row.lt (h : Row w g t ys) : g < w.heap.size := by
  rcases Nat.lt_or_ge g w.heap.size with hlt | hge
  · exact hlt
  · unfold Row at h; rw [Array.getElem?_eq_none hge] at h; cases h
theorem Row.cell (h : Row w g t ys) (i : Nat) : w.cell? ⟨g, i, none⟩ = ys[i]? := by
  rw [cell_of_row w g i _ t (0, 0) h, List.getElem?_toArray]
theorem Row.has (h : Row w g t ys) {i : Nat} (hi : i < ys.length) : ∃ old, w.cell? ⟨g, i, none⟩ = some old := ⟨ys[i], by rw [h.cell, List.getElem?_eq_getElem hi]⟩
theorem Row.frozen (h : Row w g t ys) (i : Nat) : w.frozen? ⟨g, i, none⟩ = false := frozen_of_row w g i _ t h
theorem Row.made (w : World) (z : Value) (n : Nat) (t : TypeId) : Row (w.alloc (.cells (madeCells #[z] n) t)) w.heap.size t (List.replicate n z) := by
  unfold Row
  rw [heap_alloc_new, ← toList_madeCells_one z n, Array.toArray_toList]
theorem Row.new (w : World) (cs : List Value) (t : TypeId) : Row (w.alloc (.cells cs.toArray t)) w.heap.size t cs := heap_alloc_new w _
theorem Row.three {a b c : Value} (h : Row w g t [a, b, c]) : w.cell? ⟨g, 0, none⟩ = some a ∧ w.cell? ⟨g, 1, none⟩ = some b ∧ w.cell? ⟨g, 2, none⟩ = some c ∧ w.frozen? ⟨g, 0, none⟩ = false ∧ w.frozen? ⟨g, 1, none⟩ = false ∧ w.frozen? ⟨g, 2, none⟩ = false :=
  ⟨h.cell 0, h.cell 1, h.cell 2, h.frozen 0, h.frozen 1, h.frozen 2⟩
theorem Row.of_block (h : Row w g t ys) (hb : w'.heap[g]? = w.heap[g]?) : Row w' g t ys := hb.trans h
theorem Row.alloc (h : Row w g t ys) (o : Obj) : Row (w.alloc o) g t ys := (Below.heap_alloc w o g h.lt).trans h
theorem Row.set (h : Row w g t ys) (i : Nat) (u : Value) : Row (w.setCell ⟨g, i, none⟩ u) g t (ys.set i u) := by
  unfold Row
  rw [heap_setCell_same w g i _ t u h, List.setIfInBounds_toArray]
theorem Row.far (h : Row w g t ys) {p : Addr} (hp : g ≠ p.block) (u : Value) : Row (w.setCell p u) g t ys := (Below.heap_setCell w p u g hp).trans h
theorem Row.below {B : Nat} (h : Row w g t ys) (hb : Below B w w') (hg : g < B) : Row w' g t ys := (hb.block g hg).trans h
theorem Row.drewN (h : Row w g t ys) (k : Nat) : Row (w.drewN k) g t ys := h
theorem Row.owns (h : Row w g t ys) {base n : Nat} (hb : base ≤ g) (hn : n ≤ ys.length) (hm : ys.length ≤ maxLen) : w.ownsRow base t 1 (.slice (some ⟨g, 0, none⟩) n ys.length) n (ys.take n) := by
  refine ⟨by rw [List.length_take]; omega, .inr ⟨g, ys.length, ys.toArray, rfl, hb, h, hn, hm, by simp, by simp⟩⟩
end
theorem below_drewN {B : Nat} {a w : World} (h : Below B a w) (n : Nat) : Below B a (w.drewN n) := ⟨h.os, h.tape, h.output, h.size, h.block⟩
/-- What is owned reads. -/
theorem rd_of_own {w : World} {base : Nat} {t : TypeId} {A : Option Addr} {n cap : Nat} {xs : List Value} (h : w.ownsRow base t 1 (.slice A n cap) n xs) : Rd w w.heap.size A n xs := by
  refine ⟨by have := h.1; omega, fun hn => ?_⟩
  rcases h.2 with ⟨hv, h0⟩ | ⟨g, c, cur, hv, _, hh, _, _, _, _⟩
  · omega
  · simp only [Value.slice.injEq] at hv
    obtain ⟨rfl, _, rfl⟩ := hv
    refine ⟨g, 0, rfl, ?_, fun j u hu => ?_⟩
    · rcases Nat.lt_or_ge g w.heap.size with hlt | hge
      · exact hlt
      · rw [Array.getElem?_eq_none hge] at hh; cases hh
    · have hj : j < xs.length := by
        rcases Nat.lt_or_ge j xs.length with hlt | hge
        · exact hlt
        · rw [List.getElem?_eq_none hge] at hu; cases hu
      rw [Nat.zero_add, h.cellAt j (by have := h.1; omega)]
      exact hu
/-- The slice value with the address A, n elements and the capacity cap is the call's own (made from block base on), and holds the bytes xs. -/
def OwnB (w : World) (base : Nat) (A : Option Addr) (n cap : Nat) (xs : List UInt8) : Prop := xs.length = n ∧ w.ownsRow base 5 1 (.slice A n cap) n (bVs xs)
theorem OwnB.rd {w : World} {base n cap : Nat} {A : Option Addr} {xs : List UInt8} (h : OwnB w base A n cap xs) : Rd w w.heap.size A n (bVs xs) := rd_of_own h.2
theorem OwnB.mono {w : World} {base base' n cap : Nat} {A : Option Addr} {xs : List UInt8} (h : OwnB w base A n cap xs) (hb : base' ≤ base) : OwnB w base' A n cap xs := by
  refine ⟨h.1, h.2.1, ?_⟩
  rcases h.2.2 with h' | ⟨g, c, cur, hv, hg, rest⟩
  · exact .inl h'
  · exact .inr ⟨g, c, cur, hv, by omega, rest⟩
theorem OwnB.keep {w w' : World} {base n cap : Nat} {A : Option Addr} {xs : List UInt8} (h : OwnB w base A n cap xs) (hb : ∀ g, A = some ⟨g, 0, none⟩ → w'.heap[g]? = w.heap[g]?) : OwnB w' base A n cap xs := by
  refine ⟨h.1, h.2.1, ?_⟩
  rcases h.2.2 with h' | ⟨g, c, cur, hv, hg, hh, rest⟩
  · exact .inl h'
  · simp only [Value.slice.injEq] at hv
    obtain ⟨rfl, _, rfl⟩ := hv
    exact .inr ⟨g, cap, cur, rfl, hg, (hb g rfl).trans hh, rest⟩
theorem OwnB.below {w w' : World} {base B n cap : Nat} {A : Option Addr} {xs : List UInt8} (h : OwnB w base A n cap xs) (hb : Below B w w') (hB : w.heap.size ≤ B) : OwnB w' base A n cap xs := by
  refine h.keep fun g hA => hb.block g ?_
  subst hA
  rcases h.2.2 with ⟨h', _⟩ | ⟨g', c, cur, hv, hg, hh, rest⟩
  · cases h'
  · simp only [Value.slice.injEq, Option.some.injEq, Addr.mk.injEq, and_true, true_and] at hv
    obtain ⟨rfl, _⟩ := hv
    rcases Nat.lt_or_ge g w.heap.size with hlt | hge
    · omega
    · rw [Array.getElem?_eq_none hge] at hh; cases hh
theorem Row.ownB {w : World} {g : Nat} {ys : List UInt8} (h : Row w g 5 (bVs ys)) {base n : Nat} (hb : base ≤ g) (hn : ys.length = n) (hm : n ≤ maxLen) : OwnB w base (some ⟨g, 0, none⟩) n n ys := by
  have h1 := h.owns (n := n) hb (by rw [bVs_length]; omega) (by rw [bVs_length]; omega)
  rw [bVs_length, hn, List.take_of_length_le (by rw [bVs_length]; omega)] at h1
  exact ⟨hn, h1⟩
theorem OwnB.far {w : World} {base n cap : Nat} {A : Option Addr} {xs : List UInt8} (h : OwnB w base A n cap xs) {p : Addr} (hp : p.block < base) (u : Value) : OwnB (w.setCell p u) base A n cap xs := by
  refine ⟨h.1, h.2.1, ?_⟩
  rcases h.2.2 with h' | ⟨g, c, cur, hv, hg, hh, rest⟩
  · exact .inl h'
  · exact .inr ⟨g, c, cur, hv, hg, (Below.heap_setCell w p u g (by omega)).trans hh, rest⟩
theorem OwnB.far3 {w : World} {base n cap g : Nat} {A : Option Addr} {xs : List UInt8} (h : OwnB w base A n cap xs) (hg : g < base) (a b c : Value) : OwnB (((w.setCell ⟨g, 0, none⟩ a).setCell ⟨g, 1, none⟩ b).setCell ⟨g, 2, none⟩ c) base A n cap xs :=
  ((h.far hg _).far hg _).far hg _
theorem below_set3 {B g : Nat} {a w : World} (h : Below B a w) (hg : B ≤ g) (x y z : Value) : Below B a (((w.setCell ⟨g, 0, none⟩ x).setCell ⟨g, 1, none⟩ y).setCell ⟨g, 2, none⟩ z) := ((h.setCell hg _).setCell hg _).setCell hg _
theorem Row.set3 {w : World} {g : Nat} {t : TypeId} {a b c : Value} (h : Row w g t [a, b, c]) (x y z : Value) : Row (((w.setCell ⟨g, 0, none⟩ x).setCell ⟨g, 1, none⟩ y).setCell ⟨g, 2, none⟩ z) g t [x, y, z] := ((h.set 0 x).set 1 y).set 2 z
theorem Row.far3 {w : World} {g g' : Nat} {t : TypeId} {ys : List Value} (h : Row w g t ys) (hg : g ≠ g') (x y z : Value) : Row (((w.setCell ⟨g', 0, none⟩ x).setCell ⟨g', 1, none⟩ y).setCell ⟨g', 2, none⟩ z) g t ys := ((h.far hg x).far hg y).far hg z
theorem row_made_bytes (w : World) (n : Nat) : Row (w.alloc (.cells (madeCells #[.int .u8 0] n) 5)) w.heap.size 5 (bVs (List.replicate n 0)) := by
  have h := Row.made w (.int .u8 0) n 5
  have e : bVs (List.replicate n 0) = List.replicate n (.int .u8 0) := by simp [bVs]
  rw [e]; exact h
theorem bVs_set (xs : List UInt8) (i : Nat) (x : UInt8) : (bVs xs).set i (.int .u8 (x.toNat : Int)) = bVs (xs.set i x) := by simp [bVs, List.map_set]
theorem rd_get {w : World} {B : Nat} {A : Option Addr} {n : Nat} {xs : List UInt8} (h : Rd w B A n (bVs xs)) {k : Nat} (hk : k < n) :
    ∃ g o, A = some ⟨g, o, none⟩ ∧ g < B ∧ w.cell? ⟨g, o + k, none⟩ = some (.int .u8 ((xs.getD k 0).toNat : Int)) := by
  obtain ⟨g, o, u, hA, hg, hu, hc⟩ := h.at_ hk
  have hl : k < xs.length := by have := h.len; rw [bVs_length] at this; omega
  rw [bVs_get xs k hl] at hu
  refine ⟨g, o, hA, hg, ?_⟩
  rw [hc, ← hu]
  simp [List.getD, hl]
theorem OwnB.row {w : World} {base n cap : Nat} {A : Option Addr} {xs : List UInt8} (h : OwnB w base A n cap xs) : ∀ k, (Value.slice A n cap).ownBlock = some k → base ≤ k ∧ k < w.heap.size := World.ownsRow.lt h.2
theorem OwnB.drewN {w : World} {base n cap : Nat} {A : Option Addr} {xs : List UInt8} (h : OwnB w base A n cap xs) (k : Nat) : OwnB (w.drewN k) base A n cap xs := h
theorem OwnB.at_ {w : World} {base n cap : Nat} {A : Option Addr} {xs : List UInt8} (h : OwnB w base A n cap xs) {i : Nat} (hi : i < n) :
    ∃ g, A = some ⟨g, 0, none⟩ ∧ base ≤ g ∧ g < w.heap.size ∧ w.cell? ⟨g, i, none⟩ = some (.int .u8 ((xs.getD i 0).toNat : Int)) ∧ w.frozen? ⟨g, i, none⟩ = false := by
  rcases h.2.2 with ⟨_, h0⟩ | ⟨g, c, cur, hv, hg, hh, hrest⟩
  · omega
  · simp only [Value.slice.injEq] at hv
    obtain ⟨rfl, _, rfl⟩ := hv
    have hlt : g < w.heap.size := by
      rcases Nat.lt_or_ge g w.heap.size with hlt | hge
      · exact hlt
      · rw [Array.getElem?_eq_none hge] at hh; cases hh
    have hl : i < xs.length := by have := h.1; omega
    refine ⟨g, rfl, hg, hlt, ?_, h.2.frozenAt i⟩
    rw [h.2.cellAt i (by omega), bVs_get xs i hl]
    simp [List.getD, hl]
theorem OwnB.store {w : World} {base n cap g : Nat} {xs : List UInt8} (h : OwnB w base (some ⟨g, 0, none⟩) n cap xs) (i : Nat) (x : UInt8) : OwnB (w.setCell ⟨g, i, none⟩ (.int .u8 (x.toNat : Int))) base (some ⟨g, 0, none⟩) n cap (xs.set i x) := by
  have h1 := (h.2.stored i (.int .u8 (x.toNat : Int))).1
  rw [bVs_set] at h1
  exact ⟨by rw [List.length_set]; exact h.1, h1⟩
theorem u8_info : (Try.prog.info? 5).map (fun i => (i.zero, i.size, i.bytes)) = some (some (.int .u8 0), 1, 1) := by kernel_rfl
/-- make([]byte, n) -/
theorem make_bytes (n : Nat) (hn : n ≤ 281474976710656) (w : World) :
    (Instr.makeSlice 35 (.int .i64 (n : Int)) (.int .i64 (n : Int))).run Try.prog w = .ok (.slice (some ⟨w.heap.size, 0, none⟩) n n) (w.alloc (.cells (madeCells #[.int .u8 0] n) 5)) := by
  obtain ⟨i, hi, hz, hs, hb⟩ := info_parts u8_info
  have h := run_make (P := Try.prog) w 35 5 i _ Try.underlying35 hi hz .i64 .i64 (n : Int) (n : Int) (by omega) (by omega) (by rw [hb]; omega) (by omega)
  rw [hs, Nat.mul_one, Int.toNat_natCast] at h
  exact h
end Go.Proofs.Ythbjcafldbocpaa
