/- Words for memory: lists that are read, rows that are made. -/
import Derived.Test.YtkalponomccaiaaProg
import Derived.WalkKit
import Derived.WalkSpells
import Derived.WalkLawsBesides
import Derived.Lib.Hide
import Derived.Below
import Derived.Laws.Rows
import Derived.Laws.MakeOwn
import Derived.Laws.OwnMore
import Derived.Deep.Draws
namespace Go.Proofs.Ytkalponomccaiaa
open Go.RowKit

/-- a byte as a value; bytes as values -/
abbrev bV (x : UInt8) : Value := .int .u8 (x.toNat : Int)
def bVs (xs : List UInt8) : List Value := xs.map fun x => .int .u8 (x.toNat : Int)
theorem bVs_length (xs : List UInt8) : (bVs xs).length = xs.length := by simp [bVs]
theorem bVs_get (xs : List UInt8) (i : Nat) (h : i < xs.length) : (bVs xs)[i]? = some (.int .u8 ((xs[i]).toNat : Int)) := by simp [bVs, h]
theorem bVs_append (xs ys : List UInt8) : bVs (xs ++ ys) = bVs xs ++ bVs ys := by simp [bVs]
theorem bVs_take (xs : List UInt8) (n : Nat) : (bVs xs).take n = bVs (xs.take n) := by simp [bVs, List.map_take]
theorem bVs_one {u : Value} {xs : List UInt8} (h : u ∈ bVs xs) : u.oneCell' = true := by
  simp only [bVs, List.mem_map] at h
  obtain ⟨x, _, rfl⟩ := h
  rfl

/-- The slice value with the address A and n elements reads as the values xs, in blocks below B. -/
def Rd (w : World) (B : Nat) (A : Option Addr) (n : Nat) (xs : List Value) : Prop :=
  xs.length = n ∧ (0 < n → ∃ g o, A = some ⟨g, o, none⟩ ∧ g < B ∧ ∀ j u, xs[j]? = some u → w.cell? ⟨g, o + j, none⟩ = some u)
section
variable {w w' : World} {B B' n : Nat} {A : Option Addr} {xs : List Value}
theorem Rd.len (h : Rd w B A n xs) : xs.length = n := h.1
theorem Rd.nil : Rd w B A 0 [] := ⟨rfl, fun h => absurd h (by omega)⟩
theorem Rd.at_ (h : Rd w B A n xs) {k : Nat} (hk : k < n) : ∃ g o u, A = some ⟨g, o, none⟩ ∧ g < B ∧ xs[k]? = some u ∧ w.cell? ⟨g, o + k, none⟩ = some u := by
  obtain ⟨g, o, hA, hg, hc⟩ := h.2 (by omega)
  have hl : k < xs.length := by have := h.1; omega
  exact ⟨g, o, xs[k], hA, hg, List.getElem?_eq_getElem hl, hc k _ (List.getElem?_eq_getElem hl)⟩
theorem Rd.keep (h : Rd w B A n xs) (hk : ∀ k, k < B → w'.heap[k]? = w.heap[k]?) : Rd w' B A n xs :=
  ⟨h.1, fun hn => by
    obtain ⟨g, o, hA, hg, hc⟩ := h.2 hn
    exact ⟨g, o, hA, hg, fun j u hu => (World.cell?_of_block (hk g hg)).trans (hc j u hu)⟩⟩
theorem Rd.more (h : Rd w B A n xs) (hB : B ≤ B') : Rd w B' A n xs :=
  ⟨h.1, fun hn => by
    obtain ⟨g, o, hA, hg, hc⟩ := h.2 hn
    exact ⟨g, o, hA, by omega, hc⟩⟩
theorem Rd.below (h : Rd w B A n xs) (hb : Below B' w w') (hB : B ≤ B') : Rd w' B A n xs := h.keep fun k hk => hb.block k (by omega)
theorem Rd.take (h : Rd w B A n xs) {k : Nat} (hk : k ≤ n) : Rd w B A k (xs.take k) := by
  refine ⟨by rw [List.length_take, h.1]; omega, fun hp => ?_⟩
  obtain ⟨g, o, hA, hg, hc⟩ := h.2 (by omega)
  refine ⟨g, o, hA, hg, fun j u hu => hc j u ?_⟩
  rw [List.getElem?_take] at hu
  split at hu
  · exact hu
  · cases hu
end

/-- Block g is the cells ys of the type t, none of them frozen. -/
def Row (w : World) (g : Nat) (t : TypeId) (ys : List Value) : Prop := w.heap[g]? = some (.cells ys.toArray t (0, 0))
section
variable {w w' : World} {g : Nat} {t : TypeId} {ys : List Value}
theorem Row.lt (h : Row w g t ys) : g < w.heap.size := by
  rcases Nat.lt_or_ge g w.heap.size with hlt | hge
  · exact hlt
  · unfold Row at h; rw [Array.getElem?_eq_none hge] at h; cases h
theorem Row.cell (h : Row w g t ys) (i : Nat) : w.cell? ⟨g, i, none⟩ = ys[i]? := by
  rw [cell_of_row w g i _ t (0, 0) h, List.getElem?_toArray]
theorem Row.frozen (h : Row w g t ys) (i : Nat) : w.frozen? ⟨g, i, none⟩ = false := frozen_of_row w g i _ t h
theorem Row.made (w : World) (z : Value) (n : Nat) (t : TypeId) : Row (w.alloc (.cells (madeCells #[z] n) t)) w.heap.size t (List.replicate n z) := by
  unfold Row
  rw [heap_alloc_new, ← toList_madeCells_one z n, Array.toArray_toList]
theorem Row.of_block (h : Row w g t ys) (hb : w'.heap[g]? = w.heap[g]?) : Row w' g t ys := hb.trans h
theorem Row.alloc (h : Row w g t ys) (o : Obj) : Row (w.alloc o) g t ys := (Below.heap_alloc w o g h.lt).trans h
theorem Row.set (h : Row w g t ys) (i : Nat) (u : Value) : Row (w.setCell ⟨g, i, none⟩ u) g t (ys.set i u) := by
  unfold Row
  rw [heap_setCell_same w g i _ t u h, List.setIfInBounds_toArray]
theorem Row.far (h : Row w g t ys) {p : Addr} (hp : g ≠ p.block) (u : Value) : Row (w.setCell p u) g t ys := (Below.heap_setCell w p u g hp).trans h
theorem Row.below {B : Nat} (h : Row w g t ys) (hb : Below B w w') (hg : g < B) : Row w' g t ys := (hb.block g hg).trans h
theorem Row.drewN (h : Row w g t ys) (k : Nat) : Row (w.drewN k) g t ys := h
theorem Row.owns (h : Row w g t ys) {base n : Nat} (hb : base ≤ g) (hn : n ≤ ys.length) (hm : ys.length ≤ maxLen) : w.ownsRow base t 1 (.slice (some ⟨g, 0, none⟩) n ys.length) n (ys.take n) := by
  refine ⟨by rw [List.length_take]; omega, .inr ⟨g, ys.length, ys.toArray, rfl, hb, h, hn, hm, by simp, by simp⟩⟩
end
theorem below_drewN {B : Nat} {a w : World} (h : Below B a w) (n : Nat) : Below B a (w.drewN n) := ⟨h.os, h.tape, h.output, h.size, h.block⟩
/-- What is owned reads. -/
theorem rd_of_own {w : World} {base : Nat} {t : TypeId} {A : Option Addr} {n cap : Nat} {xs : List Value} (h : w.ownsRow base t 1 (.slice A n cap) n xs) : Rd w w.heap.size A n xs := by
  refine ⟨by have := h.1; omega, fun hn => ?_⟩
  rcases h.2 with ⟨hv, h0⟩ | ⟨g, c, cur, hv, _, hh, _, _, _, _⟩
  · omega
  · simp only [Value.slice.injEq] at hv
    obtain ⟨rfl, _, rfl⟩ := hv
    refine ⟨g, 0, rfl, ?_, fun j u hu => ?_⟩
    · rcases Nat.lt_or_ge g w.heap.size with hlt | hge
      · exact hlt
      · rw [Array.getElem?_eq_none hge] at hh; cases hh
    · have hj : j < xs.length := by
        rcases Nat.lt_or_ge j xs.length with hlt | hge
        · exact hlt
        · rw [List.getElem?_eq_none hge] at hu; cases hu
      rw [Nat.zero_add, h.cellAt j (by have := h.1; omega)]
      exact hu
theorem u8_info : (Try.prog.info? 5).map (fun i => (i.zero, i.size, i.bytes)) = some (some (.int .u8 0), 1, 1) := by kernel_rfl
/-- make([]byte, n) -/
theorem make_bytes (n : Nat) (hn : n ≤ 281474976710656) (w : World) :
    (Instr.makeSlice 43 (.int .i64 (n : Int)) (.int .i64 (n : Int))).run Try.prog w = .ok (.slice (some ⟨w.heap.size, 0, none⟩) n n) (w.alloc (.cells (madeCells #[.int .u8 0] n) 5)) := by
  obtain ⟨i, hi, hz, hs, hb⟩ := info_parts u8_info
  have h := run_make (P := Try.prog) w 43 5 i _ Try.underlying43 hi hz .i64 .i64 (n : Int) (n : Int) (by omega) (by omega) (by rw [hb]; omega) (by omega)
  rw [hs, Nat.mul_one, Int.toNat_natCast] at h
  exact h
end Go.Proofs.Ytkalponomccaiaa
