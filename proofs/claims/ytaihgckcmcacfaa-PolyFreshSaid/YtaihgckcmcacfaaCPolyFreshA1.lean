/- What the functions compute that the law PolyFresh reaches, proved by walking them; conditions stand at each theorem. -/
import Derived.WalkKit
import Derived.WalkSpells
import Derived.WalkLawsBesides
import Derived.Lib.Hide
import Derived.Below
import Derived.Laws.Rows
import Derived.Laws.MakeOwn
import Derived.Laws.OwnMore
import Derived.Deep.Draws
import Derived.Laws.BitsAllLaws
import Derived.Deep.WholeRow
import Derived.Laws.NewBlocks
import Derived.Deep.QuietTactic
import Derived.BigQuiet
import Derived.IntWalk
import Derived.OwnWalk
import Derived.RegionTactic
import Derived.Deep.AppendLies
import Derived.Maps.AppendAt
import Derived.Laws.CopyOwn
import Derived.Lib.SliceRun
import Derived.WalkMore
import Derived.Test.YtaihgckcmcacfaaProg
import Derived.Test.YtaihgckcmcacfaaWWords
import Derived.Test.YtaihgckcmcacfaaWMore
namespace Go.Proofs.Ytaihgckcmcacfaa
open Go.RowKit
set_option linter.unusedVariables false
set_option linter.unusedSimpArgs false

/-- a byte as a value; bytes as values -/
abbrev bV (x : UInt8) : Value := .int .u8 (x.toNat : Int)
def bVs (xs : List UInt8) : List Value := xs.map fun x => .int .u8 (x.toNat : Int)
theorem bVs_length (xs : List UInt8) : (bVs xs).length = xs.length := by simp [bVs]
theorem bVs_get (xs : List UInt8) (i : Nat) (h : i < xs.length) : (bVs xs)[i]? = some (.int .u8 ((xs[i]).toNat : Int)) := by simp [bVs, h]
theorem bVs_append (xs ys : List UInt8) : bVs (xs ++ ys) = bVs xs ++ bVs ys := by simp [bVs]
theorem bVs_take (xs : List UInt8) (n : Nat) : (bVs xs).take n = bVs (xs.take n) := by simp [bVs, List.map_take]
theorem bVs_one {u : Value} {xs : List UInt8} (h : u ∈ bVs xs) : u.oneCell' = true := by
  simp only [bVs, List.mem_map] at h
  obtain ⟨x, _, rfl⟩ := h
  rfl

/-- The slice value with the address A and n elements reads as the values xs, in blocks below B. -/
def Rd (w : World) (B : Nat) (A : Option Addr) (n : Nat) (xs : List Value) : Prop :=
  xs.length = n ∧ (0 < n → ∃ g o, A = some ⟨g, o, none⟩ ∧ g < B ∧ ∀ j u, xs[j]? = some u → w.cell? ⟨g, o + j, none⟩ = some u)
section
variable {w w' : World} {B B' n : Nat} {A : Option Addr} {xs : List Value}
theorem Rd.len (h : Rd w B A n xs) : xs.length = n := h.1
theorem Rd.nil : Rd w B A 0 [] := ⟨rfl, fun h => absurd h (by omega)⟩
theorem Rd.at_ (h : Rd w B A n xs) {k : Nat} (hk : k < n) : ∃ g o u, A = some ⟨g, o, none⟩ ∧ g < B ∧ xs[k]? = some u ∧ w.cell? ⟨g, o + k, none⟩ = some u := by
  obtain ⟨g, o, hA, hg, hc⟩ := h.2 (by omega)
  have hl : k < xs.length := by have := h.1; omega
  exact ⟨g, o, xs[k], hA, hg, List.getElem?_eq_getElem hl, hc k _ (List.getElem?_eq_getElem hl)⟩
theorem Rd.keep (h : Rd w B A n xs) (hk : ∀ k, k < B → w'.heap[k]? = w.heap[k]?) : Rd w' B A n xs :=
  ⟨h.1, fun hn => by
    obtain ⟨g, o, hA, hg, hc⟩ := h.2 hn
    exact ⟨g, o, hA, hg, fun j u hu => (World.cell?_of_block (hk g hg)).trans (hc j u hu)⟩⟩
theorem Rd.more (h : Rd w B A n xs) (hB : B ≤ B') : Rd w B' A n xs :=
  ⟨h.1, fun hn => by
    obtain ⟨g, o, hA, hg, hc⟩ := h.2 hn
    exact ⟨g, o, hA, by omega, hc⟩⟩
theorem Rd.below (h : Rd w B A n xs) (hb : Below B' w w') (hB : B ≤ B') : Rd w' B A n xs := h.keep fun k hk => hb.block k (by omega)
theorem Rd.go (h : Rd w w.heap.size A n xs) (hb : Below w.heap.size w w') : Rd w' w'.heap.size A n xs := (h.below hb (Nat.le_refl _)).more hb.size
theorem Rd.take (h : Rd w B A n xs) {k : Nat} (hk : k ≤ n) : Rd w B A k (xs.take k) := by
  refine ⟨by rw [List.length_take, h.1]; omega, fun hp => ?_⟩
  obtain ⟨g, o, hA, hg, hc⟩ := h.2 (by omega)
  refine ⟨g, o, hA, hg, fun j u hu => hc j u ?_⟩
  rw [List.getElem?_take] at hu
  split at hu
  · exact hu
  · cases hu
end

/-- Block g is the cells ys of the type t, none of them frozen. -/
def Row (w : World) (g : Nat) (t : TypeId) (ys : List Value) : Prop := w.heap[g]? = some (.cells ys.toArray t (0, 0))
section
variable {w w' : World} {g : Nat} {t : TypeId} {ys : List Value}
theorem Row.lt (h : Row w g t ys) : g < w.heap.size := by
  rcases Nat.lt_or_ge g w.heap.size with hlt | hge
  · exact hlt
  · unfold Row at h; rw [Array.getElem?_eq_none hge] at h; cases h
theorem Row.cell (h : Row w g t ys) (i : Nat) : w.cell? ⟨g, i, none⟩ = ys[i]? := by
  rw [cell_of_row w g i _ t (0, 0) h, List.getElem?_toArray]
theorem Row.has (h : Row w g t ys) {i : Nat} (hi : i < ys.length) : ∃ old, w.cell? ⟨g, i, none⟩ = some old := ⟨ys[i], by rw [h.cell, List.getElem?_eq_getElem hi]⟩
theorem Row.frozen (h : Row w g t ys) (i : Nat) : w.frozen? ⟨g, i, none⟩ = false := frozen_of_row w g i _ t h
theorem Row.made (w : World) (z : Value) (n : Nat) (t : TypeId) : Row (w.alloc (.cells (madeCells #[z] n) t)) w.heap.size t (List.replicate n z) := by
  unfold Row
  rw [heap_alloc_new, ← toList_madeCells_one z n, Array.toArray_toList]
theorem Row.new (w : World) (cs : List Value) (t : TypeId) : Row (w.alloc (.cells cs.toArray t)) w.heap.size t cs := heap_alloc_new w _
theorem Row.three {a b c : Value} (h : Row w g t [a, b, c]) : w.cell? ⟨g, 0, none⟩ = some a ∧ w.cell? ⟨g, 1, none⟩ = some b ∧ w.cell? ⟨g, 2, none⟩ = some c ∧ w.frozen? ⟨g, 0, none⟩ = false ∧ w.frozen? ⟨g, 1, none⟩ = false ∧ w.frozen? ⟨g, 2, none⟩ = false :=
  ⟨h.cell 0, h.cell 1, h.cell 2, h.frozen 0, h.frozen 1, h.frozen 2⟩
theorem Row.of_block (h : Row w g t ys) (hb : w'.heap[g]? = w.heap[g]?) : Row w' g t ys := hb.trans h
theorem Row.alloc (h : Row w g t ys) (o : Obj) : Row (w.alloc o) g t ys := (Below.heap_alloc w o g h.lt).trans h
theorem Row.set (h : Row w g t ys) (i : Nat) (u : Value) : Row (w.setCell ⟨g, i, none⟩ u) g t (ys.set i u) := by
  unfold Row
  rw [heap_setCell_same w g i _ t u h, List.setIfInBounds_toArray]
theorem Row.far (h : Row w g t ys) {p : Addr} (hp : g ≠ p.block) (u : Value) : Row (w.setCell p u) g t ys := (Below.heap_setCell w p u g hp).trans h
theorem Row.below {B : Nat} (h : Row w g t ys) (hb : Below B w w') (hg : g < B) : Row w' g t ys := (hb.block g hg).trans h
theorem Row.drewN (h : Row w g t ys) (k : Nat) : Row (w.drewN k) g t ys := h
theorem Row.owns (h : Row w g t ys) {base n : Nat} (hb : base ≤ g) (hn : n ≤ ys.length) (hm : ys.length ≤ maxLen) : w.ownsRow base t 1 (.slice (some ⟨g, 0, none⟩) n ys.length) n (ys.take n) := by
  refine ⟨by rw [List.length_take]; omega, .inr ⟨g, ys.length, ys.toArray, rfl, hb, h, hn, hm, by simp, by simp⟩⟩
end
theorem below_drewN {B : Nat} {a w : World} (h : Below B a w) (n : Nat) : Below B a (w.drewN n) := ⟨h.os, h.tape, h.output, h.size, h.block⟩
/-- What is owned reads. -/
theorem rd_of_own {w : World} {base : Nat} {t : TypeId} {A : Option Addr} {n cap : Nat} {xs : List Value} (h : w.ownsRow base t 1 (.slice A n cap) n xs) : Rd w w.heap.size A n xs := by
  refine ⟨by have := h.1; omega, fun hn => ?_⟩
  rcases h.2 with ⟨hv, h0⟩ | ⟨g, c, cur, hv, _, hh, _, _, _, _⟩
  · omega
  · simp only [Value.slice.injEq] at hv
    obtain ⟨rfl, _, rfl⟩ := hv
    refine ⟨g, 0, rfl, ?_, fun j u hu => ?_⟩
    · rcases Nat.lt_or_ge g w.heap.size with hlt | hge
      · exact hlt
      · rw [Array.getElem?_eq_none hge] at hh; cases hh
    · have hj : j < xs.length := by
        rcases Nat.lt_or_ge j xs.length with hlt | hge
        · exact hlt
        · rw [List.getElem?_eq_none hge] at hu; cases hu
      rw [Nat.zero_add, h.cellAt j (by have := h.1; omega)]
      exact hu
/-- The slice value with the address A, n elements and the capacity cap is the call's own (made from block base on), and holds the bytes xs. -/
def OwnB (w : World) (base : Nat) (A : Option Addr) (n cap : Nat) (xs : List UInt8) : Prop := xs.length = n ∧ w.ownsRow base 5 1 (.slice A n cap) n (bVs xs)
theorem OwnB.rd {w : World} {base n cap : Nat} {A : Option Addr} {xs : List UInt8} (h : OwnB w base A n cap xs) : Rd w w.heap.size A n (bVs xs) := rd_of_own h.2
theorem OwnB.mono {w : World} {base base' n cap : Nat} {A : Option Addr} {xs : List UInt8} (h : OwnB w base A n cap xs) (hb : base' ≤ base) : OwnB w base' A n cap xs := by
  refine ⟨h.1, h.2.1, ?_⟩
  rcases h.2.2 with h' | ⟨g, c, cur, hv, hg, rest⟩
  · exact .inl h'
  · exact .inr ⟨g, c, cur, hv, by omega, rest⟩
theorem OwnB.keep {w w' : World} {base n cap : Nat} {A : Option Addr} {xs : List UInt8} (h : OwnB w base A n cap xs) (hb : ∀ g, A = some ⟨g, 0, none⟩ → w'.heap[g]? = w.heap[g]?) : OwnB w' base A n cap xs := by
  refine ⟨h.1, h.2.1, ?_⟩
  rcases h.2.2 with h' | ⟨g, c, cur, hv, hg, hh, rest⟩
  · exact .inl h'
  · simp only [Value.slice.injEq] at hv
    obtain ⟨rfl, _, rfl⟩ := hv
    exact .inr ⟨g, cap, cur, rfl, hg, (hb g rfl).trans hh, rest⟩
theorem OwnB.below {w w' : World} {base B n cap : Nat} {A : Option Addr} {xs : List UInt8} (h : OwnB w base A n cap xs) (hb : Below B w w') (hB : w.heap.size ≤ B) : OwnB w' base A n cap xs := by
  refine h.keep fun g hA => hb.block g ?_
  subst hA
  rcases h.2.2 with ⟨h', _⟩ | ⟨g', c, cur, hv, hg, hh, rest⟩
  · cases h'
  · simp only [Value.slice.injEq, Option.some.injEq, Addr.mk.injEq, and_true, true_and] at hv
    obtain ⟨rfl, _⟩ := hv
    rcases Nat.lt_or_ge g w.heap.size with hlt | hge
    · omega
    · rw [Array.getElem?_eq_none hge] at hh; cases hh
theorem Row.ownB {w : World} {g : Nat} {ys : List UInt8} (h : Row w g 5 (bVs ys)) {base n : Nat} (hb : base ≤ g) (hn : ys.length = n) (hm : n ≤ maxLen) : OwnB w base (some ⟨g, 0, none⟩) n n ys := by
  have h1 := h.owns (n := n) hb (by rw [bVs_length]; omega) (by rw [bVs_length]; omega)
  rw [bVs_length, hn, List.take_of_length_le (by rw [bVs_length]; omega)] at h1
  exact ⟨hn, h1⟩
theorem OwnB.far {w : World} {base n cap : Nat} {A : Option Addr} {xs : List UInt8} (h : OwnB w base A n cap xs) {p : Addr} (hp : p.block < base) (u : Value) : OwnB (w.setCell p u) base A n cap xs := by
  refine ⟨h.1, h.2.1, ?_⟩
  rcases h.2.2 with h' | ⟨g, c, cur, hv, hg, hh, rest⟩
  · exact .inl h'
  · exact .inr ⟨g, c, cur, hv, hg, (Below.heap_setCell w p u g (by omega)).trans hh, rest⟩
theorem OwnB.far3 {w : World} {base n cap g : Nat} {A : Option Addr} {xs : List UInt8} (h : OwnB w base A n cap xs) (hg : g < base) (a b c : Value) : OwnB (((w.setCell ⟨g, 0, none⟩ a).setCell ⟨g, 1, none⟩ b).setCell ⟨g, 2, none⟩ c) base A n cap xs :=
  ((h.far hg _).far hg _).far hg _
theorem below_set3 {B g : Nat} {a w : World} (h : Below B a w) (hg : B ≤ g) (x y z : Value) : Below B a (((w.setCell ⟨g, 0, none⟩ x).setCell ⟨g, 1, none⟩ y).setCell ⟨g, 2, none⟩ z) := ((h.setCell hg _).setCell hg _).setCell hg _
theorem Row.set3 {w : World} {g : Nat} {t : TypeId} {a b c : Value} (h : Row w g t [a, b, c]) (x y z : Value) : Row (((w.setCell ⟨g, 0, none⟩ x).setCell ⟨g, 1, none⟩ y).setCell ⟨g, 2, none⟩ z) g t [x, y, z] := ((h.set 0 x).set 1 y).set 2 z
theorem Row.far3 {w : World} {g g' : Nat} {t : TypeId} {ys : List Value} (h : Row w g t ys) (hg : g ≠ g') (x y z : Value) : Row (((w.setCell ⟨g', 0, none⟩ x).setCell ⟨g', 1, none⟩ y).setCell ⟨g', 2, none⟩ z) g t ys := ((h.far hg x).far hg y).far hg z
theorem row_made_bytes (w : World) (n : Nat) : Row (w.alloc (.cells (madeCells #[.int .u8 0] n) 5)) w.heap.size 5 (bVs (List.replicate n 0)) := by
  have h := Row.made w (.int .u8 0) n 5
  have e : bVs (List.replicate n 0) = List.replicate n (.int .u8 0) := by simp [bVs]
  rw [e]; exact h
theorem bVs_set (xs : List UInt8) (i : Nat) (x : UInt8) : (bVs xs).set i (.int .u8 (x.toNat : Int)) = bVs (xs.set i x) := by simp [bVs, List.map_set]
theorem rd_get {w : World} {B : Nat} {A : Option Addr} {n : Nat} {xs : List UInt8} (h : Rd w B A n (bVs xs)) {k : Nat} (hk : k < n) :
    ∃ g o, A = some ⟨g, o, none⟩ ∧ g < B ∧ w.cell? ⟨g, o + k, none⟩ = some (.int .u8 ((xs.getD k 0).toNat : Int)) := by
  obtain ⟨g, o, u, hA, hg, hu, hc⟩ := h.at_ hk
  have hl : k < xs.length := by have := h.len; rw [bVs_length] at this; omega
  rw [bVs_get xs k hl] at hu
  refine ⟨g, o, hA, hg, ?_⟩
  rw [hc, ← hu]
  simp [List.getD, hl]
theorem OwnB.row {w : World} {base n cap : Nat} {A : Option Addr} {xs : List UInt8} (h : OwnB w base A n cap xs) : ∀ k, (Value.slice A n cap).ownBlock = some k → base ≤ k ∧ k < w.heap.size := World.ownsRow.lt h.2
theorem OwnB.drewN {w : World} {base n cap : Nat} {A : Option Addr} {xs : List UInt8} (h : OwnB w base A n cap xs) (k : Nat) : OwnB (w.drewN k) base A n cap xs := h
theorem OwnB.at_ {w : World} {base n cap : Nat} {A : Option Addr} {xs : List UInt8} (h : OwnB w base A n cap xs) {i : Nat} (hi : i < n) :
    ∃ g, A = some ⟨g, 0, none⟩ ∧ base ≤ g ∧ g < w.heap.size ∧ w.cell? ⟨g, i, none⟩ = some (.int .u8 ((xs.getD i 0).toNat : Int)) ∧ w.frozen? ⟨g, i, none⟩ = false := by
  rcases h.2.2 with ⟨_, h0⟩ | ⟨g, c, cur, hv, hg, hh, hrest⟩
  · omega
  · simp only [Value.slice.injEq] at hv
    obtain ⟨rfl, _, rfl⟩ := hv
    have hlt : g < w.heap.size := by
      rcases Nat.lt_or_ge g w.heap.size with hlt | hge
      · exact hlt
      · rw [Array.getElem?_eq_none hge] at hh; cases hh
    have hl : i < xs.length := by have := h.1; omega
    refine ⟨g, rfl, hg, hlt, ?_, h.2.frozenAt i⟩
    rw [h.2.cellAt i (by omega), bVs_get xs i hl]
    simp [List.getD, hl]
theorem OwnB.store {w : World} {base n cap g : Nat} {xs : List UInt8} (h : OwnB w base (some ⟨g, 0, none⟩) n cap xs) (i : Nat) (x : UInt8) : OwnB (w.setCell ⟨g, i, none⟩ (.int .u8 (x.toNat : Int))) base (some ⟨g, 0, none⟩) n cap (xs.set i x) := by
  have h1 := (h.2.stored i (.int .u8 (x.toNat : Int))).1
  rw [bVs_set] at h1
  exact ⟨by rw [List.length_set]; exact h.1, h1⟩
theorem u8_info : (Try.prog.info? 5).map (fun i => (i.zero, i.size, i.bytes)) = some (some (.int .u8 0), 1, 1) := by kernel_rfl
/-- make([]byte, n) -/
theorem make_bytes (n : Nat) (hn : n ≤ 281474976710656) (w : World) :
    (Instr.makeSlice 22 (.int .i64 (n : Int)) (.int .i64 (n : Int))).run Try.prog w = .ok (.slice (some ⟨w.heap.size, 0, none⟩) n n) (w.alloc (.cells (madeCells #[.int .u8 0] n) 5)) := by
  obtain ⟨i, hi, hz, hs, hb⟩ := info_parts u8_info
  have h := run_make (P := Try.prog) w 22 5 i _ Try.underlying22 hi hz .i64 .i64 (n : Int) (n : Int) (by omega) (by omega) (by rw [hb]; omega) (by omega)
  rw [hs, Nat.mul_one, Int.toNat_natCast] at h
  exact h
end Go.Proofs.Ytaihgckcmcacfaa
namespace Go.Proofs.Ytaihgckcmcacfaa
open Go.RowKit Go.Proofs.YtaihgckcmcacfaaW.PrintWords
set_option linter.unusedVariables false
set_option linter.unusedSimpArgs false

/-- bytes as whole numbers -/
def nI (xs : List UInt8) : List Int := xs.map fun x => (x.toNat : Int)
def toU (a : Int) : UInt8 := UInt8.ofNat a.toNat
def byteB (a : Int) : Bool := decide (0 ≤ a) && decide (a < 256)
def inU (l : List Int) : Bool := l.all byteB
theorem nI_length (xs : List UInt8) : (nI xs).length = xs.length := by simp [nI]
theorem toU_nat (x : UInt8) : toU (x.toNat : Int) = x := by simp [toU]
theorem toU_of {a : Int} (h : byteB a = true) : ((toU a).toNat : Int) = a := by
  simp [byteB] at h
  unfold toU
  rw [UInt8.toNat_ofNat']
  omega
theorem byteB_nat (x : UInt8) : byteB (x.toNat : Int) = true := by
  have h := x.toNat_lt
  have h0 : decide ((0 : Int) ≤ (x.toNat : Int)) = true := decide_eq_true (by omega)
  have h1 : decide ((x.toNat : Int) < 256) = true := decide_eq_true (by omega)
  unfold byteB
  rw [h0, h1]; rfl
theorem inU_nI (xs : List UInt8) : inU (nI xs) = true := by
  unfold inU
  rw [List.all_eq_true]
  intro a ha
  obtain ⟨x, _, rfl⟩ := List.mem_map.1 ha
  exact byteB_nat x
theorem nI_of : ∀ {l : List Int}, inU l = true → nI (l.map toU) = l
  | [], _ => rfl
  | a :: l, h => by
    have h' : byteB a = true ∧ inU l = true := by
      unfold inU at h ⊢
      rw [List.all_cons, Bool.and_eq_true] at h
      exact h
    have h2 := nI_of (l := l) h'.2
    have h3 := toU_of h'.1
    show ((toU a).toNat : Int) :: nI (l.map toU) = a :: l
    rw [h3, h2]
theorem nI_toU : ∀ xs : List UInt8, (nI xs).map toU = xs
  | [] => rfl
  | x :: xs => by
    have h2 := nI_toU xs
    simp only [nI, List.map_cons] at h2 ⊢
    rw [toU_nat, h2]
theorem ints_of {l : List Int} (h : inU l = true) : ∃ xs : List UInt8, l = nI xs := ⟨_, (nI_of h).symm⟩
theorem nI_get (xs : List UInt8) (j : Nat) : (nI xs)[j]? = xs[j]?.map fun x => (x.toNat : Int) := by simp [nI]
theorem addr_add (g o j : Nat) : (⟨g, o, none⟩ : Addr).add j = ⟨g, o + j, none⟩ := by unfold Addr.add; split <;> simp_all
theorem one_drop {α : Type} (l : List α) (j : Nat) (h : j < l.length) : (l.drop j).take 1 = [l[j]] := by
  rw [List.drop_eq_getElem_cons h]
  rfl
theorem lt_of_cell {w : World} {g o : Nat} {u : Value} (h : w.cell? ⟨g, o, none⟩ = some u) : g < w.heap.size := by
  rcases Nat.lt_or_ge g w.heap.size with hlt | hge
  · exact hlt
  · simp only [World.cell?, Array.getElem?_eq_none hge] at h
    cases h
theorem spot_of_cell {w : World} {g o : Nat} {s : Option Nat} {u : Value} (h : w.cell? ⟨g, o, s⟩ = some u) : s = none := by
  cases s with
  | none => rfl
  | some s =>
    simp only [World.cell?] at h
    split at h
    · simp at h
    · cases h
theorem rd_of_C {w : World} {A : Option Addr} {xs : List UInt8} (h : Kd.C (Kd.int .u8) w A (nI xs).length (nI xs)) : Rd w w.heap.size A xs.length (bVs xs) := by
  obtain ⟨h1, h2, h3⟩ := h
  refine ⟨bVs_length xs, fun hn => ?_⟩
  rw [nI_length] at h3
  obtain ⟨ad, rfl, hc⟩ := h3 hn
  have hcell : ∀ j (hj : j < xs.length), w.cell? (ad.add j) = some (.int .u8 ((xs[j]).toNat : Int)) := by
    intro j hj
    obtain ⟨c, e1, e2, e3⟩ := hc j ((xs[j]).toNat : Int) (by rw [nI_get, List.getElem?_eq_getElem hj]; rfl)
    have e2' : c = [.int .u8 ((xs[j]).toNat : Int)] := e2
    have e4 := e3 0 (.int .u8 ((xs[j]).toNat : Int)) (by rw [e2']; rfl)
    have e5 : (Kd.int .u8).sz = 1 := rfl
    rw [e5, Nat.mul_one, Nat.add_zero] at e4
    exact e4
  have h0 := hcell 0 hn
  obtain ⟨g, o, s⟩ := ad
  have hs : s = none := by
    have h1 : (⟨g, o, s⟩ : Addr).add 0 = ⟨g, o, s⟩ := by unfold Addr.add; simp
    rw [h1] at h0
    exact spot_of_cell h0
  subst hs
  rw [addr_add] at h0
  refine ⟨g, o, rfl, lt_of_cell h0, fun j u hu => ?_⟩
  · have hj : j < xs.length := by
      rcases Nat.lt_or_ge j xs.length with hlt | hge
      · exact hlt
      · rw [List.getElem?_eq_none (by rw [bVs_length]; exact hge)] at hu; cases hu
    rw [bVs_get xs j hj] at hu
    rw [← hu, ← addr_add]
    exact hcell j hj
theorem C_of_rd {w : World} {B : Nat} {A : Option Addr} {xs : List UInt8} (h : Rd w B A xs.length (bVs xs)) (hm : xs.length ≤ 9223372036854775807) : Kd.C (Kd.int .u8) w A (nI xs).length (nI xs) := by
  refine ⟨rfl, by rw [nI_length]; exact hm, fun hn => ?_⟩
  rw [nI_length] at hn
  obtain ⟨g, o, rfl, hg, hc⟩ := h.2 hn
  refine ⟨_, rfl, fun j p hp => ⟨[.int .u8 p], rfl, rfl, fun i u hu => ?_⟩⟩
  have hj : j < xs.length := by
    rcases Nat.lt_or_ge j xs.length with hlt | hge
    · exact hlt
    · rw [List.getElem?_eq_none (by rw [nI_length]; exact hge)] at hp; cases hp
  rw [nI_get, List.getElem?_eq_getElem hj] at hp
  simp at hp
  subst hp
  cases i with
  | zero =>
    simp at hu
    subst hu
    have e5 : (Kd.int .u8).sz = 1 := rfl
    rw [e5, Nat.mul_one, Nat.add_zero, addr_add]
    exact hc j _ (bVs_get xs j hj)
  | succ i => simp at hu
theorem reps_bytes (R : Int → List Value → Prop) (hR : ∀ x : UInt8, R (x.toNat : Int) [.int .u8 (x.toNat : Int)]) (xs : List UInt8) : Reps R 1 (nI xs) (bVs xs) := by
  refine ⟨by rw [bVs_length, nI_length, Nat.mul_one], fun j p hp => ?_⟩
  have hj : j < xs.length := by
    rcases Nat.lt_or_ge j xs.length with hlt | hge
    · exact hlt
    · rw [List.getElem?_eq_none (by rw [nI_length]; exact hge)] at hp; cases hp
  rw [nI_get, List.getElem?_eq_getElem hj] at hp
  simp at hp
  subst hp
  have e : ((bVs xs).drop (j * 1)).take 1 = [.int .u8 ((xs[j]).toNat : Int)] := by
    rw [Nat.mul_one, one_drop _ _ (by rw [bVs_length]; exact hj)]
    simp [bVs]
  rw [e]
  exact hR _
theorem R_of_own {w : World} {base n cap : Nat} {A : Option Addr} {xs : List UInt8} (h : OwnB w base A n cap xs) : Kd.R (Kd.int .u8) 5 w base (fun _ => True) (.slice A n cap) (nI xs) := by
  refine ⟨fun _ _ => trivial, bVs xs, ?_, reps_bytes _ (fun x => rfl) xs⟩
  have e : (nI xs).length = n := by rw [nI_length]; exact h.1
  rw [e]
  exact h.2
/-- two slices that lie in two blocks -/
def Apart (A1 A2 : Option Addr) : Prop := ∀ g, A1 = some ⟨g, 0, none⟩ → A2 ≠ some ⟨g, 0, none⟩
theorem Apart.symm {A1 A2 : Option Addr} (h : Apart A1 A2) : Apart A2 A1 := fun g h1 h2 => h g h2 h1
theorem OwnB.addr {w : World} {base n cap : Nat} {A : Option Addr} {xs : List UInt8} (h : OwnB w base A n cap xs) : A = none ∨ ∃ g, A = some ⟨g, 0, none⟩ := by
  rcases h.2.2 with ⟨h1, _⟩ | ⟨g, c, cur, hv, _⟩
  · simp only [Value.slice.injEq] at h1
    exact .inl h1.1
  · simp only [Value.slice.injEq] at hv
    exact .inr ⟨g, hv.1⟩
theorem apart_own {w : World} {b1 b2 n1 n2 c1 c2 : Nat} {A1 A2 : Option Addr} {xs ys : List UInt8} (h1 : OwnB w b1 A1 n1 c1 xs) (h2 : OwnB w b2 A2 n2 c2 ys) (h : Apart A1 A2) : ∀ k, (Value.slice A1 n1 c1).ownBlock = some k → some k ≠ (Value.slice A2 n2 c2).ownBlock := by
  intro k e
  rcases h1.addr with rfl | ⟨g, rfl⟩
  · cases e
  · simp only [Value.ownBlock, Option.some.injEq] at e
    subst e
    rcases h2.addr with rfl | ⟨g2, rfl⟩
    · simp [Value.ownBlock]
    · simp only [Value.ownBlock, ne_eq, Option.some.injEq]
      intro e2
      subst e2
      exact h g rfl rfl
theorem R_of_own_ok {w : World} {base n cap : Nat} {A : Option Addr} {xs : List UInt8} {ok : Nat → Prop} (h : OwnB w base A n cap xs) (hk : ∀ k, (Value.slice A n cap).ownBlock = some k → ok k) : Kd.R (Kd.int .u8) 5 w base ok (.slice A n cap) (nI xs) := by
  refine ⟨hk, bVs xs, ?_, reps_bytes _ (fun x => rfl) xs⟩
  have e : (nI xs).length = n := by rw [nI_length]; exact h.1
  rw [e]
  exact h.2
/-- what the print says of a row of bytes that was made -/
theorem own_of_R {w : World} {base : Nat} {v : Value} {l : List Int} (h : Kd.R (Kd.int .u8) 5 w base (fun _ => True) v l) (hl : inU l = true) : ∃ A cap, v = .slice A l.length cap ∧ l.length ≤ cap ∧ OwnB w base A l.length cap (l.map toU) := by
  obtain ⟨A, c, rfl, hc, _⟩ := Kd.R_reads h
  obtain ⟨_, inner, ho, hr⟩ := h
  obtain ⟨xs, rfl⟩ := ints_of hl
  have e : inner = bVs xs := by
    have hlen : inner.length = xs.length := by have := hr.1; rw [nI_length] at this; have e5 : (Kd.int .u8).sz = 1 := rfl; rw [e5] at this; omega
    apply List.ext_getElem (by rw [hlen, bVs_length])
    intro j h1 h2
    have hj : j < xs.length := by omega
    have hp := hr.2 j ((xs[j]).toNat : Int) (by rw [nI_get, List.getElem?_eq_getElem hj]; rfl)
    have e5 : (Kd.int .u8).sz = 1 := rfl
    rw [e5, Nat.mul_one, one_drop _ _ h1] at hp
    have hp' : [inner[j]] = [.int .u8 ((xs[j]).toNat : Int)] := hp
    simp at hp'
    rw [hp']
    simp [bVs]
  subst e
  refine ⟨A, c, rfl, hc, ?_, ?_⟩
  · rw [nI_toU, nI_length]
  · rw [nI_toU]; exact ho
end Go.Proofs.Ytaihgckcmcacfaa
namespace Go.Proofs.Ytaihgckcmcacfaa.Gf

/-- an element times x -/
def dbl (a : UInt8) : UInt8 := if a &&& 128 = 0 then a <<< 1 else (a <<< 1) ^^^ 29
/-- the sum (a name of its own: simp lays '(a ^^^ b).toNat' open) -/
def add (a b : UInt8) : UInt8 := a ^^^ b
/-- the product, by doubling: rounds left, a, b, what has been put together -/
def mulTo : Nat → UInt8 → UInt8 → UInt8 → UInt8
  | 0, _, _, p => p
  | n + 1, a, b, p => mulTo n (dbl a) (b >>> 1) (if b &&& 1 = 0 then p else p ^^^ a)
def mul (a b : UInt8) : UInt8 := mulTo 8 a b 0
/-- the powers of 2 -/
def ex : Nat → UInt8
  | 0 => 1
  | n + 1 => dbl (ex n)
def lgTo : Nat → UInt8 → Nat → UInt8 → Nat
  | 0, _, n, _ => n
  | k + 1, p, n, a => if p = a then n else lgTo k (dbl p) (n + 1) a
def lg (a : UInt8) : Nat := lgTo 255 1 0 a

theorem all_u8 {P : UInt8 → Prop} (h : ∀ n, n < 256 → P (UInt8.ofNat n)) (a : UInt8) : P a := by
  have h1 := h a.toNat a.toNat_lt
  rwa [UInt8.ofNat_toNat] at h1

def dblN (a : Nat) : Nat := if a.testBit 7 then (a <<< 1) ^^^ 285 else a <<< 1
theorem dblN_xor (a b : Nat) : dblN (a ^^^ b) = dblN a ^^^ dblN b := by
  unfold dblN
  rw [Nat.testBit_xor, Nat.shiftLeft_xor_distrib]
  generalize a <<< 1 = x
  generalize b <<< 1 = y
  cases a.testBit 7 <;> cases b.testBit 7 <;> simp
  · rw [Nat.xor_assoc]
  · rw [Nat.xor_assoc, Nat.xor_assoc, Nat.xor_comm y]
  · rw [Nat.xor_assoc, ← Nat.xor_assoc 285 y, Nat.xor_comm 285 y, Nat.xor_assoc y, Nat.xor_self, Nat.xor_zero]
theorem dbl_toNat (a : UInt8) : (dbl a).toNat = dblN a.toNat := by
  revert a
  apply all_u8
  decide +kernel
theorem dbl_xor (a b : UInt8) : dbl (a ^^^ b) = dbl a ^^^ dbl b := by
  apply UInt8.toNat_inj.1
  rw [dbl_toNat, UInt8.toNat_xor, UInt8.toNat_xor, dbl_toNat, dbl_toNat]
  exact dblN_xor _ _
theorem dbl_zero : dbl 0 = 0 := by decide

theorem xor_right_comm (a b c : UInt8) : a ^^^ b ^^^ c = a ^^^ c ^^^ b := by
  rw [UInt8.xor_assoc, UInt8.xor_comm b c, ← UInt8.xor_assoc]
theorem mulTo_acc (n : Nat) : ∀ a b p, mulTo n a b p = p ^^^ mulTo n a b 0 := by
  induction n with
  | zero => intro a b p; simp [mulTo]
  | succ n ih =>
    intro a b p
    simp only [mulTo]
    rw [ih, ih (p := if b &&& 1 = 0 then 0 else 0 ^^^ a)]
    by_cases h : b &&& 1 = 0
    · simp [h]
    · simp [h, UInt8.xor_assoc]
theorem mulTo_dbl (n : Nat) : ∀ a b p, mulTo n (dbl a) b (dbl p) = dbl (mulTo n a b p) := by
  induction n with
  | zero => intro a b p; rfl
  | succ n ih =>
    intro a b p
    simp only [mulTo]
    rw [← ih]
    by_cases h : b &&& 1 = 0
    · simp [h]
    · simp [h, dbl_xor]
theorem mulTo_add (n : Nat) : ∀ a a' b p p', mulTo n (a ^^^ a') b (p ^^^ p') = mulTo n a b p ^^^ mulTo n a' b p' := by
  induction n with
  | zero => intro a a' b p p'; rfl
  | succ n ih =>
    intro a a' b p p'
    simp only [mulTo]
    rw [dbl_xor, ← ih]
    by_cases h : b &&& 1 = 0
    · simp [h]
    · simp only [h, if_false]
      congr 1
      rw [UInt8.xor_assoc, UInt8.xor_assoc]
      congr 1
      rw [← UInt8.xor_assoc, ← UInt8.xor_assoc, UInt8.xor_comm p' a]
theorem mul_dbl (a b : UInt8) : mul (dbl a) b = dbl (mul a b) := by
  unfold mul
  rw [← mulTo_dbl, dbl_zero]
theorem mul_xor_left (a b c : UInt8) : mul (a ^^^ b) c = mul a c ^^^ mul b c := by
  unfold mul
  rw [← mulTo_add, UInt8.xor_zero]
theorem mul_zero_left (b : UInt8) : mul 0 b = 0 := by
  have h := mul_xor_left 0 0 b
  rw [UInt8.xor_self] at h
  rw [h, UInt8.xor_self]
theorem one_mul (b : UInt8) : mul 1 b = b := by
  revert b
  apply all_u8
  decide +kernel
theorem mul_zero (a : UInt8) : mul a 0 = 0 := by
  revert a
  apply all_u8
  decide +kernel

/-! powers of 2 -/
theorem ex_255 : ex 255 = 1 := by decide +kernel
theorem ex_add (m : Nat) (n : Nat) : mul (ex m) (ex n) = ex (m + n) := by
  induction m with
  | zero => simp [ex, one_mul]
  | succ m ih =>
    rw [Nat.add_right_comm]
    simp only [ex]
    rw [mul_dbl, ih]
theorem ex_period (n : Nat) : ex (n + 255) = ex n := by rw [Nat.add_comm, ← ex_add, ex_255, one_mul]
theorem ex_mul (k n : Nat) : ex (n + 255 * k) = ex n := by
  induction k with
  | zero => rfl
  | succ k ih => rw [Nat.mul_succ, ← Nat.add_assoc, ex_period, ih]
theorem ex_mod (n : Nat) : ex (n % 255) = ex n := by
  conv => rhs; rw [← Nat.mod_add_div n 255]
  rw [ex_mul]
theorem lg_lt : ∀ n, n < 256 → UInt8.ofNat n ≠ 0 → lg (UInt8.ofNat n) < 255 ∧ ex (lg (UInt8.ofNat n)) = UInt8.ofNat n := by decide +kernel
theorem lg_bd {a : UInt8} (h : a ≠ 0) : lg a < 255 := (all_u8 (P := fun a => a ≠ 0 → lg a < 255 ∧ ex (lg a) = a) lg_lt a h).1
theorem ex_lg {a : UInt8} (h : a ≠ 0) : ex (lg a) = a := (all_u8 (P := fun a => a ≠ 0 → lg a < 255 ∧ ex (lg a) = a) lg_lt a h).2
theorem lg_ex' : ∀ n, n < 255 → lg (ex n) = n := by decide +kernel
theorem lg_ex (n : Nat) : lg (ex n) = n % 255 := by
  rw [← ex_mod]
  exact lg_ex' _ (Nat.mod_lt _ (by decide))
theorem ex_ne' : ∀ n, n < 255 → ex n ≠ 0 := by decide +kernel
theorem ex_ne (n : Nat) : ex n ≠ 0 := by
  rw [← ex_mod]
  exact ex_ne' _ (Nat.mod_lt _ (by decide))
theorem ex_inj {m n : Nat} (h : ex m = ex n) : m % 255 = n % 255 := by rw [← lg_ex, ← lg_ex, h]

theorem mul_eq {a b : UInt8} (ha : a ≠ 0) (hb : b ≠ 0) : mul a b = ex (lg a + lg b) := by
  conv => lhs; rw [← ex_lg ha, ← ex_lg hb]
  exact ex_add _ _
theorem mul_comm (a b : UInt8) : mul a b = mul b a := by
  by_cases ha : a = 0
  · subst ha; rw [mul_zero_left, mul_zero]
  by_cases hb : b = 0
  · subst hb; rw [mul_zero_left, mul_zero]
  rw [mul_eq ha hb, mul_eq hb ha, Nat.add_comm]
theorem mul_ne {a b : UInt8} (ha : a ≠ 0) (hb : b ≠ 0) : mul a b ≠ 0 := by
  rw [mul_eq ha hb]; exact ex_ne _
theorem mul_eq_zero (a b : UInt8) : mul a b = 0 ↔ a = 0 ∨ b = 0 := by
  constructor
  · intro h
    by_cases ha : a = 0
    · exact .inl ha
    by_cases hb : b = 0
    · exact .inr hb
    exact absurd h (mul_ne ha hb)
  · rintro (h | h)
    · subst h; exact mul_zero_left _
    · subst h; exact mul_zero _
theorem lg_mul {a b : UInt8} (ha : a ≠ 0) (hb : b ≠ 0) : lg (mul a b) = (lg a + lg b) % 255 := by
  rw [mul_eq ha hb, lg_ex]
theorem mul_assoc (a b c : UInt8) : mul (mul a b) c = mul a (mul b c) := by
  by_cases ha : a = 0
  · subst ha; simp only [mul_zero_left]
  by_cases hb : b = 0
  · subst hb; simp only [mul_zero_left, mul_zero]
  by_cases hc : c = 0
  · subst hc; simp only [mul_zero]
  rw [mul_eq (mul_ne ha hb) hc, mul_eq ha (mul_ne hb hc), lg_mul ha hb, lg_mul hb hc]
  rw [← ex_mod, ← ex_mod (lg a + _)]
  congr 1
  omega
theorem mul_one (a : UInt8) : mul a 1 = a := by rw [mul_comm, one_mul]
theorem mul_xor (a b c : UInt8) : mul a (b ^^^ c) = mul a b ^^^ mul a c := by
  rw [mul_comm, mul_xor_left, mul_comm b, mul_comm c]
theorem mul_two (a : UInt8) : mul a 2 = dbl a := by
  have h : (2 : UInt8) = dbl 1 := by decide
  rw [mul_comm, h, mul_dbl, one_mul]

theorem add_comm (a b : UInt8) : add a b = add b a := UInt8.xor_comm _ _
theorem add_assoc (a b c : UInt8) : add (add a b) c = add a (add b c) := UInt8.xor_assoc _ _ _
theorem add_self (a : UInt8) : add a a = 0 := UInt8.xor_self
theorem add_zero (a : UInt8) : add a 0 = a := UInt8.xor_zero
theorem zero_add (a : UInt8) : add 0 a = a := UInt8.zero_xor
theorem add_left_comm (a b c : UInt8) : add a (add b c) = add b (add a c) := by rw [← add_assoc, add_comm a b, add_assoc]
theorem add_cancel (a b : UInt8) : add a (add a b) = b := by rw [← add_assoc, add_self, zero_add]
theorem add_eq_zero (a b : UInt8) : add a b = 0 ↔ a = b := by
  constructor
  · intro h
    have := add_cancel a b
    rw [h, add_zero] at this
    exact this
  · rintro rfl; exact add_self _
theorem mul_add (a b c : UInt8) : mul a (add b c) = add (mul a b) (mul a c) := mul_xor _ _ _
theorem add_mul (a b c : UInt8) : mul (add a b) c = add (mul a c) (mul b c) := mul_xor_left _ _ _
theorem mul_left_comm (a b c : UInt8) : mul a (mul b c) = mul b (mul a c) := by rw [← mul_assoc, mul_comm a b, mul_assoc]

/-- the inverse (0 of 0) -/
def inv (a : UInt8) : UInt8 := if a = 0 then 0 else ex (255 - lg a)
theorem inv_ne {a : UInt8} (h : a ≠ 0) : inv a ≠ 0 := by unfold inv; rw [if_neg h]; exact ex_ne _
theorem mul_inv {a : UInt8} (h : a ≠ 0) : mul a (inv a) = 1 := by
  unfold inv
  rw [if_neg h]
  have h1 := ex_add (lg a) (255 - lg a)
  have := lg_bd h
  rw [ex_lg h, show lg a + (255 - lg a) = 0 + 255 * 1 from by omega, ex_mul] at h1
  exact h1
theorem inv_mul {a : UInt8} (h : a ≠ 0) : mul (inv a) a = 1 := by rw [mul_comm, mul_inv h]
theorem inv_unique {a b : UInt8} (h : mul a b = 1) : b = inv a := by
  have ha : a ≠ 0 := by rintro rfl; rw [mul_zero_left] at h; exact absurd h (by decide)
  have := mul_assoc (inv a) a b
  rw [h, inv_mul ha, mul_one, one_mul] at this
  exact this
theorem inv_zero : inv 0 = 0 := rfl

/-- powers with a natural exponent -/
def npow (a : UInt8) : Nat → UInt8
  | 0 => 1
  | n + 1 => mul (npow a n) a
theorem npow_ex {a : UInt8} (h : a ≠ 0) (n : Nat) : npow a n = ex (lg a * n) := by
  induction n with
  | zero => rfl
  | succ n ih =>
    simp only [npow]
    have h1 := ex_add (lg a * n) (lg a)
    rw [ex_lg h] at h1
    rw [ih, h1, Nat.mul_succ]
/-- powers with an int exponent; of 0 with an exponent below 0: 0 -/
def pw (a : UInt8) (n : Int) : UInt8 := if n = 0 then 1 else if a = 0 then 0 else ex (lg a * (n % 255).toNat % 255)
theorem pw_ne {a : UInt8} (h : a ≠ 0) (n : Int) : pw a n = ex (lg a * (n % 255).toNat) := by
  unfold pw
  by_cases hn : n = 0
  · subst hn; rfl
  · rw [if_neg hn, if_neg h, ex_mod]

/-! the document's product: shifted sums, then the remainder -/
def redBit (p i : Nat) : Nat := if p.testBit i then p ^^^ (285 <<< (i - 8)) else p
def redN (p : Nat) : Nat := redBit (redBit (redBit (redBit (redBit (redBit (redBit p 14) 13) 12) 11) 10) 9) 8
theorem redBit_xor (p q i : Nat) : redBit (p ^^^ q) i = redBit p i ^^^ redBit q i := by
  unfold redBit
  rw [Nat.testBit_xor]
  generalize 285 <<< (i - 8) = c
  cases p.testBit i <;> cases q.testBit i <;> simp
  · rw [Nat.xor_assoc]
  · rw [Nat.xor_assoc, Nat.xor_assoc, Nat.xor_comm q c]
  · rw [Nat.xor_assoc, ← Nat.xor_assoc c q c, Nat.xor_comm c q, Nat.xor_assoc q c c, Nat.xor_self, Nat.xor_zero]
theorem redN_xor (p q : Nat) : redN (p ^^^ q) = redN p ^^^ redN q := by unfold redN; simp only [redBit_xor]
def sumTo (a b : Nat) : Nat → Nat
  | 0 => 0
  | n + 1 => if b.testBit n then sumTo a b n ^^^ (a <<< n) else sumTo a b n
def dblNs : Nat → Nat → Nat
  | 0, a => a
  | n + 1, a => dblN (dblNs n a)
theorem red_shift : ∀ a, a < 256 → ∀ i, i < 8 → redN (a <<< i) = dblNs i a := by decide +kernel
def dblSum (a b : Nat) : Nat → Nat
  | 0 => 0
  | n + 1 => if b.testBit n then dblSum a b n ^^^ dblNs n a else dblSum a b n
theorem red_sum (a b : Nat) (ha : a < 256) : ∀ n, n ≤ 8 → redN (sumTo a b n) = dblSum a b n
  | 0, _ => by show redN 0 = 0; decide
  | n + 1, h => by
    simp only [sumTo, dblSum]
    by_cases hb : b.testBit n = true
    · rw [if_pos hb, if_pos hb, redN_xor, red_sum a b ha n (by omega), red_shift a ha n (by omega)]
    · rw [if_neg hb, if_neg hb, red_sum a b ha n (by omega)]
def dbls : Nat → UInt8 → UInt8
  | 0, a => a
  | n + 1, a => dbl (dbls n a)
theorem dbls_toNat (n : Nat) (a : UInt8) : (dbls n a).toNat = dblNs n a.toNat := by
  induction n with
  | zero => rfl
  | succ n ih => simp only [dbls, dblNs, dbl_toNat, ih]
theorem dbls_succ (n : Nat) (a : UInt8) : dbls n (dbl a) = dbls (n + 1) a := by
  induction n with
  | zero => rfl
  | succ n ih => simp only [dbls] at ih ⊢; rw [ih]
def shs : Nat → UInt8 → UInt8
  | 0, b => b
  | n + 1, b => shs n b >>> 1
def sumD (a b : UInt8) : Nat → UInt8
  | 0 => 0
  | n + 1 => if b.toNat.testBit n then sumD a b n ^^^ dbls n a else sumD a b n
theorem shs_toNat (k : Nat) (b : UInt8) : (shs k b).toNat = b.toNat / 2 ^ k := by
  induction k with
  | zero => simp [shs]
  | succ k ih =>
    simp only [shs]
    rw [UInt8.toNat_shiftRight, ih]
    simp [Nat.shiftRight_eq_div_pow, Nat.div_div_eq_div_mul, Nat.pow_succ]
theorem shs_bit (k : Nat) (b : UInt8) : shs k b &&& 1 = 0 ↔ ¬ b.toNat.testBit k = true := by
  rw [← UInt8.toNat_inj, UInt8.toNat_and, shs_toNat, Nat.testBit_eq_decide_div_mod_eq]
  show (b.toNat / 2 ^ k) &&& 1 = 0 ↔ _
  rw [Nat.and_one_is_mod]
  simp
theorem mulTo_bits (a b : UInt8) (n : Nat) : ∀ k, mulTo n (dbls k a) (shs k b) (sumD a b k) = sumD a b (k + n) := by
  induction n with
  | zero => intro k; rfl
  | succ n ih =>
    intro k
    have h := ih (k + 1)
    rw [Nat.add_right_comm, Nat.add_assoc] at h
    rw [← h]
    simp only [mulTo]
    have e : (if shs k b &&& 1 = 0 then sumD a b k else sumD a b k ^^^ dbls k a) = sumD a b (k + 1) := by
      simp only [sumD]
      by_cases hb : b.toNat.testBit k = true
      · rw [if_pos hb, if_neg (fun h => (shs_bit k b).1 h hb)]
      · rw [if_neg hb, if_pos ((shs_bit k b).2 hb)]
    rw [e]
    rfl
theorem sumD_toNat (a b : UInt8) (k : Nat) : (sumD a b k).toNat = dblSum a.toNat b.toNat k := by
  induction k with
  | zero => rfl
  | succ k ih =>
    simp only [sumD, dblSum]
    by_cases hb : b.toNat.testBit k = true
    · rw [if_pos hb, if_pos hb, UInt8.toNat_xor, ih, dbls_toNat]
    · rw [if_neg hb, if_neg hb, ih]
theorem ref_mul (a b : UInt8) : redN (sumTo a.toNat b.toNat 8) = (mul a b).toNat := by
  rw [red_sum _ _ a.toNat_lt 8 (Nat.le_refl _), ← sumD_toNat]
  have h := mulTo_bits a b 8 0
  exact congrArg UInt8.toNat h.symm
theorem sumTo_lt (a b : Nat) (ha : a < 256) : ∀ n, n ≤ 8 → sumTo a b n < 2 ^ 15
  | 0, _ => by simp [sumTo]
  | n + 1, h => by
    have ih := sumTo_lt a b ha n (by omega)
    simp only [sumTo]
    have h1 : a <<< n < 2 ^ 15 := by
      rw [Nat.shiftLeft_eq]
      calc a * 2 ^ n ≤ 255 * 2 ^ 7 := Nat.mul_le_mul (by omega) (Nat.pow_le_pow_right (by omega) (by omega))
        _ < 2 ^ 15 := by decide
    by_cases hb : b.testBit n = true
    · rw [if_pos hb]; exact Nat.xor_lt_two_pow ih h1
    · rw [if_neg hb]; exact ih
theorem redBit_lt (p i : Nat) (hi : i ≤ 14) (hp : p < 2 ^ 15) : redBit p i < 2 ^ 15 := by
  unfold redBit
  by_cases hb : p.testBit i = true
  · rw [if_pos hb]
    refine Nat.xor_lt_two_pow hp ?_
    rw [Nat.shiftLeft_eq]
    calc 285 * 2 ^ (i - 8) ≤ 285 * 2 ^ 6 := Nat.mul_le_mul (Nat.le_refl _) (Nat.pow_le_pow_right (by omega) (by omega))
      _ < 2 ^ 15 := by decide
  · rw [if_neg hb]; exact hp
/-- what is left to reduce: the bits from i down to 8 -/
def redFrom : Nat → Nat → Nat
  | 0, p => p
  | n + 1, p => redFrom n (redBit p (n + 8))
theorem redFrom_all (p : Nat) : redFrom 7 p = redN p := rfl

/-! lists -/
/-- dst and c times src, place by place -/
def macL (dst : List UInt8) (c : UInt8) (src : List UInt8) : List UInt8 := List.zipWith (fun d s => add d (mul c s)) dst src
/-- the sum of the first i products -/
def dotTo (xs ys : List UInt8) : Nat → UInt8
  | 0 => 0
  | i + 1 => add (dotTo xs ys i) (mul (xs.getD i 0) (ys.getD i 0))
def dot (xs ys : List UInt8) : UInt8 := dotTo xs ys xs.length
end Go.Proofs.Ytaihgckcmcacfaa.Gf
namespace Go.Proofs.Ytaihgckcmcacfaa
open Go.RowKit
set_option linter.unusedVariables false
set_option linter.unusedSimpArgs false

theorem ret_u8 {a b : Int} (h : a = b) : Ending.returned (.int .u8 a) = .returned (.int .u8 b) := by rw [h]
theorem band_u8 (a b : UInt8) : bits .and .u8 (a.toNat : Int) (b.toNat : Int) = ((a &&& b).toNat : Int) := by
  rw [u8_and_nat _ _ a.toNat_lt b.toNat_lt, UInt8.toNat_and]
theorem bxor_u8 (a b : UInt8) : bits .xor .u8 (a.toNat : Int) (b.toNat : Int) = ((Gf.add a b).toNat : Int) := by
  unfold Gf.add
  rw [u8_xor_nat _ _ a.toNat_lt b.toNat_lt, UInt8.toNat_xor]
theorem toNat_zero (a : UInt8) : a.toNat = 0 ↔ a = 0 := UInt8.toNat_inj (b := 0)
theorem u8_eq_zero (a : UInt8) : ((a.toNat : Int) == 0) = decide (a = 0) := by
  rw [Bool.eq_iff_iff]; simp [toNat_zero]
theorem u8_shr1 (b : UInt8) : (b >>> 1).toNat = b.toNat / 2 := by
  rw [UInt8.toNat_shiftRight]; simp [Nat.shiftRight_eq_div_pow]
theorem double_yes : ∀ n, n < 256 → (bits BinOp.and IntKind.u8 ((UInt8.ofNat n).toNat : Int) 128 != 0) = true → bits BinOp.xor IntKind.u8 (((UInt8.ofNat n).toNat : Int) * 2 % 256) 29 = ((Gf.dbl (UInt8.ofNat n)).toNat : Int) := by decide +kernel
theorem double_no : ∀ n, n < 256 → (bits BinOp.and IntKind.u8 ((UInt8.ofNat n).toNat : Int) 128 != 0) = false → (((UInt8.ofNat n).toNat : Int) * 2 % 256) = ((Gf.dbl (UInt8.ofNat n)).toNat : Int) := by decide +kernel

set_option maxHeartbeats 400000 in
theorem double_calls (a : UInt8) (w : World) :
    Calls Try.prog 52 #[.int .u8 (a.toNat : Int)] w fun e w' => e = .returned (.int .u8 ((Gf.dbl a).toNat : Int)) ∧ w = w' := by
  go_enter Try.func52, Try.ntmps52
  go_wp2_with fail
  · go_ret
    exact ⟨ret_u8 (Gf.all_u8 (P := fun a => (bits BinOp.and IntKind.u8 (a.toNat : Int) 128 != 0) = true → bits BinOp.xor IntKind.u8 ((a.toNat : Int) * 2 % 256) 29 = ((Gf.dbl a).toNat : Int)) double_yes a ‹_›), rfl⟩
  · go_ret
    exact ⟨ret_u8 (Gf.all_u8 (P := fun a => (bits BinOp.and IntKind.u8 (a.toNat : Int) 128 != 0) = false → ((a.toNat : Int) * 2 % 256) = ((Gf.dbl a).toNat : Int)) double_no a ‹_›), rfl⟩

theorem shr_one_u8 (b : UInt8) : ((b >>> 1).toNat : Int) = (b.toNat : Int) / 2 := by
  rw [u8_shr1]; omega
theorem Gf.mulTo_zero (n : Nat) : ∀ a p, Gf.mulTo n a 0 p = p := by
  induction n with
  | zero => intro a p; rfl
  | succ n ih => intro a p; simp only [Gf.mulTo]; rw [if_pos (by decide)]; exact ih _ _
theorem and_one_u8 (b : UInt8) : (bits .and .u8 (b.toNat : Int) 1 != 0) = !decide (b &&& 1 = 0) := by
  have := band_u8 b 1
  rw [show ((1 : UInt8).toNat : Int) = 1 from rfl] at this
  rw [this]
  show (!(((b &&& 1).toNat : Int) == 0)) = _
  rw [u8_eq_zero]

end Go.Proofs.Ytaihgckcmcacfaa
namespace Go.Proofs.Ytaihgckcmcacfaa
open Go.RowKit
set_option linter.unusedVariables false
set_option linter.unusedSimpArgs false

theorem ofInt_i64 (a : Nat) (ha : a < 9223372036854775808) : (BitVec.ofInt 64 (a : Int)).toNat = a := by
  rw [BitVec.ofInt_natCast, BitVec.toNat_ofNat]; exact Nat.mod_eq_of_lt (by omega)
theorem i64_and_nat (a b : Nat) (ha : a < 9223372036854775808) (hb : b < 9223372036854775808) : bits .and .i64 (a : Int) (b : Int) = ((a &&& b : Nat) : Int) := by
  have hx : a &&& b < 2 ^ 63 := Nat.and_lt_two_pow _ (by omega)
  show IntKind.i64.wrap ((BitVec.ofInt 64 (a : Int) &&& BitVec.ofInt 64 (b : Int)).toNat : Int) = _
  rw [BitVec.toNat_and, ofInt_i64 a ha, ofInt_i64 b hb, IntKind.wrap_i64]
  omega
theorem i64_xor_nat (a b : Nat) (ha : a < 9223372036854775808) (hb : b < 9223372036854775808) : bits .xor .i64 (a : Int) (b : Int) = ((a ^^^ b : Nat) : Int) := by
  have hx : a ^^^ b < 2 ^ 63 := Nat.xor_lt_two_pow (by omega) (by omega)
  show IntKind.i64.wrap ((BitVec.ofInt 64 (a : Int) ^^^ BitVec.ofInt 64 (b : Int)).toNat : Int) = _
  rw [BitVec.toNat_xor, ofInt_i64 a ha, ofInt_i64 b hb, IntKind.wrap_i64]
  omega
theorem testb_u8 (b : UInt8) (i : Nat) : (bits BinOp.and IntKind.u8 ((b.toNat : Int) / 2 ^ i) 1 == 1) = b.toNat.testBit i := by
  have e : ((b.toNat : Int) / 2 ^ i) = ((b.toNat / 2 ^ i : Nat) : Int) := by simp
  have hb : b.toNat / 2 ^ i < 256 := Nat.lt_of_le_of_lt (Nat.div_le_self _ _) b.toNat_lt
  rw [e, show (1 : Int) = ((1 : Nat) : Int) from rfl, u8_and_nat _ _ hb (by decide), Nat.and_one_is_mod, Nat.testBit_eq_decide_div_mod_eq, Bool.eq_iff_iff]
  simp
  omega
theorem testb_i64 (p i : Nat) (hp : p < 2 ^ 15) : (bits BinOp.and IntKind.i64 ((p : Int) / 2 ^ i) 1 == 1) = p.testBit i := by
  have e : ((p : Int) / 2 ^ i) = ((p / 2 ^ i : Nat) : Int) := by simp
  have hb : p / 2 ^ i < 2 ^ 15 := Nat.lt_of_le_of_lt (Nat.div_le_self _ _) hp
  rw [e, show (1 : Int) = ((1 : Nat) : Int) from rfl, i64_and_nat _ _ (by omega) (by decide), Nat.and_one_is_mod, Nat.testBit_eq_decide_div_mod_eq, Bool.eq_iff_iff]
  simp
  omega
theorem shl_i64 (a i : Nat) (ha : a < 512) (hi : i < 8) : wrap64 (wrap64 (a : Int) * 2 ^ i) = ((a <<< i : Nat) : Int) := by
  have h1 : wrap64 (a : Int) = a := by unfold wrap64; omega
  have h2 : a * 2 ^ i ≤ 512 * 2 ^ 7 := Nat.mul_le_mul (by omega) (Nat.pow_le_pow_right (by omega) (by omega))
  have e : (a : Int) * 2 ^ i = ((a * 2 ^ i : Nat) : Int) := by simp
  rw [h1, Nat.shiftLeft_eq, e]
  unfold wrap64
  omega
theorem i64_eq {a b : Int} (h : a = b) : Value.int .i64 a = .int .i64 b := by rw [h]

theorem ref_step1 (a b : UInt8) (i : Nat) (hi : i < 8) (h : (bits BinOp.and IntKind.u8 ((b.toNat : Int) / 2 ^ i) 1 == 1) = true) :
    bits BinOp.xor IntKind.i64 (Gf.sumTo a.toNat b.toNat i : Int) (wrap64 (wrap64 (a.toNat : Int) * 2 ^ i)) = (Gf.sumTo a.toNat b.toNat (i + 1) : Int) := by
  rw [testb_u8] at h
  have h1 := Gf.sumTo_lt a.toNat b.toNat a.toNat_lt i (by omega)
  have ha := a.toNat_lt
  have h2 : a.toNat <<< i < 2 ^ 16 := by
    rw [Nat.shiftLeft_eq]
    have : a.toNat * 2 ^ i ≤ 255 * 2 ^ 7 := Nat.mul_le_mul (by omega) (Nat.pow_le_pow_right (by omega) (by omega))
    omega
  rw [shl_i64 _ _ (by omega) hi, i64_xor_nat _ _ (by omega) (by omega)]
  simp only [Gf.sumTo, h, if_true]
theorem ref_step0 (a b : UInt8) (i : Nat) (h : (bits BinOp.and IntKind.u8 ((b.toNat : Int) / 2 ^ i) 1 == 1) = false) :
    (Gf.sumTo a.toNat b.toNat i : Int) = (Gf.sumTo a.toNat b.toNat (i + 1) : Int) := by
  rw [testb_u8] at h
  simp [Gf.sumTo, h]
theorem ref_red1 (p i : Nat) (hp : p < 2 ^ 15) (h8 : 8 ≤ i) (hi : i ≤ 14) (h : (bits BinOp.and IntKind.i64 ((p : Int) / 2 ^ i) 1 == 1) = true) :
    bits BinOp.xor IntKind.i64 (p : Int) (wrap64 (285 * 2 ^ (i - 8))) = (Gf.redBit p i : Int) := by
  rw [testb_i64 _ _ hp] at h
  have e := shl_i64 285 (i - 8) (by omega) (by omega)
  have e1 : wrap64 ((285 : Nat) : Int) = 285 := by unfold wrap64; omega
  rw [e1] at e
  have h2 : 285 <<< (i - 8) < 2 ^ 16 := by
    rw [Nat.shiftLeft_eq]
    have : 285 * 2 ^ (i - 8) ≤ 285 * 2 ^ 6 := Nat.mul_le_mul (Nat.le_refl _) (Nat.pow_le_pow_right (by omega) (by omega))
    omega
  rw [e, i64_xor_nat _ _ (by omega) (by omega)]
  simp only [Gf.redBit, h, if_true]
theorem ref_red0 (p i : Nat) (hp : p < 2 ^ 15) (h : (bits BinOp.and IntKind.i64 ((p : Int) / 2 ^ i) 1 == 1) = false) : (p : Int) = (Gf.redBit p i : Int) := by
  rw [testb_i64 _ _ hp] at h
  simp [Gf.redBit, h]

set_option maxHeartbeats 400000 in
theorem refMul_calls (a b : UInt8) (w : World) :
    Calls Try.prog 28 #[.int .u8 (a.toNat : Int), .int .u8 (b.toNat : Int)] w fun e w' => e = .returned (.int .u8 ((Gf.mul a b).toNat : Int)) ∧ w = w' := by
  go_enter Try.func28, Try.ntmps28
  go_wp2_with fail
  go_loop [5, 6] (fun v5 v6 => ∃ i : Nat, i ≤ 8 ∧ v5 = .int .i64 (Gf.sumTo a.toNat b.toNat i : Int) ∧ v6 = .int .i64 (i : Int)) (fun _ v6 => 8 - (intOf v6).toNat)
  case atStart => exact ⟨0, by omega, rfl, rfl⟩
  case round =>
    obtain ⟨i, hi, rfl, rfl⟩ := hrel
    by_cases hlt : i < 8
    · go_wp2_with fail
      · go_round
        case rel => exact ⟨i + 1, by omega, i64_eq (ref_step1 a b i hlt ‹_›), by go_num⟩
        case measure => simp [intOf]; omega
      · go_round
        case rel => exact ⟨i + 1, by omega, i64_eq (ref_step0 a b i ‹_›), by go_num⟩
        case measure => simp [intOf]; omega
    · obtain rfl : i = 8 := by omega
      have HL := Gf.sumTo_lt a.toNat b.toNat a.toNat_lt 8 (by omega)
      have HM := Lib.hid (Gf.ref_mul a b)
      generalize Gf.sumTo a.toNat b.toNat 8 = s at *
      go_wp2_with fail
      go_loop [5, 7] (fun v5 v7 => ∃ (p n : Nat), n ≤ 7 ∧ p < 2 ^ 15 ∧ v5 = .int .i64 (p : Int) ∧ v7 = .int .i64 ((n + 7 : Nat) : Int) ∧ Hid (Gf.redFrom n p = Gf.redN s)) (fun _ v7 => (intOf v7).toNat)
      case atStart => exact ⟨s, 7, by omega, HL, rfl, rfl, rfl⟩
      case round =>
        obtain ⟨p, n, hn, hp, rfl, rfl, H⟩ := hrel
        by_cases hlt : 1 ≤ n
        · obtain ⟨m, rfl⟩ : ∃ m, n = m + 1 := ⟨n - 1, by omega⟩
          have hm : m + 1 + 7 = m + 8 := by omega
          rw [hm]
          go_wp2_with fail
          · go_round
            case rel => exact ⟨Gf.redBit p (m + 8), m, by omega, Gf.redBit_lt _ _ (by omega) hp, i64_eq (ref_red1 p (m + 8) hp (by omega) (by omega) ‹_›), by go_num, H⟩
            case measure => simp [intOf]; omega
          · go_round
            case rel => exact ⟨Gf.redBit p (m + 8), m, by omega, Gf.redBit_lt _ _ (by omega) hp, i64_eq (ref_red0 p (m + 8) hp ‹_›), by go_num, H⟩
            case measure => simp [intOf]; omega
        · obtain rfl : n = 0 := by omega
          go_wp2_with fail
          go_ret
          have h := H.out
          rw [HM.out] at h
          simp only [Gf.redFrom] at h
          have hl := (Gf.mul a b).toNat_lt
          exact ⟨ret_u8 (by omega), rfl⟩

end Go.Proofs.Ytaihgckcmcacfaa
namespace Go.Proofs.Ytaihgckcmcacfaa
open Go.RowKit
set_option linter.unusedVariables false
set_option linter.unusedSimpArgs false

def zz (m n : Nat) : Array Value := (List.replicate m (Value.int .u8 0) ++ List.replicate n (Value.int .i64 0)).toArray
theorem zz_size (m n : Nat) : (zz m n).size = m + n := by simp [zz]
theorem zz_one (m n : Nat) : ∀ v, v ∈ (zz m n).toList → v.oneCell' = true := by
  intro v hv
  simp only [zz, List.mem_append, List.mem_replicate] at hv
  rcases hv with ⟨_, rfl⟩ | ⟨_, rfl⟩ <;> rfl
def tabAt : Nat → Array Value
  | 0 => zz 510 256
  | n + 1 => (((tabAt n).setIfInBounds n (.int .u8 ((Gf.ex n).toNat : Int))).setIfInBounds (n + 255) (.int .u8 ((Gf.ex n).toNat : Int))).setIfInBounds (510 + (Gf.ex n).toNat) (.int .i64 (n : Int))
theorem tabAt_size (n : Nat) : (tabAt n).size = 766 := by
  induction n with
  | zero => exact zz_size 510 256
  | succ n ih => simp only [tabAt, Array.size_setIfInBounds, ih]
theorem mem_setI {a : Array Value} {i : Nat} {x v : Value} (h : v ∈ (a.setIfInBounds i x).toList) : v = x ∨ v ∈ a.toList := by
  rw [Array.toList_setIfInBounds] at h
  rcases List.mem_or_eq_of_mem_set h with h | h
  · exact .inr h
  · exact .inl h
theorem tabAt_one (n : Nat) : ∀ v, v ∈ (tabAt n).toList → v.oneCell' = true := by
  induction n with
  | zero => exact zz_one _ _
  | succ n ih =>
    intro v hv
    simp only [tabAt] at hv
    rcases mem_setI hv with rfl | hv
    · rfl
    rcases mem_setI hv with rfl | hv
    · rfl
    rcases mem_setI hv with rfl | hv
    · rfl
    exact ih v hv
theorem tabAt_all (n : Nat) : (tabAt n).all (·.oneCell') = true := by
  rw [Array.all_eq_true_iff_forall_mem]
  exact fun v hv => tabAt_one n v (Array.mem_def.1 hv)
theorem tabAt_facts (n : Nat) (hn : n ≤ 255) : (∀ i, i < n → (tabAt n)[i]? = some (.int .u8 ((Gf.ex i).toNat : Int)) ∧ (tabAt n)[i + 255]? = some (.int .u8 ((Gf.ex i).toNat : Int))) ∧
    (∀ i, i < n → (tabAt n)[510 + (Gf.ex i).toNat]? = some (.int .i64 (i : Int))) := by
  induction n with
  | zero => exact ⟨fun i h => absurd h (by omega), fun i h => absurd h (by omega)⟩
  | succ n ih =>
    obtain ⟨h1, h2⟩ := ih (by omega)
    have hs := tabAt_size n
    have hx := (Gf.ex n).toNat_lt
    simp only [tabAt, Array.getElem?_setIfInBounds, Array.size_setIfInBounds, hs]
    refine ⟨fun i hi => ⟨?_, ?_⟩, fun i hi => ?_⟩
    · rw [if_neg (by omega)]
      rw [if_neg (by omega)]
      by_cases e : n = i
      · subst e; rw [if_pos rfl, if_pos (by omega)]
      · rw [if_neg e]; exact (h1 i (by omega)).1
    · rw [if_neg (by omega)]
      by_cases e : n = i
      · subst e; rw [if_pos rfl, if_pos (by omega)]
      · rw [if_neg (by omega), if_neg (by omega)]; exact (h1 i (by omega)).2
    · have hxi := (Gf.ex i).toNat_lt
      by_cases e : i = n
      · subst e; rw [if_pos rfl, if_pos (by omega)]
      · have hne : ¬ (510 + (Gf.ex n).toNat = 510 + (Gf.ex i).toNat) := by
          intro h
          have h3 : Gf.ex n = Gf.ex i := UInt8.toNat_inj.1 (by omega)
          have h4 := Gf.ex_inj h3
          rw [Nat.mod_eq_of_lt (by omega), Nat.mod_eq_of_lt (by omega)] at h4
          omega
        rw [if_neg hne, if_neg (by omega), if_neg (by omega)]
        exact h2 i (by omega)

/-- the tables, whole -/
def TAB : Array Value := tabAt 255
theorem TAB_size : TAB.size = 766 := tabAt_size 255
theorem TAB_all : TAB.all (·.oneCell') = true := tabAt_all 255
theorem TAB_exp (i : Nat) (h : i < 510) : TAB[i]? = some (.int .u8 ((Gf.ex i).toNat : Int)) := by
  have hf := (tabAt_facts 255 (by omega)).1
  by_cases hi : i < 255
  · exact (hf i hi).1
  · have h1 := (hf (i - 255) (by omega)).2
    rw [show i - 255 + 255 = i from by omega] at h1
    have h2 := Gf.ex_period (i - 255)
    rw [show i - 255 + 255 = i from by omega] at h2
    rw [h2]
    exact h1
theorem TAB_log (a : UInt8) (h : a ≠ 0) : TAB[510 + a.toNat]? = some (.int .i64 (Gf.lg a : Int)) := by
  have h1 := (tabAt_facts 255 (by omega)).2 (Gf.lg a) (Gf.lg_bd h)
  rw [Gf.ex_lg h] at h1
  exact h1

/-- the tables, as a word that no rewriting opens -/
def IsTab (T : Array Value) : Prop := T = TAB
theorem IsTab.size {T : Array Value} (h : IsTab T) : T.size = 766 := by rw [h]; exact TAB_size
theorem IsTab.all {T : Array Value} (h : IsTab T) : T.all (·.oneCell') = true := by rw [h]; exact TAB_all
theorem IsTab.exp {T : Array Value} (h : IsTab T) (i : Nat) (hi : i < 510) : T[i]? = some (.int .u8 ((Gf.ex i).toNat : Int)) := by rw [h]; exact TAB_exp i hi
theorem IsTab.log {T : Array Value} (h : IsTab T) {a : UInt8} (ha : a ≠ 0) : T[510 + a.toNat]? = some (.int .i64 (Gf.lg a : Int)) := by rw [h]; exact TAB_log a ha

theorem zero_tables : (Try.prog.info? 66).map (fun i => (i.zero, i.size)) = some (some (.agg (tabAt 0)), 766) := by kernel_rfl

theorem Below.setRow {B : Nat} {a w : World} (h : Below B a w) {g : Nat} (hp : B ≤ g) (cs : Array Value) : Below B a (w.setRow g cs) :=
  ⟨h.os, h.tape, h.output, by simpa using h.size, fun k hk => by
    rw [← h.block k hk]
    simp only [World.setRow]
    rw [Array.getElem?_modify, if_neg (by omega)]⟩
theorem some_of_lt {C : Array Value} {i : Nat} (h : i < C.size) : ∃ v, C[i]? = some v := ⟨_, Array.getElem?_eq_getElem h⟩
set_option maxRecDepth 100000 in
set_option maxHeartbeats 1000000 in
theorem build_calls (w : World) :
    Calls Try.prog 57 #[] w fun e w' => ∃ T, IsTab T ∧ e = .returned (.agg T) ∧ Below w.heap.size w w' := by
  obtain ⟨hzv, hsz⟩ := zero_of_info zero_tables
  have HSZ := Lib.hid hsz
  clear hsz
  obtain ⟨Z, hZ⟩ : ∃ Z, Z = tabAt 0 := ⟨_, rfl⟩
  rw [← hZ] at hzv
  have HZ := Lib.hid hZ
  clear hZ
  go_enter Try.func57, Try.ntmps57
  go_wp2_with fail
  go_loopw [2, 4] (fun v2 v4 wr => ∃ (n : Nat) (C : Array Value), n ≤ 255 ∧ v2 = .int .u8 ((Gf.ex n).toNat : Int) ∧ v4 = .int .i64 (n : Int) ∧ wr = (w.alloc (Obj.cells Z 66)).alloc (Obj.cells C 66) ∧ Hid (C = tabAt n)) (fun _ v4 _ => 255 - (intOf v4).toNat)
  case atStart => exact ⟨0, Z, by omega, rfl, rfl, rfl, HZ.out⟩
  case round =>
    obtain ⟨n, C, hn, rfl, rfl, rfl, HC⟩ := hrel
    by_cases hlt : n < 255
    · have hx := (Gf.ex n).toNat_lt
      have hs : C.size = 766 := by rw [HC.out]; exact tabAt_size n
      obtain ⟨v1, h1⟩ := some_of_lt (C := C) (i := n) (by omega)
      obtain ⟨v2, h2⟩ := some_of_lt (C := C.setIfInBounds n (.int .u8 ((Gf.ex n).toNat : Int))) (i := n + 255) (by rw [Array.size_setIfInBounds]; omega)
      obtain ⟨v3, h3⟩ := some_of_lt (C := (C.setIfInBounds n (.int .u8 ((Gf.ex n).toNat : Int))).setIfInBounds (n + 255) (.int .u8 ((Gf.ex n).toNat : Int))) (i := 510 + (Gf.ex n).toNat) (by rw [Array.size_setIfInBounds, Array.size_setIfInBounds]; omega)
      clear hs
      go_wp2_with (go_at_call 52; refine (double_calls _ _).mono ?_; rintro e w' ⟨rfl, rfl⟩)
      go_roundw
      case rel => exact ⟨n + 1, _, by omega, rfl, by go_num, rfl, by have := HC.out; simp only [tabAt]; rw [← this]; rfl⟩
      case measure => simp [intOf]; omega
    · obtain rfl : n = 255 := by omega
      obtain rfl : C = TAB := HC.out
      have hg1 := heap_alloc2_new w (Obj.cells Z 66) (Obj.cells TAB 66)
      have hg0 := heap_alloc2_old w (Obj.cells Z 66) (Obj.cells TAB 66)
      have hz : Z.size = TAB.size := by rw [HZ.out, TAB_size, tabAt_size]
      have G1 := Lib.hid hg1
      have G0 := Lib.hid hg0
      have H0 := Lib.hid hz
      clear hg1 hg0 hz hzv
      go_wp2_with (first | (refine wpList_load_row rfl 66 (.tmp 1) rfl (w.heap.size + 1) rfl 66 TAB (0, 0) _ G1.out Try.underlying66 rfl (by rw [TAB_size]; exact HSZ.out) ?_) | (refine wpList_store_row rfl 66 (.tmp 0) (.tmp 23) rfl w.heap.size TAB rfl rfl 66 Z G0.out (by rw [TAB_size]; exact HSZ.out) H0.out TAB_all ?_))
      have hg2 := setRow_heap ((w.alloc (Obj.cells Z 66)).alloc (Obj.cells TAB 66)) w.heap.size Z TAB 66 (0, 0) G0.out
      refine bodyPost_ret (results_cell_row rfl _ _ w.heap.size 66 TAB (0, 0) _ rfl hg2 Try.underlying66 rfl (by rw [TAB_size]; exact HSZ.out)) rfl ?_
      exact ⟨TAB, rfl, rfl, Below.setRow (((Below.refl _ _).alloc (Nat.le_refl _) _).alloc (by simp) _) (Nat.le_refl _) _⟩
/-- a type's zero value and its size, the cells behind a word of their own: for the walks that lay the tables into a variable -/
theorem zero_tables' : ∃ Z : Array Value, (∀ w, (zeroValue 66).run Try.prog w = .ok (.agg Z) w) ∧ Hid (Z.size = 766) ∧ Hid ((Try.prog.info? 66).map (·.size) = some 766) := by
  obtain ⟨hzv, hsz⟩ := zero_of_info zero_tables
  exact ⟨_, hzv, tabAt_size 0, hsz⟩
/-- the tables' store into a new variable, as the walks meet it -/
theorem wpList_store_tab {ops : Array Oper} {rest : List Oper} {o : Oper} {a : Act} {w : World} {Q : Exit → Act → World → Prop} (x y : Operand) (hgd : o.guard = none) (ho : o.op = .store 66 x y)
    (T Z : Array Value) (hT : IsTab T) (hZ : Hid (Z.size = 766)) (hs : Hid ((Try.prog.info? 66).map (·.size) = some 766))
    (hx : a.eval x = .pointer (some ⟨w.heap.size, 0, none⟩)) (hy : a.eval y = .agg T)
    (h : ∀ w2 : World, w2.heap.size = w.heap.size + 1 → w2.heap[w.heap.size]? = some (.cells T 66 (0, 0)) → Below w.heap.size w w2 → wpList Try.prog ops Q rest (a.put o.dst undef) w2) :
    wpList Try.prog ops Q (o :: rest) a (w.alloc (Obj.cells Z 66)) := by
  refine wpList_store_row hgd 66 x y ho w.heap.size T hx hy 66 Z (heap_alloc_new w _) (by rw [hT.size]; exact hs) (by rw [hT.size]; exact hZ) hT.all ?_
  rw [World.setRow_alloc_new]
  exact h _ (by simp) (heap_alloc_new w _) ((Below.refl _ _).alloc (Nat.le_refl _) _)
end Go.Proofs.Ytaihgckcmcacfaa
namespace Go.Proofs.Ytaihgckcmcacfaa
open Go.RowKit
set_option linter.unusedVariables false
set_option linter.unusedSimpArgs false

theorem tab_exp {w : World} {g : Nat} {t : TypeId} {T : Array Value} (hT : IsTab T) (h : w.heap[g]? = some (.cells T t (0, 0))) (i : Nat) (hi : i < 510) : w.cell? ⟨g, i, none⟩ = some (.int .u8 ((Gf.ex i).toNat : Int)) := by
  rw [cell_of_row _ _ _ _ _ _ h]; exact hT.exp i hi
theorem tab_log {w : World} {g : Nat} {t : TypeId} {T : Array Value} (hT : IsTab T) (h : w.heap[g]? = some (.cells T t (0, 0))) {a : UInt8} (ha : a ≠ 0) : w.cell? ⟨g, 510 + a.toNat, none⟩ = some (.int .i64 (Gf.lg a : Int)) := by
  rw [cell_of_row _ _ _ _ _ _ h]; exact hT.log ha
/-- block g holds the tables -/
def HasTab (w : World) (g : Nat) : Prop := ∃ T, IsTab T ∧ w.heap[g]? = some (.cells T 66 (0, 0))
theorem HasTab.mk {w : World} {g : Nat} {T : Array Value} (hT : IsTab T) (h : w.heap[g]? = some (.cells T 66 (0, 0))) : HasTab w g := ⟨T, hT, h⟩
theorem HasTab.lt {w : World} {g : Nat} (h : HasTab w g) : g < w.heap.size := by
  obtain ⟨T, _, h⟩ := h
  rcases Nat.lt_or_ge g w.heap.size with hlt | hge
  · exact hlt
  · rw [Array.getElem?_eq_none hge] at h; cases h
theorem HasTab.of_block {w w' : World} {g : Nat} (h : HasTab w g) (hb : w'.heap[g]? = w.heap[g]?) : HasTab w' g := by
  obtain ⟨T, hT, h⟩ := h; exact ⟨T, hT, hb.trans h⟩
theorem HasTab.drewN {w : World} {g : Nat} (h : HasTab w g) (n : Nat) : HasTab (w.drewN n) g := h
theorem HasTab.exp {w : World} {g : Nat} (h : HasTab w g) (i : Nat) (hi : i < 510) : w.cell? ⟨g, i, none⟩ = some (.int .u8 ((Gf.ex i).toNat : Int)) := by
  obtain ⟨T, hT, h⟩ := h; exact tab_exp hT h i hi
theorem HasTab.log {w : World} {g : Nat} (h : HasTab w g) {a : UInt8} (ha : a ≠ 0) : w.cell? ⟨g, 510 + a.toNat, none⟩ = some (.int .i64 (Gf.lg a : Int)) := by
  obtain ⟨T, hT, h⟩ := h; exact tab_log hT h ha

set_option maxRecDepth 100000 in
set_option maxHeartbeats 400000 in
theorem tmul_calls (g : Nat) (a b : UInt8) (w : World) (h : HasTab w g) :
    Calls Try.prog 58 #[.pointer (some ⟨g, 0, none⟩), .int .u8 (a.toNat : Int), .int .u8 (b.toNat : Int)] w fun e w' => e = .returned (.int .u8 ((Gf.mul a b).toNat : Int)) ∧ ∃ n, w' = w.drewN n := by
  have ha := u8_eq_zero a
  have hb := u8_eq_zero b
  by_cases h1 : a = 0
  · have hz := Lib.hid (show Gf.mul a b = 0 by rw [h1, Gf.mul_zero_left])
    rw [decide_eq_true h1] at ha
    clear h1 hb
    go_enter Try.func58, Try.ntmps58
    go_wp2_with fail
    go_ret
    exact ⟨by rw [hz.out]; rfl, 0, rfl⟩
  by_cases h2 : b = 0
  · have hz := Lib.hid (show Gf.mul a b = 0 by rw [h2, Gf.mul_zero])
    rw [decide_eq_true h2] at hb
    rw [decide_eq_false h1] at ha
    clear h1 h2
    go_enter Try.func58, Try.ntmps58
    go_wp2_with fail
    go_ret
    exact ⟨by rw [hz.out]; rfl, 0, rfl⟩
  have hz := Lib.hid (Gf.mul_eq h1 h2)
  have c1 := h.log h1
  have c2 := h.log h2
  have l1 := Gf.lg_bd h1
  have l2 := Gf.lg_bd h2
  have c3 := h.exp (Gf.lg a + Gf.lg b) (by omega)
  rw [decide_eq_false h2] at hb
  rw [decide_eq_false h1] at ha
  have ba := a.toNat_lt
  have bb := b.toNat_lt
  generalize Gf.lg a = x at *
  generalize Gf.lg b = y at *
  clear h1 h2 h
  go_enter Try.func58, Try.ntmps58
  go_wp2_with fail
  have e1 : IntKind.i64.wrap ((x : Int) + (y : Int)) = (x : Int) + (y : Int) := IntWalk.i64_in _ (by omega)
  have e2 : ((x : Int) + (y : Int)).toNat = x + y := by omega
  have e3 : 0 ≤ (x : Int) + (y : Int) := by omega
  go_quiet (fail)
  go_wp2_with fail
  go_ret
  exact ⟨by rw [hz.out]; rfl, _, rfl⟩

end Go.Proofs.Ytaihgckcmcacfaa
namespace Go.Proofs.Ytaihgckcmcacfaa
open Go.RowKit
set_option linter.unusedVariables false
set_option linter.unusedSimpArgs false

theorem bounded_eq (n : Int) : (wrap64 (n.tmod 255 + 255)).tmod 255 = n % 255 := by
  have h := Int.tmod_eq_emod (a := n) (b := 255)
  have h1 : -255 < n.tmod 255 ∧ n.tmod 255 < 255 := by
    rw [h]
    have := Int.emod_lt_of_pos n (show (0 : Int) < 255 by omega)
    have := Int.emod_nonneg n (show (255 : Int) ≠ 0 by omega)
    split <;> omega
  have h2 : wrap64 (n.tmod 255 + 255) = n.tmod 255 + 255 := by unfold wrap64; omega
  rw [h2, Int.tmod_eq_emod_of_nonneg (by omega), h]
  split <;> omega
set_option maxHeartbeats 400000 in
theorem bounded_calls (n : Int) (w : World) :
    Calls Try.prog 60 #[.int .i64 n] w fun e w' => e = .returned (.int .i64 (n % 255)) ∧ w = w' := by
  go_enter Try.func60, Try.ntmps60
  go_wp2_with fail
  go_ret
  exact ⟨congrArg (fun x => Ending.returned (.int .i64 x)) (bounded_eq n), rfl⟩

/-- the error of a power, as a number -/
def Gf.powE (a : UInt8) (n : Int) : Int := if a = 0 ∧ n < 0 then 5 else 0
theorem pw_yes {a : UInt8} {n : Int} (hn : n ≠ 0) (ha : a ≠ 0) : Gf.ex (Gf.lg a * (n % 255).toNat % 255) = Gf.pw a n := by
  unfold Gf.pw; rw [if_neg hn, if_neg ha]
set_option maxRecDepth 100000 in
set_option maxHeartbeats 400000 in
theorem pow_calls (a : UInt8) (n : Int) (w : World) (h0 : -9223372036854775808 ≤ n) (h1 : n ≤ 9223372036854775807) :
    Calls Try.prog 56 #[.int .u8 (a.toNat : Int), .int .i64 n] w fun e w' =>
      e = .returned (.tuple #[.int .u8 ((Gf.pw a n).toNat : Int), .int .i64 (Gf.powE a n)]) ∧ Below w.heap.size w w' := by
  have ha := u8_eq_zero a
  by_cases hn : n = 0
  · subst hn
    go_enter Try.func56, Try.ntmps56
    go_wp2_with fail
    go_ret2
    exact ⟨by simp [Gf.pw, Gf.powE], Below.refl _ _⟩
  have hn1 : (n == 0) = false := by simpa using hn
  by_cases hz : a = 0
  · rw [decide_eq_true hz] at ha
    by_cases hlt : n < 0
    · have hd : decide (n < 0) = true := by simpa using hlt
      have hp := Lib.hid (show Gf.pw a n = 0 by unfold Gf.pw; rw [if_neg hn, if_pos hz])
      have hc := Lib.hid (show Gf.powE a n = 5 by unfold Gf.powE; rw [if_pos ⟨hz, hlt⟩])
      clear hz hn
      go_enter Try.func56, Try.ntmps56
      go_wp2_with fail
      go_ret2
      exact ⟨by rw [hp.out, hc.out]; rfl, Below.refl _ _⟩
    · have hd : decide (n < 0) = false := by simpa using hlt
      have hp := Lib.hid (show Gf.pw a n = 0 by unfold Gf.pw; rw [if_neg hn, if_pos hz])
      have hc := Lib.hid (show Gf.powE a n = 0 by unfold Gf.powE; rw [if_neg (fun h => hlt h.2)])
      clear hz hn
      go_enter Try.func56, Try.ntmps56
      go_wp2_with fail
      go_ret2
      exact ⟨by rw [hp.out, hc.out]; rfl, Below.refl _ _⟩
  rw [decide_eq_false hz] at ha
  have hp := Lib.hid (pw_yes hn hz)
  have hc := Lib.hid (show Gf.powE a n = 0 by unfold Gf.powE; rw [if_neg (fun h => hz h.1)])
  have hl := Gf.lg_bd hz
  have HZ := Lib.hid hz
  have m0 : 0 ≤ n % 255 := Int.emod_nonneg _ (by omega)
  have m1 : n % 255 < 255 := Int.emod_lt_of_pos _ (by omega)
  obtain ⟨m, hm⟩ : ∃ m : Nat, n % 255 = (m : Int) := ⟨(n % 255).toNat, by omega⟩
  have hb : ∀ w, Calls Try.prog 60 #[.int .i64 n] w fun e w' => e = .returned (.int .i64 (m : Int)) ∧ w = w' := by
    intro w; rw [← hm]; exact bounded_calls n w
  have HB := Lib.hid hb
  have hk : m < 255 := by omega
  rw [hm, Int.toNat_natCast] at hp
  have HM := Lib.hid hm
  clear hz hb m0 m1 hm
  obtain ⟨x, hx⟩ : ∃ x, x = Gf.lg a := ⟨_, rfl⟩
  rw [← hx] at hl hp
  have HX := Lib.hid hx
  clear hx
  obtain ⟨p, r, hp1, hr, e1, e2, hpr⟩ : ∃ p r : Nat, p ≤ 64516 ∧ r < 255 ∧ IntKind.i64.wrap ((x : Int) * (m : Int)) = (p : Int) ∧ ((p : Int)).tmod 255 = (r : Int) ∧ Hid (x * m % 255 = r) := by
    have hmul : x * m ≤ 254 * 254 := Nat.mul_le_mul (by omega) (by omega)
    refine ⟨x * m, x * m % 255, hmul, Nat.mod_lt _ (by omega), ?_, ?_, rfl⟩
    · rw [← Int.natCast_mul]; exact IntWalk.i64_in _ (by omega)
    · rw [Int.tmod_eq_emod_of_nonneg (by omega)]; omega
  rw [hpr.out] at hp
  have E1 := Lib.hid e1
  have E2 := Lib.hid e2
  clear e1 e2
  have ba := a.toNat_lt
  obtain ⟨Z, hzv, HZ0, HSZ⟩ := zero_tables'
  clear hn h0 h1
  go_enter Try.func56, Try.ntmps56
  go_wp2_with (first | (go_at_call 57; refine (build_calls _).mono ?_; rintro e w1 ⟨T, hT, rfl, hb1⟩) | (refine wpList_store_tab (.tmp 6) (.tmp 20) rfl rfl T Z hT HZ0 HSZ rfl rfl ?_; intro w2 hs2 hg2 hb2))
  have ht := HasTab.mk hT hg2
  have c1 := ht.log HZ.out
  rw [← HX.out] at c1
  have c2 := ht.exp r (by omega)
  have e1 := E1.out
  have e2 := E2.out
  have HS2 := Lib.hid hs2
  clear ht hzv hg2 hs2
  go_frame
  go_quiet ((go_at_call 60; exact Calls.quiet_of_same ((HB.out _).mono fun _ _ ⟨h1, h2⟩ => ⟨h1, h2.symm⟩)))
  go_wp2_with fail
  go_ret2
  exact ⟨by rw [← hp.out, hc.out]; rfl, below_drewN (hb1.trans (hb2.mono hb1.size)) _⟩

end Go.Proofs.Ytaihgckcmcacfaa
namespace Go.Proofs.Ytaihgckcmcacfaa
open Go.RowKit
set_option linter.unusedVariables false
set_option linter.unusedSimpArgs false

/-- the error of an inverse, as a number -/
def Gf.invE (a : UInt8) : Int := if a = 0 then 5 else 0
theorem pw_inv (a : UInt8) : Gf.pw a (-1) = Gf.inv a := by
  unfold Gf.pw Gf.inv
  rw [if_neg (by decide)]
  by_cases h : a = 0
  · rw [if_pos h, if_pos h]
  · rw [if_neg h, if_neg h]
    have hm : ((-1 : Int) % 255).toNat = 254 := by decide
    rw [hm]
    have h1 := Gf.lg_bd h
    rw [← Gf.ex_mod (255 - Gf.lg a)]
    congr 1
    omega
theorem powE_inv (a : UInt8) : Gf.powE a (-1) = Gf.invE a := by
  unfold Gf.powE Gf.invE
  by_cases h : a = 0 <;> simp [h]

set_option maxHeartbeats 400000 in
theorem inv_calls (a : UInt8) (w : World) :
    Calls Try.prog 48 #[.int .u8 (a.toNat : Int)] w fun e w' => e = .returned (.tuple #[.int .u8 ((Gf.inv a).toNat : Int), .int .i64 (Gf.invE a)]) ∧ Below w.heap.size w w' := by
  have hp := pow_calls a (-1) w (by omega) (by omega)
  rw [pw_inv, powE_inv] at hp
  have HP := Lib.hid hp
  clear hp
  go_enter Try.func48, Try.ntmps48
  go_wp2_with (go_at_call 56; refine HP.out.mono ?_; rintro e w1 ⟨rfl, hb1⟩)
  go_ret2
  exact ⟨rfl, hb1⟩

end Go.Proofs.Ytaihgckcmcacfaa
namespace Go.Proofs.Ytaihgckcmcacfaa
open Go.RowKit
set_option linter.unusedVariables false
set_option linter.unusedSimpArgs false

theorem u8_beq (a b : UInt8) : ((a.toNat : Int) == (b.toNat : Int)) = decide (a = b) := by
  rw [Bool.eq_iff_iff]
  simp only [beq_iff_eq, decide_eq_true_eq]
  exact ⟨fun h => UInt8.toNat_inj.1 (Int.ofNat_inj.1 h), fun h => by rw [h]⟩
theorem u8_one (a : UInt8) : ((a.toNat : Int) == 1) = decide (a = 1) := u8_beq a 1
theorem u8_nat (n : Nat) (h : n < 256) : ∃ u : UInt8, u.toNat = n := ⟨UInt8.ofNat n, by rw [UInt8.toNat_ofNat']; omega⟩

set_option maxRecDepth 100000 in
set_option maxHeartbeats 400000 in
theorem refInv_calls (a : UInt8) (w : World) :
    Calls Try.prog 47 #[.int .u8 (a.toNat : Int)] w fun e w' => e = .returned (.tuple #[.int .u8 ((Gf.inv a).toNat : Int), .int .i64 (Gf.invE a)]) ∧ w = w' := by
  go_enter Try.func47, Try.ntmps47
  go_wp2_with fail
  go_loop [4] (fun v4 => ∃ b : Nat, 1 ≤ b ∧ b ≤ 256 ∧ v4 = .int .i64 (b : Int) ∧ Hid (∀ u : UInt8, 1 ≤ u.toNat → u.toNat < b → Gf.mul a u ≠ 1)) (fun v4 => 256 - (intOf v4).toNat)
  case atStart => exact ⟨1, by omega, by omega, rfl, fun u h1 h2 => by omega⟩
  case round =>
    obtain ⟨b, hb1, hb2, rfl, HB⟩ := hrel
    by_cases hlt : b < 256
    · obtain ⟨u, rfl⟩ := u8_nat b hlt
      have hq := u8_one (Gf.mul a u)
      have hw : (u.toNat : Int) % 256 = (u.toNat : Int) := by omega
      by_cases hm : Gf.mul a u = 1
      · rw [decide_eq_true hm] at hq
        have H1 := Lib.hid (Gf.inv_unique hm)
        have H2 := Lib.hid (show Gf.invE a = 0 by unfold Gf.invE; rw [if_neg (by rintro rfl; rw [Gf.mul_zero_left] at hm; exact absurd hm (by decide))])
        clear hm
        go_wp2_with (go_at_call 28; refine (refMul_calls _ _ _).mono ?_; rintro e w' ⟨rfl, rfl⟩)
        go_ret2
        exact ⟨by rw [← H1.out, H2.out]; rfl, rfl⟩
      · rw [decide_eq_false hm] at hq
        have HM := Lib.hid hm
        clear hm
        go_wp2_with (go_at_call 28; refine (refMul_calls _ _ _).mono ?_; rintro e w' ⟨rfl, rfl⟩)
        go_round
        case rel =>
          refine ⟨u.toNat + 1, by omega, by omega, by go_num, fun v h1 h2 => ?_⟩
          by_cases e : v.toNat = u.toNat
          · rw [UInt8.toNat_inj.1 e]; exact HM.out
          · exact HB.out v h1 (by omega)
        case measure => simp [intOf]; omega
    · obtain rfl : b = 256 := by omega
      have hz : a = 0 := by
        by_cases h : a = 0
        · exact h
        · have h1 := HB.out (Gf.inv a) (Nat.pos_of_ne_zero fun e => Gf.inv_ne h ((toNat_zero _).1 e)) (Gf.inv a).toNat_lt
          exact absurd (Gf.mul_inv h) h1
      have H1 := Lib.hid (show Gf.inv a = 0 by rw [hz]; rfl)
      have H2 := Lib.hid (show Gf.invE a = 5 by unfold Gf.invE; rw [if_pos hz])
      clear hz
      go_wp2_with fail
      go_ret2
      exact ⟨by rw [H1.out, H2.out]; rfl, rfl⟩

end Go.Proofs.Ytaihgckcmcacfaa
namespace Go.Proofs.Ytaihgckcmcacfaa
open Go.RowKit Go.Proofs.YtaihgckcmcacfaaW.PrintWords
set_option linter.unusedVariables false
set_option linter.unusedSimpArgs false

def recoupref01_Inv.f (a : Int) : Option (Int × Int) := if byteB a = true then some (((Gf.inv (toU a)).toNat : Int), Gf.invE (toU a)) else none
theorem recoupref01_Inv.calls (a0 : Int) (r1 : Int) (r2 : Int) (w : World)  (h : recoupref01_Inv.f a0 = some (r1, r2)) :
    Calls Try.prog 47 #[.int .u8 a0] w fun e w' => e = .returned (.tuple #[.int .u8 r1, .int .i64 r2]) ∧ Drawn0 w w' := by
  unfold recoupref01_Inv.f at h
  split at h
  · rename_i hi
    simp only [Option.some.injEq, Prod.mk.injEq] at h
    obtain ⟨rfl, rfl⟩ := h
    have hc := refInv_calls (toU a0) w
    rw [toU_of hi] at hc
    refine hc.mono ?_
    rintro e w' ⟨rfl, rfl⟩
    exact ⟨rfl, 0, rfl⟩
  · cases h
end Go.Proofs.Ytaihgckcmcacfaa
namespace Go.Proofs.Ytaihgckcmcacfaa
open Go.RowKit Go.Proofs.YtaihgckcmcacfaaW.PrintWords
set_option linter.unusedVariables false
set_option linter.unusedSimpArgs false

def recoupref01_Mul.f (a b : Int) : Option Int := if (byteB a && byteB b) = true then some ((Gf.mul (toU a) (toU b)).toNat : Int) else none
theorem recoupref01_Mul.calls (a0 : Int) (a1 : Int) (r : Int) (w : World)  (h : recoupref01_Mul.f a0 a1 = some r) :
    Calls Try.prog 28 #[.int .u8 a0, .int .u8 a1] w fun e w' => e = .returned (.int .u8 r) ∧ Drawn0 w w' := by
  unfold recoupref01_Mul.f at h
  split at h
  · rename_i hi
    rw [Bool.and_eq_true] at hi
    obtain rfl := Option.some.inj h
    have hc := refMul_calls (toU a0) (toU a1) w
    rw [toU_of hi.1, toU_of hi.2] at hc
    refine hc.mono ?_
    rintro e w' ⟨rfl, rfl⟩
    exact ⟨rfl, 0, rfl⟩
  · cases h
end Go.Proofs.Ytaihgckcmcacfaa
namespace Go.Proofs.Ytaihgckcmcacfaa
set_option linter.unusedVariables false
set_option linter.unusedSimpArgs false

/-- R rows of C entries, row by row -/
def gridD (R C : Nat) (f : Nat → Nat → UInt8) : List UInt8 := (List.range (R * C)).map fun p => f (p / C) (p % C)
theorem grid_length (R C : Nat) (f : Nat → Nat → UInt8) : (gridD R C f).length = R * C := by simp [gridD]
theorem place_lt {R C i j : Nat} (hi : i < R) (hj : j < C) : i * C + j < R * C := by
  have h : (i + 1) * C ≤ R * C := Nat.mul_le_mul_right C hi
  rw [Nat.add_mul] at h
  omega
theorem place_div {C i j : Nat} (hj : j < C) : (i * C + j) / C = i := by
  rw [Nat.add_comm, Nat.add_mul_div_right _ _ (by omega), Nat.div_eq_of_lt hj, Nat.zero_add]
theorem place_mod {C i j : Nat} (hj : j < C) : (i * C + j) % C = j := by
  rw [Nat.add_comm, Nat.add_mul_mod_self_right, Nat.mod_eq_of_lt hj]
theorem place_of {R C p : Nat} (hp : p < R * C) : p / C < R ∧ p % C < C ∧ p = p / C * C + p % C := by
  have hC : 0 < C := by
    rcases Nat.eq_zero_or_pos C with h | h
    · subst h; simp at hp
    · exact h
  refine ⟨(Nat.div_lt_iff_lt_mul hC).2 hp, Nat.mod_lt _ hC, ?_⟩
  have := Nat.div_add_mod p C
  rw [Nat.mul_comm] at this
  omega
theorem grid_get {R C i j : Nat} (f : Nat → Nat → UInt8) (hi : i < R) (hj : j < C) : (gridD R C f)[i * C + j]? = some (f i j) := by
  simp only [gridD, List.getElem?_map, List.getElem?_range (place_lt hi hj), Option.map_some, place_div hj, place_mod hj]
theorem grid_getD {R C i j : Nat} (f : Nat → Nat → UInt8) (hi : i < R) (hj : j < C) : (gridD R C f).getD (i * C + j) 0 = f i j := by
  rw [List.getD_eq_getElem?_getD, grid_get f hi hj]; rfl
theorem grid_congr {R C : Nat} {f g : Nat → Nat → UInt8} (h : ∀ i j, i < R → j < C → f i j = g i j) : gridD R C f = gridD R C g := by
  unfold gridD
  apply List.map_congr_left
  intro p hp
  obtain ⟨h1, h2, _⟩ := place_of (List.mem_range.1 hp)
  exact h _ _ h1 h2
theorem grid_ext {R C : Nat} {xs : List UInt8} {f : Nat → Nat → UInt8} (hl : xs.length = R * C) (h : ∀ i j, i < R → j < C → xs[i * C + j]? = some (f i j)) : xs = gridD R C f := by
  apply List.ext_getElem?
  intro p
  rcases Nat.lt_or_ge p (R * C) with hp | hp
  · obtain ⟨h1, h2, h3⟩ := place_of hp
    rw [h3, h _ _ h1 h2, grid_get f h1 h2]
  · rw [List.getElem?_eq_none (by omega), List.getElem?_eq_none (by rw [grid_length]; omega)]
theorem grid_of {R C : Nat} {xs : List UInt8} (hl : xs.length = R * C) : xs = gridD R C (fun i j => xs.getD (i * C + j) 0) := by
  refine grid_ext hl fun i j hi hj => ?_
  have := place_lt hi hj
  rw [List.getD_eq_getElem?_getD, List.getElem?_eq_getElem (by omega)]
  rfl
theorem grid_zero (R C : Nat) : List.replicate (R * C) 0 = gridD R C (fun _ _ => 0) := by
  unfold gridD
  rw [List.map_const', List.length_range]
theorem place_inj {C i j a b : Nat} (hj : j < C) (hb : b < C) (h : i * C + j = a * C + b) : i = a ∧ j = b :=
  ⟨by have h1 := congrArg (· / C) h; simpa only [place_div hj, place_div hb] using h1, by have h1 := congrArg (· % C) h; simpa only [place_mod hj, place_mod hb] using h1⟩
theorem grid_set {R C i j : Nat} (f : Nat → Nat → UInt8) (v : UInt8) (hi : i < R) (hj : j < C) : (gridD R C f).set (i * C + j) v = gridD R C (fun a b => if a = i ∧ b = j then v else f a b) := by
  refine grid_ext (by rw [List.length_set, grid_length]) fun a b ha hb => ?_
  rw [List.getElem?_set]
  by_cases h : i * C + j = a * C + b
  · obtain ⟨rfl, rfl⟩ := place_inj hj hb h
    rw [if_pos rfl, if_pos (by rw [grid_length]; exact place_lt hi hj), if_pos ⟨rfl, rfl⟩]
  · rw [if_neg h, grid_get f ha hb, if_neg (by rintro ⟨rfl, rfl⟩; exact h rfl)]
theorem grid_row {R C i : Nat} (f : Nat → Nat → UInt8) (hi : i < R) : ((gridD R C f).drop (i * C)).take C = (List.range C).map (f i) := by
  apply List.ext_getElem?
  intro j
  rw [List.getElem?_take]
  rcases Nat.lt_or_ge j C with hj | hj
  · rw [if_pos hj, List.getElem?_drop, grid_get f hi hj, List.getElem?_map, List.getElem?_range hj]; rfl
  · rw [if_neg (by omega), List.getElem?_eq_none (by simpa using hj)]
theorem grid_take {R C i j : Nat} (f : Nat → Nat → UInt8) (hi : i < R) (hj : j < C) : (gridD R C f).take (i * C + j) ++ [f i j] = (gridD R C f).take (i * C + j + 1) := by
  rw [List.take_add_one, grid_get f hi hj]; rfl

/-- filled row by row up to (i, j) -/
def fillT (R C : Nat) (f : Nat → Nat → UInt8) (i j : Nat) : List UInt8 := gridD R C (fun a b => if a < i ∨ (a = i ∧ b < j) then f a b else 0)
theorem fillT_start (R C : Nat) (f : Nat → Nat → UInt8) : List.replicate (R * C) 0 = fillT R C f 0 0 := by
  rw [grid_zero]
  exact grid_congr fun i j _ _ => (if_neg (by omega)).symm
theorem fillT_set {R C i j : Nat} (f : Nat → Nat → UInt8) (hi : i < R) (hj : j < C) : (fillT R C f i j).set (i * C + j) (f i j) = fillT R C f i (j + 1) := by
  unfold fillT
  rw [grid_set _ _ hi hj]
  refine grid_congr fun a b _ _ => ?_
  by_cases h : a = i ∧ b = j
  · rw [if_pos h, if_pos (by omega), h.1, h.2]
  · rw [if_neg h]
    by_cases h2 : a < i ∨ (a = i ∧ b < j)
    · rw [if_pos h2, if_pos (by omega)]
    · rw [if_neg h2, if_neg (by omega)]
theorem fillT_next (R C i : Nat) (f : Nat → Nat → UInt8) : fillT R C f i C = fillT R C f (i + 1) 0 := by
  refine grid_congr fun a b _ hb => ?_
  by_cases h : a < i ∨ (a = i ∧ b < C)
  · rw [if_pos h, if_pos (by omega)]
  · rw [if_neg h, if_neg (by omega)]
theorem fillT_end (R C : Nat) (f : Nat → Nat → UInt8) : fillT R C f R 0 = gridD R C f := grid_congr fun a b ha _ => if_pos (by omega)
theorem fillT_length (R C i j : Nat) (f : Nat → Nat → UInt8) : (fillT R C f i j).length = R * C := grid_length _ _ _
theorem fillT_at {R C i j : Nat} (f : Nat → Nat → UInt8) (hi : i < R) (hj : j < C) : (fillT R C f i j).set (i * C + j) 0 = fillT R C f i j := by
  unfold fillT
  rw [grid_set _ _ hi hj]
  refine grid_congr fun a b _ _ => ?_
  by_cases h : a = i ∧ b = j
  · rw [if_pos h, if_neg (by omega)]
  · rw [if_neg h]
/-- filled column by column up to (i, j): column j as far as row i -/
def fillC (R C : Nat) (f : Nat → Nat → UInt8) (j i : Nat) : List UInt8 := gridD R C (fun a b => if b < j ∨ (b = j ∧ a < i) then f a b else 0)
theorem fillC_start (R C : Nat) (f : Nat → Nat → UInt8) : List.replicate (R * C) 0 = fillC R C f 0 0 := by
  rw [grid_zero]
  exact grid_congr fun i j _ _ => (if_neg (by omega)).symm
theorem fillC_set {R C i j : Nat} (f : Nat → Nat → UInt8) (hi : i < R) (hj : j < C) : (fillC R C f j i).set (i * C + j) (f i j) = fillC R C f j (i + 1) := by
  unfold fillC
  rw [grid_set _ _ hi hj]
  refine grid_congr fun a b _ _ => ?_
  by_cases h : a = i ∧ b = j
  · rw [if_pos h, if_pos (by omega), h.1, h.2]
  · rw [if_neg h]
    by_cases h2 : b < j ∨ (b = j ∧ a < i)
    · rw [if_pos h2, if_pos (by omega)]
    · rw [if_neg h2, if_neg (by omega)]
theorem fillC_next (R C j : Nat) (f : Nat → Nat → UInt8) : fillC R C f j R = fillC R C f (j + 1) 0 := by
  refine grid_congr fun a b ha _ => ?_
  by_cases h : b < j ∨ (b = j ∧ a < R)
  · rw [if_pos h, if_pos (by omega)]
  · rw [if_neg h, if_neg (by omega)]
theorem fillC_end (R C : Nat) (f : Nat → Nat → UInt8) : fillC R C f C 0 = gridD R C f := grid_congr fun a b _ hb => if_pos (by omega)
theorem fillC_length (R C i j : Nat) (f : Nat → Nat → UInt8) : (fillC R C f i j).length = R * C := grid_length _ _ _

/-! sums -/
def sumF : Nat → (Nat → UInt8) → UInt8
  | 0, _ => 0
  | n + 1, f => Gf.add (sumF n f) (f n)
theorem sumF_congr {n : Nat} {f g : Nat → UInt8} (h : ∀ i, i < n → f i = g i) : sumF n f = sumF n g := by
  induction n with
  | zero => rfl
  | succ n ih => rw [sumF, sumF, ih (fun i hi => h i (by omega)), h n (by omega)]
theorem sumF_add (n : Nat) (f g : Nat → UInt8) : sumF n (fun i => Gf.add (f i) (g i)) = Gf.add (sumF n f) (sumF n g) := by
  induction n with
  | zero => exact (Gf.zero_add 0).symm
  | succ n ih => simp only [sumF, ih]; rw [Gf.add_assoc, Gf.add_assoc, Gf.add_left_comm (sumF n g)]
theorem sumF_zero (n : Nat) : sumF n (fun _ => 0) = 0 := by
  induction n with
  | zero => rfl
  | succ n ih => rw [sumF, ih]; rfl
theorem sumF_mul (n : Nat) (c : UInt8) (f : Nat → UInt8) : Gf.mul c (sumF n f) = sumF n (fun i => Gf.mul c (f i)) := by
  induction n with
  | zero => exact Gf.mul_zero c
  | succ n ih => rw [sumF, sumF, Gf.mul_add, ih]
theorem sumF_mul_right (n : Nat) (c : UInt8) (f : Nat → UInt8) : Gf.mul (sumF n f) c = sumF n (fun i => Gf.mul (f i) c) := by
  rw [Gf.mul_comm, sumF_mul]
  exact sumF_congr fun i _ => Gf.mul_comm _ _
theorem sumF_swap (m n : Nat) (f : Nat → Nat → UInt8) : sumF m (fun i => sumF n (fun j => f i j)) = sumF n (fun j => sumF m (fun i => f i j)) := by
  induction m with
  | zero => rw [sumF]; exact (sumF_zero n).symm
  | succ m ih => simp only [sumF]; rw [ih, ← sumF_add]
/-- only the entry k counts -/
theorem sumF_one {n k : Nat} (hk : k < n) {f : Nat → UInt8} (h : ∀ i, i < n → i ≠ k → f i = 0) : sumF n f = f k := by
  induction n with
  | zero => omega
  | succ n ih =>
    rw [sumF]
    by_cases e : k = n
    · subst e
      rw [sumF_congr (g := fun _ => 0) (fun i hi => h i (by omega) (by omega)), sumF_zero, Gf.zero_add]
    · rw [ih (by omega) (fun i hi hne => h i (by omega) hne), h n (by omega) (fun h => e h.symm), Gf.add_zero]
/-- a sum over m times n places -/
theorem sumF_split (n : Nat) (f : Nat → UInt8) : ∀ m, sumF (m * n) f = sumF m (fun i => sumF n (fun j => f (i * n + j)))
  | 0 => by rw [Nat.zero_mul]; rfl
  | m + 1 => by
    rw [sumF, ← sumF_split n f m, Nat.add_mul, Nat.one_mul]
    generalize m * n = k
    induction n with
    | zero => rw [sumF, Gf.add_zero]; rfl
    | succ n ih => rw [← Nat.add_assoc, sumF, sumF, ih, Gf.add_assoc]
theorem dotTo_sum (xs ys : List UInt8) : ∀ n, Gf.dotTo xs ys n = sumF n (fun k => Gf.mul (xs.getD k 0) (ys.getD k 0))
  | 0 => rfl
  | n + 1 => by rw [Gf.dotTo, sumF, dotTo_sum xs ys n]
theorem dot_sum {xs ys : List UInt8} {n : Nat} (h : xs.length = n) : Gf.dot xs ys = sumF n (fun k => Gf.mul (xs.getD k 0) (ys.getD k 0)) := by
  unfold Gf.dot; rw [h, dotTo_sum]
end Go.Proofs.Ytaihgckcmcacfaa
namespace Go.Proofs.Ytaihgckcmcacfaa
set_option linter.unusedVariables false
set_option linter.unusedSimpArgs false

/-- how many coefficients stay of the first n, without the noughts at their end -/
def trimN (xs : List UInt8) : Nat → Nat
  | 0 => 0
  | n + 1 => if xs.getD n 0 = 0 then trimN xs n else n + 1
def trimE (xs : List UInt8) : Nat := trimN xs xs.length
def trimL (xs : List UInt8) : List UInt8 := xs.take (trimE xs)
theorem trimN_le (xs : List UInt8) : ∀ n, trimN xs n ≤ n
  | 0 => Nat.le_refl _
  | n + 1 => by
    unfold trimN
    split
    · exact Nat.le_succ_of_le (trimN_le xs n)
    · exact Nat.le_refl _
theorem trimE_le (xs : List UInt8) : trimE xs ≤ xs.length := trimN_le xs _
theorem trimL_length (xs : List UInt8) : (trimL xs).length = trimE xs := by
  unfold trimL
  rw [List.length_take]
  have := trimE_le xs
  omega
theorem trimN_high (xs : List UInt8) : ∀ n i, trimN xs n ≤ i → i < n → xs.getD i 0 = 0
  | 0, _, _, h => by omega
  | n + 1, i, h1, h2 => by
    unfold trimN at h1
    split at h1
    · rename_i h0
      by_cases e : i = n
      · rw [e]; exact h0
      · exact trimN_high xs n i h1 (by omega)
    · omega
theorem getD_out (xs : List UInt8) (i : Nat) (h : xs.length ≤ i) : xs.getD i 0 = 0 := by
  rw [List.getD_eq_getElem?_getD, List.getElem?_eq_none h]; rfl
theorem trimE_high (xs : List UInt8) (i : Nat) (h : trimE xs ≤ i) : xs.getD i 0 = 0 := by
  rcases Nat.lt_or_ge i xs.length with h1 | h1
  · exact trimN_high xs _ i h h1
  · exact getD_out xs i h1
theorem trimN_top (xs : List UInt8) : ∀ n, 0 < trimN xs n → xs.getD (trimN xs n - 1) 0 ≠ 0
  | 0, h => by unfold trimN at h; omega
  | n + 1, h => by
    unfold trimN at h ⊢
    split
    · rename_i h0
      rw [if_pos h0] at h
      exact trimN_top xs n h
    · rename_i h0
      exact h0
theorem trimE_top (xs : List UInt8) (h : 0 < trimE xs) : xs.getD (trimE xs - 1) 0 ≠ 0 := trimN_top xs _ h
/-- what decides it: nothing from n on, and something at n - 1 -/
theorem trimE_of {xs : List UInt8} {n : Nat} (h1 : ∀ i, n ≤ i → xs.getD i 0 = 0) (h2 : 0 < n → xs.getD (n - 1) 0 ≠ 0) : trimE xs = n := by
  rcases Nat.lt_trichotomy (trimE xs) n with h | h | h
  · exact absurd (trimE_high xs (n - 1) (by omega)) (h2 (by omega))
  · exact h
  · exact absurd (h1 (trimE xs - 1) (by omega)) (trimE_top xs (by omega))
theorem trimL_getD (xs : List UInt8) (i : Nat) : (trimL xs).getD i 0 = xs.getD i 0 := by
  unfold trimL
  rw [List.getD_eq_getElem?_getD, List.getElem?_take]
  split
  · rw [List.getD_eq_getElem?_getD]
  · rw [trimE_high xs i (by omega)]; rfl
theorem list_ext0 {xs ys : List UInt8} (hl : xs.length = ys.length) (h : ∀ i, xs.getD i 0 = ys.getD i 0) : xs = ys := by
  apply List.ext_getElem hl
  intro i h1 h2
  have := h i
  rw [List.getD_eq_getElem?_getD, List.getD_eq_getElem?_getD, List.getElem?_eq_getElem h1, List.getElem?_eq_getElem h2] at this
  exact this
theorem trimE_congr {xs ys : List UInt8} (h : ∀ i, xs.getD i 0 = ys.getD i 0) : trimE xs = trimE ys :=
  trimE_of (fun i hi => by rw [h]; exact trimE_high ys i hi) (fun h0 => by rw [h]; exact trimE_top ys h0)
/-- two lists with the same coefficients are the same when trimmed -/
theorem trimL_congr {xs ys : List UInt8} (h : ∀ i, xs.getD i 0 = ys.getD i 0) : trimL xs = trimL ys :=
  list_ext0 (by rw [trimL_length, trimL_length, trimE_congr h]) (fun i => by rw [trimL_getD, trimL_getD]; exact h i)
theorem trimE_trimL (xs : List UInt8) : trimE (trimL xs) = trimE xs := trimE_congr (fun i => trimL_getD xs i)
theorem trimL_idem (xs : List UInt8) : trimL (trimL xs) = trimL xs := trimL_congr (fun i => trimL_getD xs i)
theorem trimL_self {xs : List UInt8} (h : trimE xs = xs.length) : trimL xs = xs := by
  unfold trimL
  rw [h, List.take_length]
theorem trimE_nil : trimE [] = 0 := rfl
theorem trimL_nil : trimL [] = [] := rfl
theorem trimN_step {xs : List UInt8} {k : Nat} (h : xs.getD k 0 = 0) : trimN xs (k + 1) = trimN xs k := by
  show (if xs.getD k 0 = 0 then trimN xs k else k + 1) = trimN xs k
  rw [if_pos h]
theorem trimN_stop {xs : List UInt8} {k : Nat} (h : xs.getD k 0 ≠ 0) : trimN xs (k + 1) = k + 1 := by
  show (if xs.getD k 0 = 0 then trimN xs k else k + 1) = k + 1
  rw [if_neg h]
end Go.Proofs.Ytaihgckcmcacfaa
namespace Go.Proofs.Ytaihgckcmcacfaa
open Go.RowKit
set_option linter.unusedVariables false
set_option linter.unusedSimpArgs false

theorem rd_trim {w : World} {B : Nat} {A : Option Addr} {xs : List UInt8} {n : Nat} (h : Rd w B A n (bVs xs)) : Rd w B A (trimE xs) (bVs (trimL xs)) := by
  have hl : xs.length = n := by have := h.len; rw [bVs_length] at this; exact this
  have h2 := h.take (k := trimE xs) (by have := trimE_le xs; omega)
  rw [bVs_take] at h2
  exact h2
set_option maxHeartbeats 800000 in
theorem trimmed_calls (A : Option Addr) (n cap : Nat) (xs : List UInt8) (w : World) (hr : Rd w w.heap.size A n (bVs xs)) (hcap : n ≤ cap) (hn : n ≤ 140737488355328) :
    Calls Try.prog 38 #[.slice A n cap] w fun e w' => e = .returned (.slice A (trimE xs) cap) ∧ w = w' := by
  have hl : xs.length = n := by have := hr.len; rw [bVs_length] at this; exact this
  have HL := Lib.hid (show trimE xs = trimN xs n by unfold trimE; rw [hl])
  clear hl
  go_enter Try.func38, Try.ntmps38
  go_wp2_with fail
  go_loop [3] (fun v3 => ∃ k : Nat, k ≤ n ∧ v3 = .int .i64 (k : Int) ∧ Hid (trimE xs = trimN xs k)) (fun v3 => (intOf v3).toNat)
  case atStart => exact ⟨n, Nat.le_refl _, rfl, HL⟩
  case round =>
    obtain ⟨k, hk, rfl, HK⟩ := hrel
    by_cases h0 : 0 < k
    · obtain ⟨j, rfl⟩ : ∃ j, k = j + 1 := ⟨k - 1, by omega⟩
      obtain ⟨g, o, rfl, hg, hcell⟩ := rd_get hr (k := j) (by omega)
      have d0 : decide ((0 : Int) < ((j + 1 : Nat) : Int)) = true := decide_eq_true (by omega)
      have e1 : IntKind.i64.wrap (((j + 1 : Nat) : Int) - 1) = (j : Int) := by rw [IntKind.wrap_i64]; omega
      have e2 : (((j + 1 : Nat) : Int) - 1) = (j : Int) := by omega
      have j0 : (0 : Int) ≤ (j : Int) := by omega
      obtain ⟨x, hx⟩ : ∃ x, x = xs.getD j 0 := ⟨_, rfl⟩
      rw [← hx] at hcell
      by_cases hz : x = 0
      · have HS := Lib.hid (show trimN xs (j + 1) = trimN xs j from trimN_step (by rw [← hx, hz]))
        subst hz
        clear hx
        go_wp2_with fail
        go_round
        case rel => exact ⟨j, by omega, by first | rfl | go_num, by rw [← HS.out]; exact HK.out⟩
        case measure => simp [intOf]
      · have HS := Lib.hid (show trimN xs (j + 1) = j + 1 from trimN_stop (by rw [← hx]; exact hz))
        have hq : ((x.toNat : Int) == 0) = false := by rw [u8_eq_zero]; simpa using hz
        clear hx hz
        go_wp2_with fail
        go_ret
        exact ⟨by rw [HK.out, HS.out]; rfl, rfl⟩
    · obtain rfl : k = 0 := by omega
      go_wp2_with fail
      go_ret
      exact ⟨by rw [HK.out]; rfl, rfl⟩
end Go.Proofs.Ytaihgckcmcacfaa
namespace Go.Proofs.Ytaihgckcmcacfaa
open Go.RowKit
set_option linter.unusedVariables false
set_option linter.unusedSimpArgs false

def longB (xs : List UInt8) : Bool := decide (512 < (trimE xs : Int))
set_option maxHeartbeats 400000 in
theorem long1_calls (A : Option Addr) (n cap : Nat) (xs : List UInt8) (w : World) (hr : Rd w w.heap.size A n (bVs xs)) (hcap : n ≤ cap) (hn : n ≤ 140737488355328) :
    Calls Try.prog 54 #[.slice A n cap] w fun e w' => e = .returned (.bool (longB xs)) ∧ w = w' := by
  have HT := Lib.hid (trimmed_calls A n cap xs w hr hcap hn)
  go_enter Try.func54, Try.ntmps54
  go_wp2_with fail
  refine HT.out.mono ?_
  rintro e w' ⟨rfl, rfl⟩
  go_wp2_with fail
  go_ret
  exact ⟨rfl, rfl⟩
def anyB (f : Nat → Bool) : Nat → Bool
  | 0 => false
  | n + 1 => anyB f n || f n
theorem anyB_true {f : Nat → Bool} {n : Nat} : anyB f n = true ↔ ∃ i, i < n ∧ f i = true := by
  induction n with
  | zero => simp [anyB]
  | succ n ih =>
    simp only [anyB, Bool.or_eq_true, ih]
    constructor
    · rintro (⟨i, h1, h2⟩ | h)
      · exact ⟨i, by omega, h2⟩
      · exact ⟨n, by omega, h⟩
    · rintro ⟨i, h1, h2⟩
      by_cases e : i = n
      · subst e; exact .inr h2
      · exact .inl ⟨i, by omega, h2⟩
/-- block g holds m slices, each of which reads; f tells which are too long -/
def HasLists (w : World) (g m : Nat) (f : Nat → Bool) : Prop := ∀ i, i < m → ∃ A n cap xs, w.cell? ⟨g, i, none⟩ = some (.slice A n cap) ∧ Rd w w.heap.size A n (bVs xs) ∧ n ≤ cap ∧ n ≤ 140737488355328 ∧ f i = longB xs
def IndexPost (f : Nat → Bool) (m : Nat) (w : World) (e : Ending) (w' : World) : Prop := ∃ z : Int, e = .returned (.int .i64 z) ∧ decide (0 ≤ z) = anyB f m ∧ w = w'
set_option maxHeartbeats 800000 in
theorem index_calls (g m cap : Nat) (f : Nat → Bool) (w : World) (h : HasLists w g m f) (hm : m ≤ 100) :
    Calls Try.prog 59 #[.slice (some ⟨g, 0, none⟩) m cap, .func (.func 54) #[] #[]] w (IndexPost f m w) := by
  have HL := Lib.hid h
  clear h
  go_enter Try.func59, Try.ntmps59
  go_wp2_with fail
  go_loop [8] (fun v8 => ∃ k : Nat, k ≤ m ∧ v8 = .int .i64 (k : Int) ∧ Hid (∀ i, i < k → f i = false)) (fun v8 => m - (intOf v8).toNat)
  case atStart => exact ⟨0, by omega, rfl, fun i hi => by omega⟩
  case round =>
    obtain ⟨k, hk, rfl, HK⟩ := hrel
    by_cases hlt : k < m
    · obtain ⟨A, n, c, xs, hc, hr, h1, h2, h3⟩ := HL.out k hlt
      have HT := Lib.hid (long1_calls A n c xs w hr h1 h2)
      rw [← h3] at HT
      clear h3 hr
      have k0 : (0 : Int) ≤ (k : Int) := by omega
      have k1 : (k : Int) < (m : Int) := by omega
      cases hf : f k
      · rw [hf] at HT
        have HF := Lib.hid hf
        clear hf
        go_wp2_with fail
        refine HT.out.mono ?_
        rintro e w' ⟨rfl, rfl⟩
        go_wp2_with fail
        go_round
        case rel => exact ⟨k + 1, by omega, by go_num, fun i hi => by
          by_cases e : i = k
          · rw [e]; exact HF.out
          · exact HK.out i (by omega)⟩
        case measure => simp [intOf]; omega
      · rw [hf] at HT
        have HF := Lib.hid hf
        clear hf
        go_wp2_with fail
        refine HT.out.mono ?_
        rintro e w' ⟨rfl, rfl⟩
        go_wp2_with fail
        go_ret
        exact ⟨_, rfl, by rw [decide_eq_true (by omega)]; exact (anyB_true.2 ⟨k, hlt, HF.out⟩).symm, rfl⟩
    · obtain rfl : k = m := by omega
      go_wp2_with fail
      go_ret
      refine ⟨_, rfl, ?_, rfl⟩
      cases hf : anyB f k
      · rfl
      · obtain ⟨i, h1, h2⟩ := anyB_true.1 hf
        rw [HK.out i h1] at h2
        cases h2
set_option maxHeartbeats 400000 in
theorem contains_calls (g m cap : Nat) (f : Nat → Bool) (w : World) (h : HasLists w g m f) (hm : m ≤ 100) :
    Calls Try.prog 53 #[.slice (some ⟨g, 0, none⟩) m cap, .func (.func 54) #[] #[]] w fun e w' => e = .returned (.bool (anyB f m)) ∧ w = w' := by
  have HI := Lib.hid (index_calls g m cap f w h hm)
  clear h
  go_enter Try.func53, Try.ntmps53
  go_wp2_with fail
  refine HI.out.mono ?_
  rintro e w' ⟨z, rfl, hz, rfl⟩
  have HZ := Lib.hid hz
  clear hz
  go_wp2_with fail
  go_ret
  exact ⟨by rw [← HZ.out]; rfl, rfl⟩
set_option maxHeartbeats 400000 in
theorem long_calls (g m cap : Nat) (f : Nat → Bool) (w : World) (h : HasLists w g m f) (hm : m ≤ 100) :
    Calls Try.prog 40 #[.slice (some ⟨g, 0, none⟩) m cap] w fun e w' => e = .returned (.bool (anyB f m)) ∧ w = w' := by
  have HI := Lib.hid (contains_calls g m cap f w h hm)
  clear h
  go_enter Try.func40, Try.ntmps40
  go_wp2_with fail
  refine HI.out.mono ?_
  rintro e w' ⟨rfl, rfl⟩
  go_wp2_with fail
  go_ret
  exact ⟨rfl, rfl⟩
end Go.Proofs.Ytaihgckcmcacfaa
namespace Go.Proofs.Ytaihgckcmcacfaa
open Go.RowKit
set_option linter.unusedVariables false
set_option linter.unusedSimpArgs false

theorem cell_new (w : World) (cs : List Value) (t : TypeId) (i : Nat) : (w.alloc (.cells cs.toArray t)).cell? ⟨w.heap.size, i, none⟩ = cs[i]? := (Row.new w cs t).cell i
theorem lists_two (w : World) (t : TypeId) {A B : Option Addr} {n m c d : Nat} {xs ys : List UInt8} (ha : Rd w w.heap.size A n (bVs xs)) (hb : Rd w w.heap.size B m (bVs ys)) (h1 : n ≤ c) (h2 : m ≤ d) (h3 : n ≤ 140737488355328) (h4 : m ≤ 140737488355328) :
    HasLists (w.alloc (.cells [.slice A n c, .slice B m d].toArray t)) w.heap.size 2 (fun i => if i = 0 then longB xs else longB ys) := by
  have hB : Below w.heap.size w (w.alloc (.cells [.slice A n c, .slice B m d].toArray t)) := (Below.refl _ _).alloc (Nat.le_refl _) _
  intro i hi
  rcases i with _ | _ | i
  · exact ⟨A, n, c, xs, (cell_new w _ t 0).trans rfl, ha.go hB, h1, h3, rfl⟩
  · exact ⟨B, m, d, ys, (cell_new w _ t 1).trans rfl, hb.go hB, h2, h4, rfl⟩
  · omega
theorem lists_one (w : World) (t : TypeId) {A : Option Addr} {n c : Nat} {xs : List UInt8} (ha : Rd w w.heap.size A n (bVs xs)) (h1 : n ≤ c) (h3 : n ≤ 140737488355328) :
    HasLists (w.alloc (.cells [.slice A n c].toArray t)) w.heap.size 1 (fun _ => longB xs) := by
  have hB : Below w.heap.size w (w.alloc (.cells [.slice A n c].toArray t)) := (Below.refl _ _).alloc (Nat.le_refl _) _
  intro i hi
  obtain rfl : i = 0 := by omega
  exact ⟨A, n, c, xs, (cell_new w _ t 0).trans rfl, ha.go hB, h1, h3, rfl⟩
theorem anyB_two (a b : Bool) : anyB (fun i => if i = 0 then a else b) 2 = (a || b) := by simp [anyB]
theorem anyB_one (a : Bool) : anyB (fun _ => a) 1 = a := by simp [anyB]
end Go.Proofs.Ytaihgckcmcacfaa
namespace Go.Proofs.Ytaihgckcmcacfaa
set_option linter.unusedVariables false
set_option linter.unusedSimpArgs false

/-- the coefficients of a sum, as far as k of q are put to it -/
def sumTo (n : Nat) (xs ys : List UInt8) (k : Nat) : List UInt8 := (List.range n).map fun i => if i < k then Gf.add (xs.getD i 0) (ys.getD i 0) else xs.getD i 0
theorem sumTo_length (n : Nat) (xs ys : List UInt8) (k : Nat) : (sumTo n xs ys k).length = n := by simp [sumTo]
theorem sumTo_get {n : Nat} {xs ys : List UInt8} {k i : Nat} (h : i < n) : (sumTo n xs ys k).getD i 0 = if i < k then Gf.add (xs.getD i 0) (ys.getD i 0) else xs.getD i 0 := by
  unfold sumTo
  rw [List.getD_eq_getElem?_getD, List.getElem?_map, List.getElem?_range h]
  rfl
theorem sumTo_set {n : Nat} {xs ys : List UInt8} {k : Nat} (h : k < n) : (sumTo n xs ys k).set k (Gf.add ((sumTo n xs ys k).getD k 0) (ys.getD k 0)) = sumTo n xs ys (k + 1) := by
  apply list_ext0 (by rw [List.length_set, sumTo_length, sumTo_length])
  intro i
  rcases Nat.lt_or_ge i n with hi | hi
  · rw [sumTo_get hi, List.getD_eq_getElem?_getD, List.getElem?_set]
    by_cases e : k = i
    · subst e
      rw [if_pos rfl, if_pos (by rw [sumTo_length]; exact h), if_pos (by omega), sumTo_get h, if_neg (by omega)]
      rfl
    · rw [if_neg e, ← List.getD_eq_getElem?_getD, sumTo_get hi]
      by_cases h2 : i < k
      · rw [if_pos h2, if_pos (by omega)]
      · rw [if_neg h2, if_neg (by omega)]
  · rw [getD_out _ i (by rw [List.length_set, sumTo_length]; exact hi), getD_out _ i (by rw [sumTo_length]; exact hi)]
/-- the sum -/
def addL (xs ys : List UInt8) : List UInt8 := trimL (sumTo (max xs.length ys.length) xs ys ys.length)
theorem addL_getD (xs ys : List UInt8) (i : Nat) : (addL xs ys).getD i 0 = Gf.add (xs.getD i 0) (ys.getD i 0) := by
  unfold addL
  rw [trimL_getD]
  rcases Nat.lt_or_ge i (max xs.length ys.length) with hi | hi
  · rw [sumTo_get hi]
    split
    · rfl
    · rw [getD_out ys i (by omega), Gf.add_zero]
  · rw [getD_out _ i (by rw [sumTo_length]; exact hi), getD_out xs i (by omega), getD_out ys i (by omega)]
    rfl
theorem addL_len (xs ys : List UInt8) : (addL xs ys).length ≤ max xs.length ys.length := by
  unfold addL
  rw [trimL_length]
  exact Nat.le_trans (trimE_le _) (by rw [sumTo_length]; exact Nat.le_refl _)
end Go.Proofs.Ytaihgckcmcacfaa
namespace Go.Proofs.Ytaihgckcmcacfaa
open Go.RowKit
set_option linter.unusedVariables false
set_option linter.unusedSimpArgs false

/-- v is a slice value of the call's own (nil, or made from block base on) that holds the bytes xs. -/
def OwnV (w : World) (base : Nat) (v : Value) (xs : List UInt8) : Prop := w.ownsRow base 5 1 v xs.length (bVs xs)
theorem OwnV.nil (w : World) (base : Nat) : OwnV w base (.slice none 0 0) [] := ⟨rfl, .inl ⟨rfl, rfl⟩⟩
theorem OwnV.slice {w : World} {base : Nat} {v : Value} {xs : List UInt8} (h : OwnV w base v xs) : ∃ A cap, v = .slice A xs.length cap ∧ OwnB w base A xs.length cap xs := by
  rcases h.2 with ⟨rfl, h0⟩ | ⟨g, cap, cur, rfl, hrest⟩
  · rw [h0]; exact ⟨none, 0, rfl, h0, by have := h; unfold OwnV at this; rw [h0] at this; exact this⟩
  · exact ⟨_, _, rfl, rfl, h⟩
theorem OwnV.drewN {w : World} {base : Nat} {v : Value} {xs : List UInt8} (h : OwnV w base v xs) (k : Nat) : OwnV (w.drewN k) base v xs := h
theorem OwnV.below {w w' : World} {base : Nat} {v : Value} {xs : List UInt8} (h : OwnV w base v xs) (hb : Below w.heap.size w w') : OwnV w' base v xs := by
  have hg : w.grownBy w' (some w.heap.size) := ⟨hb.os, hb.tape, hb.output, hb.size, fun k hk _ => hb.block k hk⟩
  refine World.ownsRow.kept h hg ?_
  rcases hv : v.ownBlock with _ | q
  · exact .inl rfl
  · refine .inr (fun e => ?_)
    have := (World.ownsRow.lt h q hv).2
    injection e with e
    omega
theorem OwnV.kept {w w' : World} {base : Nat} {v : Value} {xs : List UInt8} {row : Option Nat} (h : OwnV w base v xs) (hg : w.grownBy w' row) (hne : v.ownBlock = none ∨ v.ownBlock ≠ row) : OwnV w' base v xs := World.ownsRow.kept h hg hne

/-- 'out = append(out, y)', one byte, as the walk meets it behind the new one-cell block. -/
theorem wpList_append_byte {ops : Array Oper} {rest : List Oper} {o : Oper} {a : Act} {w0 : World} {Q : Exit → Act → World → Prop} (s x : Operand) (hgd : o.guard = none)
    (ho : o.op = .call { callee := .builtin .append, args := #[s, x], argTypes := #[22, 22] })
    (base : Nat) (v : Value) (xs : List UInt8) (y : UInt8) (hs : a.eval s = v) (hown : OwnV w0 base v xs) (hx : a.eval x = .slice (some ⟨w0.heap.size, 0, none⟩) 1 1)
    (hlen : xs.length + 1 ≤ 140737488355328) (hbase : base ≤ w0.heap.size)
    (h : ∀ v' w', OwnV w' base v' (xs ++ [y]) → Below base w0 w' → w0.grownBy w' v.ownBlock → wpList Try.prog ops Q rest (a.put o.dst v') w') :
    wpList Try.prog ops Q (o :: rest) a (w0.alloc (.cells #[.int .u8 (y.toNat : Int)] 5)) := by
  obtain ⟨i, hi, hz, hsz, hby⟩ := info_parts u8_info
  refine wpList_append_own _ hgd s x 22 ho base 5 i (.int .u8 0) 1 1 Try.underlying22 hi hz hsz hby rfl (by decide) v xs.length (bVs xs) hs (World.ownsRow.alloc hown _) ⟨w0.heap.size, 0, none⟩ 1 1 (bVs [y]) hx rfl ?_ ?_ ?_ ?_ ?_ ?_
  · intro j u hu
    have hj : j = 0 := by
      rcases Nat.lt_or_ge j (bVs [y]).length with hlt | hge
      · simp [bVs] at hlt; omega
      · rw [List.getElem?_eq_none hge] at hu; cases hu
    subst hj
    simp only [bVs, List.map_cons, List.map_nil, List.getElem?_cons_zero, Option.some.injEq] at hu
    subst hu
    simp [Addr.add]
  · exact fun u hu => bVs_one hu
  · simp only [maxLen]; omega
  · omega
  · simp; omega
  · intro v' w' hown' hg _
    refine h v' w' ?_ ?_ ?_
    · unfold OwnV
      rw [bVs_append, List.length_append]
      exact hown'
    · exact ((Below.refl base w0).alloc hbase _).grown hg (by simp; omega) (fun k hk => (hown.lt k hk).1)
    · exact ⟨hg.os, hg.tape, hg.output, Nat.le_trans (by simp) hg.size, fun k hk hne => (hg.block k (by simp; omega) hne).trans (Below.heap_alloc _ _ _ hk)⟩

/-- the same in a region that draws its order; gx: the new one-cell block -/
theorem step_append_byte {ops : Array Oper} {o : Oper} {a : Act} {W : World} {K : Act → World → Prop} {Q : Exit → Act → World → Prop} {E : Prop} (s x : Operand) (hgd : o.guard = none)
    (ho : o.op = .call { callee := .builtin .append, args := #[s, x], argTypes := #[22, 22] })
    (base gx : Nat) (v : Value) (xs : List UInt8) (y : UInt8) (hs : a.eval s = v) (hown : OwnV W base v xs) (hx : a.eval x = .slice (some ⟨gx, 0, none⟩) 1 1) (hc : W.cell? ⟨gx, 0, none⟩ = some (.int .u8 (y.toNat : Int)))
    (hlen : xs.length + 1 ≤ 140737488355328) (hbase : base ≤ W.heap.size)
    (h : ∀ v' w', OwnV w' base v' (xs ++ [y]) → Below base W w' → W.grownBy w' v.ownBlock → K (a.put o.dst v') w') :
    if Region.wanted o (yielded ops a.tmps) = true then Oper.wp Try.prog o a W K Q else E := by
  have hw : Region.wanted o (yielded ops a.tmps) = true := by simp [Region.wanted, hgd]
  rw [if_pos hw]
  obtain ⟨i, hi, hz, hsz, hby⟩ := info_parts u8_info
  refine wp_append_own _ s x 22 ho base 5 i (.int .u8 0) 1 1 Try.underlying22 hi hz hsz hby rfl (by decide) v xs.length (bVs xs) hs hown ⟨gx, 0, none⟩ 1 1 (bVs [y]) hx rfl ?_ ?_ ?_ ?_ hbase ?_
  · intro j u hu
    have hj : j = 0 := by
      rcases Nat.lt_or_ge j (bVs [y]).length with hlt | hge
      · simp [bVs] at hlt; omega
      · rw [List.getElem?_eq_none hge] at hu; cases hu
    subst hj
    simp only [bVs, List.map_cons, List.map_nil, List.getElem?_cons_zero, Option.some.injEq] at hu
    subst hu
    simpa [Addr.add] using hc
  · exact fun u hu => bVs_one hu
  · simp only [maxLen]; omega
  · omega
  · intro v' w' hown' hg _
    refine h v' w' ?_ ((Below.refl base W).grown hg hbase (fun k hk => (hown.lt k hk).1)) hg
    unfold OwnV
    rw [bVs_append, List.length_append]
    exact hown'

theorem run_append_nil_any (w : World) (base : Nat) (ty : TypeId) (v : Value) (xs : List UInt8) (hown : OwnV w base v xs) (c : Nat) :
    (Builtin.append_ #[22, 22] ty #[v, .slice none 0 c]).run Try.prog w = .ok v w := by
  obtain ⟨i, hi, hz, hsz, hby⟩ := info_parts u8_info
  have ht := Try.underlying22
  rcases hown.2 with ⟨rfl, h0⟩ | ⟨g, cap, cur, rfl, _, _, hnc, _⟩
  · simp [Builtin.append_, run_underlying ht, sizeOf, typeInfo, hi, Builtin.lenOf, Builtin.firstCells]
  · simp [Builtin.append_, run_underlying ht, sizeOf, typeInfo, hi, Builtin.lenOf, Builtin.firstCells, hnc, storeCells]
/-- 'append(v, ys...)', v the call's own, ys whatever list that reads. -/
theorem run_append_rd (w : World) (base : Nat) (ty : TypeId) (v : Value) (xs ys : List UInt8) (hown : OwnV w base v xs) (B : Nat) (A : Option Addr) (m c : Nat) (hr : Rd w B A m (bVs ys))
    (hlen : xs.length + m ≤ 140737488355328) (hbase : base ≤ w.heap.size) :
    ∃ v' w', (Builtin.append_ #[22, 22] ty #[v, .slice A m c]).run Try.prog w = .ok v' w' ∧ OwnV w' base v' (xs ++ ys) ∧ w.grownBy w' v.ownBlock ∧ (v'.ownBlock = v.ownBlock ∨ v'.ownBlock = some w.heap.size) := by
  have hm := hr.len
  rw [bVs_length] at hm
  rcases A with _ | ad
  · have h0 : m = 0 := by
      rcases Nat.eq_zero_or_pos m with h | h
      · exact h
      · obtain ⟨g, o, hA, _⟩ := hr.2 h; cases hA
    subst h0
    have hy : ys = [] := List.eq_nil_of_length_eq_zero hm
    subst hy
    exact ⟨v, w, run_append_nil_any w base ty v xs hown c, by rw [List.append_nil]; exact hown, World.grownBy.refl w _, .inl rfl⟩
  · obtain ⟨i, hi, hz, hsz, hby⟩ := info_parts u8_info
    obtain ⟨v', w', hrun, h2, h3, _, h5⟩ := run_append_own_at (P := Try.prog) w base 22 ty 5 i (.int .u8 0) 1 1 Try.underlying22 hi hz hsz hby rfl (by decide) v xs.length (bVs xs) hown ad m c (bVs ys) (by rw [bVs_length]; omega)
      (fun j u hu => by
        have hj : j < m := by
          rcases Nat.lt_or_ge j m with h | h
          · exact h
          · rw [List.getElem?_eq_none (by rw [bVs_length]; omega)] at hu; cases hu
        obtain ⟨g, o, hA, _, hc⟩ := hr.2 (by omega)
        injection hA with hA
        subst hA
        have := hc j u hu
        unfold Addr.add
        split
        · next h0 => subst h0; simpa using this
        · exact this)
      (fun u hu => bVs_one hu) (by simp only [maxLen]; omega) (by omega) hbase
    refine ⟨v', w', hrun, ?_, h3, h5⟩
    unfold OwnV
    rw [bVs_append, List.length_append, hm]
    exact h2
theorem wpList_append_rd {ops : Array Oper} {rest : List Oper} {o : Oper} {a : Act} {W : World} {Q : Exit → Act → World → Prop} (s x : Operand) (hgd : o.guard = none)
    (ho : o.op = .call { callee := .builtin .append, args := #[s, x], argTypes := #[22, 22] })
    (base : Nat) (v : Value) (xs ys : List UInt8) (hs : a.eval s = v) (hown : OwnV W base v xs) (B : Nat) (A : Option Addr) (m c : Nat) (hx : a.eval x = .slice A m c) (hr : Rd W B A m (bVs ys))
    (hlen : xs.length + m ≤ 140737488355328) (hbase : base ≤ W.heap.size)
    (h : ∀ v' w', OwnV w' base v' (xs ++ ys) → W.grownBy w' v.ownBlock → (v'.ownBlock = v.ownBlock ∨ v'.ownBlock = some W.heap.size) → wpList Try.prog ops Q rest (a.put o.dst v') w') : wpList Try.prog ops Q (o :: rest) a W := by
  obtain ⟨v', w', hrun, h1, h2, h3⟩ := run_append_rd W base o.type v xs ys hown B A m c hr hlen hbase
  refine wpList_plain hgd fun _ hK => ?_
  unfold Oper.wp execOp
  simp only [ho, resolve, invoke, builtin, Sem.run_bind, Sem.run_pure, Result.andThen_ok, List.map_toArray, List.map_cons, List.map_nil, hs, hx, hrun]
  exact hK _ _ (h v' w' h1 h2 h3)
/-- an empty list that was just made -/
theorem own_empty (w : World) (base : Nat) (hb : base ≤ w.heap.size) (t : TypeId) (ht : t = 5) : OwnV (w.alloc (.cells #[] t)) base (.slice (some ⟨w.heap.size, 0, none⟩) 0 0) [] := by
  subst ht
  exact ⟨rfl, .inr ⟨w.heap.size, 0, #[], rfl, hb, heap_alloc_new w _, Nat.le_refl _, Nat.zero_le _, rfl, rfl⟩⟩
theorem grown_below {B : Nat} {w w' : World} {row : Option Nat} (hg : w.grownBy w' row) (hB : B ≤ w.heap.size) (hr : ∀ k, row = some k → B ≤ k) : Below B w w' := (Below.refl B w).grown hg hB hr
theorem OwnV.base_le {w : World} {base : Nat} {v : Value} {xs : List UInt8} (h : OwnV w base v xs) : ∀ k, v.ownBlock = some k → base ≤ k ∧ k < w.heap.size := World.ownsRow.lt h

theorem OwnV.slice' {w : World} {base n : Nat} {v : Value} {xs : List UInt8} (h : OwnV w base v xs) (hn : xs.length = n) : ∃ A cap, v = .slice A n cap ∧ OwnB w base A n cap xs := by
  subst hn; exact h.slice
theorem grown_setCell {a w : World} {row : Option Nat} (h : a.grownBy w row) {p : Addr} (hp : some p.block = row ∨ a.heap.size ≤ p.block) (u : Value) : a.grownBy (w.setCell p u) row :=
  ⟨h.os, h.tape, h.output, by simpa using h.size, fun k hk hne => (Below.heap_setCell w p u k (by
    rintro rfl
    rcases hp with hp | hp
    · exact hne hp
    · omega)).trans (h.block k hk hne)⟩
theorem grown_alloc {a w : World} {row : Option Nat} (h : a.grownBy w row) (o : Obj) : a.grownBy (w.alloc o) row :=
  ⟨h.os, h.tape, h.output, Nat.le_trans h.size (by simp), fun k hk hne => (Below.heap_alloc w o k (Nat.lt_of_lt_of_le hk h.size)).trans (h.block k hk hne)⟩
theorem grown_drewN {a w : World} {row : Option Nat} (h : a.grownBy w row) (n : Nat) : a.grownBy (w.drewN n) row := ⟨h.os, h.tape, h.output, h.size, h.block⟩
theorem grown_below' {a w w' : World} {row : Option Nat} (h : a.grownBy w row) (hb : Below w.heap.size w w') : a.grownBy w' row :=
  ⟨hb.os.trans h.os, hb.tape.trans h.tape, hb.output.trans h.output, Nat.le_trans h.size hb.size, fun k hk hne => (hb.block k (Nat.lt_of_lt_of_le hk h.size)).trans (h.block k hk hne)⟩
theorem rd_new (w : World) (xs : List UInt8) (n : Nat) (hn : xs.length = n) (t : TypeId) : Rd (w.alloc (.cells (bVs xs).toArray t)) (w.heap.size + 1) (some ⟨w.heap.size, 0, none⟩) n (bVs xs) := by
  refine ⟨by rw [bVs_length, hn], fun _ => ⟨w.heap.size, 0, rfl, by omega, fun j u hu => ?_⟩⟩
  rw [Nat.zero_add, cell_of_row _ _ _ _ _ _ (heap_alloc_new w _), List.getElem?_toArray]
  exact hu
theorem OwnB.spoil {w w' : World} {base n cap : Nat} {A : Option Addr} {xs : List UInt8} {row : Option Nat} (h : OwnB w base A n cap xs) (hg : w.grownBy w' row) (hne : ∀ k, row = some k → k < base) : OwnB w' base A n cap xs := by
  refine h.keep fun g hA => ?_
  subst hA
  have := h.row g rfl
  refine hg.block g this.2 ?_
  intro e
  have := hne g e.symm
  omega
theorem Rd.spoil {w w' : World} {B n : Nat} {A : Option Addr} {xs : List Value} {row : Option Nat} (h : Rd w B A n xs) (hg : w.grownBy w' row) (hB : B ≤ w.heap.size) (hr : ∀ k, row = some k → B ≤ k) : Rd w' B A n xs :=
  h.keep fun k hk => hg.block k (by omega) (fun e => by have := hr k e.symm; omega)
end Go.Proofs.Ytaihgckcmcacfaa
namespace Go.Proofs.Ytaihgckcmcacfaa
open Go.RowKit
set_option linter.unusedVariables false
set_option linter.unusedSimpArgs false

/-- xs with cs written over it from off on -/
def over (xs : List UInt8) (off : Nat) (cs : List UInt8) : List UInt8 := xs.take off ++ (cs ++ xs.drop (off + cs.length))
theorem over_length {xs : List UInt8} {off : Nat} {cs : List UInt8} (h : off + cs.length ≤ xs.length) : (over xs off cs).length = xs.length := by simp [over]; omega
theorem over_bVs (xs : List UInt8) (off : Nat) (cs : List UInt8) : splice (bVs xs) off (bVs cs) = bVs (over xs off cs) := by simp [splice, over, bVs, List.map_take, List.map_drop]
theorem over_nil (xs : List UInt8) (off : Nat) : over xs off [] = xs := by simp [over]
theorem over_end (P Z row : List UInt8) (k : Nat) (hk : P.length = k) : over (P ++ Z) k row = P ++ row ++ Z.drop row.length := by
  subst hk
  simp [over, List.drop_append]
theorem over_twice (l row : List UInt8) (k : Nat) (h : k + row.length ≤ l.length) : over (over l k row) k row = over l k row := by
  have e : over l k row = (l.take k) ++ (row ++ l.drop (k + row.length)) := rfl
  rw [e, over_end _ _ _ k (by rw [List.length_take]; omega)]
  simp [List.drop_append]
theorem u8_size : (Try.prog.info? 5).map (·.size) = some 1 := by kernel_rfl
theorem Row.setRow {w : World} {g g' : Nat} {t : TypeId} {ys : List Value} (h : Row w g t ys) (hne : g ≠ g') (cs : Array Value) : Row (w.setRow g' cs) g t ys := (setRow_other w g' g cs hne).trans h

/-- one copy, run -/
theorem run_copy_bytes (W : World) (ty : TypeId) (dp sp : Option Addr) (dl dc m sc : Nat) (g off : Nat) (cur ss : List UInt8) (hg : Row W g 5 (bVs cur)) (B : Nat) (hr : Rd W B sp m (bVs ss))
    (hdst : 0 < (ss.take dl).length → dp = some ⟨g, off, none⟩) (hfit : off + (ss.take dl).length ≤ cur.length) :
    ∃ w', (Builtin.copy_ #[22, 22] ty #[.slice dp dl dc, .slice sp m sc]).run Try.prog W = .ok (goInt (ss.take dl).length) w' ∧ Row w' g 5 (bVs (over cur off (ss.take dl))) ∧ W.grownBy w' (some g) := by
  have hm := hr.len
  rw [bVs_length] at hm
  have hn : (bVs (ss.take dl)).length = Nat.min m dl := by rw [bVs_length, List.length_take, hm]; show min dl m = min m dl; omega
  by_cases h0 : (ss.take dl).length = 0
  · have he : ss.take dl = [] := List.eq_nil_of_length_eq_zero h0
    rw [he, over_nil]
    refine ⟨W, ?_, hg, World.grownBy.refl W _⟩
    exact run_copy_none (P := Try.prog) W 22 22 ty 5 dp sp dl dc m sc Try.underlying22 u8_size (by rw [← hn, bVs_length, h0])
  · obtain rfl := hdst (by omega)
    have hmp : 0 < m := by rw [List.length_take] at h0; omega
    obtain ⟨g2, o2, rfl, _, hc⟩ := hr.2 hmp
    have hrun := run_copy_row (P := Try.prog) W 22 22 ty 5 g off dl dc ⟨g2, o2, none⟩ m sc (bVs cur).toArray 5 (bVs (ss.take dl)) Try.underlying22 u8_size hg hn
      (fun j v hv => by
        have hadd : (⟨g2, o2, none⟩ : Addr).add j = ⟨g2, o2 + j, none⟩ := by unfold Addr.add; split <;> simp_all
        rw [hadd]
        refine hc j v ?_
        rw [← hv, ← bVs_take, List.getElem?_take]
        have hj : j < (bVs (ss.take dl)).length := by
          rcases Nat.lt_or_ge j (bVs (ss.take dl)).length with h | h
          · exact h
          · rw [List.getElem?_eq_none h] at hv; cases hv
        rw [bVs_length, List.length_take] at hj
        rw [if_pos (by omega)])
      (by rw [bVs_length]; simpa [bVs_length] using hfit) (fun v hv => bVs_one hv)
    rw [bVs_length] at hrun
    refine ⟨_, hrun, ?_, ?_⟩
    · have h := setRow_heap W g _ ((bVs cur).toArray.toList.take off ++ bVs (ss.take dl) ++ (bVs cur).toArray.toList.drop (off + (ss.take dl).length)).toArray 5 (0, 0) hg
      unfold Row
      rw [← over_bVs]
      simp only [splice, bVs_length]
      rw [← List.append_assoc]
      exact h
    · exact ⟨rfl, rfl, rfl, by simp [World.setRow], fun k hk hne => setRow_other W g k _ (fun e => hne (by rw [e]))⟩
theorem wp_copy_bytes {o : Oper} {a : Act} {W : World} {K : Act → World → Prop} {Q : Exit → Act → World → Prop} (d s : Operand)
    (ho : o.op = .call { callee := .builtin .copy, args := #[d, s], argTypes := #[22, 22] })
    (dp sp : Option Addr) (dl dc m sc : Nat) (hd : a.eval d = .slice dp dl dc) (hs : a.eval s = .slice sp m sc)
    (g off : Nat) (cur ss : List UInt8) (hg : Row W g 5 (bVs cur)) (B : Nat) (hr : Rd W B sp m (bVs ss)) (hdst : 0 < (ss.take dl).length → dp = some ⟨g, off, none⟩) (hfit : off + (ss.take dl).length ≤ cur.length)
    (h : ∀ w', Row w' g 5 (bVs (over cur off (ss.take dl))) → W.grownBy w' (some g) → K (a.put o.dst (goInt (ss.take dl).length)) w') : o.wp Try.prog a W K Q := by
  obtain ⟨w', hrun, h1, h2⟩ := run_copy_bytes W o.type dp sp dl dc m sc g off cur ss hg B hr hdst hfit
  unfold Oper.wp execOp
  simp only [ho, resolve, invoke, builtin, Sem.run_bind, Sem.run_pure, Result.andThen_ok, List.map_toArray, List.map_cons, List.map_nil, hd, hs, hrun]
  exact h w' h1 h2
theorem wpList_copy_bytes {ops : Array Oper} {rest : List Oper} {o : Oper} {a : Act} {W : World} {Q : Exit → Act → World → Prop} (d s : Operand) (hgd : o.guard = none)
    (ho : o.op = .call { callee := .builtin .copy, args := #[d, s], argTypes := #[22, 22] })
    (dp sp : Option Addr) (dl dc m sc : Nat) (hd : a.eval d = .slice dp dl dc) (hs : a.eval s = .slice sp m sc)
    (g off : Nat) (cur ss : List UInt8) (hg : Row W g 5 (bVs cur)) (B : Nat) (hr : Rd W B sp m (bVs ss)) (hdst : 0 < (ss.take dl).length → dp = some ⟨g, off, none⟩) (hfit : off + (ss.take dl).length ≤ cur.length)
    (h : ∀ w', Row w' g 5 (bVs (over cur off (ss.take dl))) → W.grownBy w' (some g) → wpList Try.prog ops Q rest (a.put o.dst (goInt (ss.take dl).length)) w') : wpList Try.prog ops Q (o :: rest) a W :=
  wpList_plain hgd fun _ hK => wp_copy_bytes d s ho dp sp dl dc m sc hd hs g off cur ss hg B hr hdst hfit fun w' h1 h2 => hK _ _ (h w' h1 h2)
theorem step_copy_bytes {ops : Array Oper} {o : Oper} {a : Act} {W : World} {K : Act → World → Prop} {Q : Exit → Act → World → Prop} {E : Prop} (d s : Operand) (hgd : o.guard = none)
    (ho : o.op = .call { callee := .builtin .copy, args := #[d, s], argTypes := #[22, 22] })
    (dp sp : Option Addr) (dl dc m sc : Nat) (hd : a.eval d = .slice dp dl dc) (hs : a.eval s = .slice sp m sc)
    (g off : Nat) (cur ss : List UInt8) (hg : Row W g 5 (bVs cur)) (B : Nat) (hr : Rd W B sp m (bVs ss)) (hdst : 0 < (ss.take dl).length → dp = some ⟨g, off, none⟩) (hfit : off + (ss.take dl).length ≤ cur.length)
    (h : ∀ w', Row w' g 5 (bVs (over cur off (ss.take dl))) → W.grownBy w' (some g) → K (a.put o.dst (goInt (ss.take dl).length)) w') :
    if Region.wanted o (yielded ops a.tmps) = true then Oper.wp Try.prog o a W K Q else E := by
  have hw : Region.wanted o (yielded ops a.tmps) = true := by simp [Region.wanted, hgd]
  rw [if_pos hw]
  exact wp_copy_bytes d s ho dp sp dl dc m sc hd hs g off cur ss hg B hr hdst hfit h
end Go.Proofs.Ytaihgckcmcacfaa
namespace Go.Proofs.Ytaihgckcmcacfaa
open Go.RowKit
set_option linter.unusedVariables false
set_option linter.unusedSimpArgs false

theorem sumTo_zero {n : Nat} {xs : List UInt8} (h : xs.length ≤ n) (ys : List UInt8) : over (List.replicate n 0) 0 (xs.take n) = sumTo n xs ys 0 := by
  rw [List.take_of_length_le h]
  apply list_ext0 (by rw [over_length (by simpa using h), List.length_replicate, sumTo_length])
  intro i
  rcases Nat.lt_or_ge i n with hi | hi
  · rw [sumTo_get hi, if_neg (by omega)]
    unfold over
    rw [List.take_zero, List.nil_append, List.getD_eq_getElem?_getD]
    rcases Nat.lt_or_ge i xs.length with h2 | h2
    · rw [List.getElem?_append_left h2, List.getD_eq_getElem?_getD]
    · rw [List.getElem?_append_right h2, getD_out xs i h2, List.getElem?_drop, List.getElem?_replicate]
      split <;> rfl
  · rw [getD_out _ i (by rw [over_length (by simpa using h), List.length_replicate]; exact hi), getD_out _ i (by rw [sumTo_length]; exact hi)]
theorem row_get {w : World} {g : Nat} {L : List UInt8} (h : Row w g 5 (bVs L)) {k : Nat} (hk : k < L.length) : w.cell? ⟨g, k, none⟩ = some (.int .u8 ((L.getD k 0).toNat : Int)) := by
  rw [h.cell, bVs_get L k hk, List.getD_eq_getElem?_getD, List.getElem?_eq_getElem hk]
  rfl
theorem own_trim {w : World} {base n cap : Nat} {A : Option Addr} {xs : List UInt8} (h : OwnB w base A n cap xs) : OwnB w base A (trimE xs) cap (trimL xs) := by
  have hle := trimE_le xs
  have hl := h.1
  refine ⟨trimL_length xs, by rw [bVs_length, trimL_length, Nat.mul_one], ?_⟩
  rcases h.2.2 with ⟨h1, h2⟩ | ⟨g, c, cur, hv, hg, hh, h3, h4, h5, h6⟩
  · have e : trimE xs = 0 := by omega
    simp only [Value.slice.injEq] at h1
    left
    rw [e, h1.1, h1.2.2]
    exact ⟨rfl, rfl⟩
  · simp only [Value.slice.injEq] at hv
    obtain ⟨rfl, _, rfl⟩ := hv
    refine .inr ⟨g, cap, cur, rfl, hg, hh, by omega, h4, h5, ?_⟩
    rw [Nat.mul_one] at h6 ⊢
    have e : bVs (trimL xs) = (bVs xs).take (trimE xs) := by unfold trimL; rw [bVs_take]
    rw [e, ← h6, List.take_take, Nat.min_eq_left (by omega)]
set_option maxRecDepth 100000 in
set_option maxHeartbeats 1600000 in
theorem padd_lt (A B : Option Addr) (n m c d : Nat) (xs ys : List UInt8) (w : World) (ha : Rd w w.heap.size A n (bVs xs)) (hb : Rd w w.heap.size B m (bVs ys)) (hn : n ≤ 140737488355328) (hm : m ≤ 140737488355328) (hnm : n < m) :
    Calls Try.prog 41 #[.slice A n c, .slice B m d] w fun e w' => ∃ g cap, e = .returned (.slice (some ⟨g, 0, none⟩) (trimE (sumTo m xs ys m)) cap) ∧ OwnB w' w.heap.size (some ⟨g, 0, none⟩) (trimE (sumTo m xs ys m)) cap (trimL (sumTo m xs ys m)) ∧ Below w.heap.size w w' := by
  have hxl : xs.length = n := by have := ha.len; rw [bVs_length] at this; exact this
  have hqn : n ≤ m := by omega
  have hqm : m ≤ m := by omega
  have hmk := make_bytes m (by omega)
  have HZ := Lib.hid (sumTo_zero (n := m) (xs := xs) (by omega) ys)
  have HTK := Lib.hid (show (xs.take m).length = n by rw [List.take_of_length_le (by omega)]; exact hxl)
  clear hxl
  have hrow := row_made_bytes w m
  have hB : Below w.heap.size w (w.alloc (.cells (madeCells #[.int .u8 0] m) 5)) := (Below.refl _ _).alloc (Nat.le_refl _) _
  have HROW := Lib.hid hrow
  have HB := Lib.hid hB
  have HA := Lib.hid ha
  have HBB := Lib.hid hb
  clear hrow hB ha hb
  go_enter Try.func41, Try.ntmps41
  go_wp2_with (with_reducible refine wpList_copy_bytes (o := ⟨some 16, _, _, _, _, _⟩) (.tmp 14) (.tmp 15) rfl rfl (some ⟨w.heap.size, 0, none⟩) A m m n c rfl rfl w.heap.size 0 (List.replicate m 0) xs HROW.out _ (HA.out.go HB.out) (fun _ => rfl) (by rw [HTK.out, List.length_replicate]; omega) ?_)
  rw [HZ.out]
  intro w1 hrow1 hg1
  have hB1 : Below w.heap.size w w1 := HB.out.trans (grown_below hg1 HB.out.size (fun k hk => by injection hk with hk; omega))
  clear hg1
  have HROW := Lib.hid hrow1
  have HB := Lib.hid hB1
  clear hrow1 hB1 hmk
  go_wp2_with fail
  go_loopw [19] (fun v wr => ∃ k : Nat, k ≤ m ∧ v = .int .i64 (k : Int) ∧ Row wr w.heap.size 5 (bVs (sumTo m xs ys k)) ∧ Below w.heap.size w wr) (fun v _ => m - (intOf v).toNat)
  case atStart => exact ⟨0, by omega, rfl, HROW.out, HB.out⟩
  case round =>
    obtain ⟨k, hk, rfl, hrow, hB⟩ := hrel
    clear HROW HB
    by_cases hlt : k < m
    · have HS := Lib.hid (sumTo_set (n := m) (xs := xs) (ys := ys) (k := k) (by omega))
      have hcur := row_get hrow (k := k) (by rw [sumTo_length]; omega)
      have hfz := hrow.frozen k
      obtain ⟨a, ha⟩ : ∃ a, a = (sumTo m xs ys k).getD k 0 := ⟨_, rfl⟩
      obtain ⟨b, hb⟩ : ∃ b, b = ys.getD k 0 := ⟨_, rfl⟩
      obtain ⟨g, o, rfl, hg, hcell⟩ := rd_get HBB.out hlt
      rw [← ha] at hcur
      rw [← hb] at hcell
      rw [← ha, ← hb] at HS
      have hcell2 := (hB.cell (p := ⟨g, o + k, none⟩) hg).trans hcell
      have hx := bxor_u8 a b
      have k0 : (0 : Int) ≤ (k : Int) := by omega
      have k1 : (k : Int) < (m : Int) := by omega
      have k2 : (k : Int) < (m : Int) := by omega
      have HR := Lib.hid hrow
      have HB := Lib.hid hB
      clear ha hb hcell hrow hB
      go_wp2_with fail
      go_roundw
      case rel => exact ⟨k + 1, by omega, by go_num, by rw [← HS.out, ← bVs_set]; exact HR.out.set k _, HB.out.setCell (Nat.le_refl _) _⟩
      case measure => simp [intOf]; omega
    · obtain rfl : k = m := by omega
      have ho : OwnB wr w.heap.size (some ⟨w.heap.size, 0, none⟩) k k (sumTo k xs ys k) := hrow.ownB (Nat.le_refl _) (sumTo_length _ _ _ _) (by simp only [maxLen]; omega)
      have HT := Lib.hid (trimmed_calls (some ⟨w.heap.size, 0, none⟩) k k (sumTo k xs ys k) wr ho.rd (Nat.le_refl _) (by omega))
      have HO := Lib.hid ho
      have HB := Lib.hid hB
      clear ho hB hrow
      go_wp2_with fail
      refine HT.out.mono ?_
      rintro e w' ⟨rfl, rfl⟩
      go_wp2_with fail
      go_ret
      exact ⟨_, _, rfl, own_trim HO.out, HB.out⟩
set_option maxRecDepth 100000 in
set_option maxHeartbeats 1600000 in
theorem padd_ge (A B : Option Addr) (n m c d : Nat) (xs ys : List UInt8) (w : World) (ha : Rd w w.heap.size A n (bVs xs)) (hb : Rd w w.heap.size B m (bVs ys)) (hn : n ≤ 140737488355328) (hm : m ≤ 140737488355328) (hnm : ¬ n < m) :
    Calls Try.prog 41 #[.slice A n c, .slice B m d] w fun e w' => ∃ g cap, e = .returned (.slice (some ⟨g, 0, none⟩) (trimE (sumTo n xs ys m)) cap) ∧ OwnB w' w.heap.size (some ⟨g, 0, none⟩) (trimE (sumTo n xs ys m)) cap (trimL (sumTo n xs ys m)) ∧ Below w.heap.size w w' := by
  have hxl : xs.length = n := by have := ha.len; rw [bVs_length] at this; exact this
  have hqn : n ≤ n := by omega
  have hqm : m ≤ n := by omega
  have hmk := make_bytes n (by omega)
  have HZ := Lib.hid (sumTo_zero (n := n) (xs := xs) (by omega) ys)
  have HTK := Lib.hid (show (xs.take n).length = n by rw [List.take_of_length_le (by omega)]; exact hxl)
  clear hxl
  have hrow := row_made_bytes w n
  have hB : Below w.heap.size w (w.alloc (.cells (madeCells #[.int .u8 0] n) 5)) := (Below.refl _ _).alloc (Nat.le_refl _) _
  have HROW := Lib.hid hrow
  have HB := Lib.hid hB
  have HA := Lib.hid ha
  have HBB := Lib.hid hb
  clear hrow hB ha hb
  go_enter Try.func41, Try.ntmps41
  go_wp2_with (with_reducible refine wpList_copy_bytes (o := ⟨some 16, _, _, _, _, _⟩) (.tmp 14) (.tmp 15) rfl rfl (some ⟨w.heap.size, 0, none⟩) A n n n c rfl rfl w.heap.size 0 (List.replicate n 0) xs HROW.out _ (HA.out.go HB.out) (fun _ => rfl) (by rw [HTK.out, List.length_replicate]; omega) ?_)
  rw [HZ.out]
  intro w1 hrow1 hg1
  have hB1 : Below w.heap.size w w1 := HB.out.trans (grown_below hg1 HB.out.size (fun k hk => by injection hk with hk; omega))
  clear hg1
  have HROW := Lib.hid hrow1
  have HB := Lib.hid hB1
  clear hrow1 hB1 hmk
  go_wp2_with fail
  go_loopw [19] (fun v wr => ∃ k : Nat, k ≤ m ∧ v = .int .i64 (k : Int) ∧ Row wr w.heap.size 5 (bVs (sumTo n xs ys k)) ∧ Below w.heap.size w wr) (fun v _ => m - (intOf v).toNat)
  case atStart => exact ⟨0, by omega, rfl, HROW.out, HB.out⟩
  case round =>
    obtain ⟨k, hk, rfl, hrow, hB⟩ := hrel
    clear HROW HB
    by_cases hlt : k < m
    · have HS := Lib.hid (sumTo_set (n := n) (xs := xs) (ys := ys) (k := k) (by omega))
      have hcur := row_get hrow (k := k) (by rw [sumTo_length]; omega)
      have hfz := hrow.frozen k
      obtain ⟨a, ha⟩ : ∃ a, a = (sumTo n xs ys k).getD k 0 := ⟨_, rfl⟩
      obtain ⟨b, hb⟩ : ∃ b, b = ys.getD k 0 := ⟨_, rfl⟩
      obtain ⟨g, o, rfl, hg, hcell⟩ := rd_get HBB.out hlt
      rw [← ha] at hcur
      rw [← hb] at hcell
      rw [← ha, ← hb] at HS
      have hcell2 := (hB.cell (p := ⟨g, o + k, none⟩) hg).trans hcell
      have hx := bxor_u8 a b
      have k0 : (0 : Int) ≤ (k : Int) := by omega
      have k1 : (k : Int) < (n : Int) := by omega
      have k2 : (k : Int) < (m : Int) := by omega
      have HR := Lib.hid hrow
      have HB := Lib.hid hB
      clear ha hb hcell hrow hB
      go_wp2_with fail
      go_roundw
      case rel => exact ⟨k + 1, by omega, by go_num, by rw [← HS.out, ← bVs_set]; exact HR.out.set k _, HB.out.setCell (Nat.le_refl _) _⟩
      case measure => simp [intOf]; omega
    · obtain rfl : k = m := by omega
      have ho : OwnB wr w.heap.size (some ⟨w.heap.size, 0, none⟩) n n (sumTo n xs ys k) := hrow.ownB (Nat.le_refl _) (sumTo_length _ _ _ _) (by simp only [maxLen]; omega)
      have HT := Lib.hid (trimmed_calls (some ⟨w.heap.size, 0, none⟩) n n (sumTo n xs ys k) wr ho.rd (Nat.le_refl _) (by omega))
      have HO := Lib.hid ho
      have HB := Lib.hid hB
      clear ho hB hrow
      go_wp2_with fail
      refine HT.out.mono ?_
      rintro e w' ⟨rfl, rfl⟩
      go_wp2_with fail
      go_ret
      exact ⟨_, _, rfl, own_trim HO.out, HB.out⟩
end Go.Proofs.Ytaihgckcmcacfaa
namespace Go.Proofs.Ytaihgckcmcacfaa
open Go.RowKit Go.Proofs.YtaihgckcmcacfaaW.PrintWords
set_option linter.unusedVariables false
set_option linter.unusedSimpArgs false

theorem padd_any (A B : Option Addr) (n m c d : Nat) (xs ys : List UInt8) (w : World) (ha : Rd w w.heap.size A n (bVs xs)) (hb : Rd w w.heap.size B m (bVs ys)) (hn : n ≤ 140737488355328) (hm : m ≤ 140737488355328) :
    Calls Try.prog 41 #[.slice A n c, .slice B m d] w fun e w' => ∃ A' k cap, e = .returned (.slice A' k cap) ∧ OwnB w' w.heap.size A' k cap (addL xs ys) ∧ Below w.heap.size w w' := by
  have hxl : xs.length = n := by have := ha.len; rw [bVs_length] at this; exact this
  have hyl : ys.length = m := by have := hb.len; rw [bVs_length] at this; exact this
  by_cases h : n < m
  · refine (padd_lt A B n m c d xs ys w ha hb hn hm h).mono ?_
    rintro e w' ⟨g, cap, rfl, ho, hb⟩
    refine ⟨_, _, _, rfl, ?_, hb⟩
    unfold addL
    rw [show max xs.length ys.length = m by omega, hyl]
    exact ho
  · refine (padd_ge A B n m c d xs ys w ha hb hn hm h).mono ?_
    rintro e w' ⟨g, cap, rfl, ho, hb⟩
    refine ⟨_, _, _, rfl, ?_, hb⟩
    unfold addL
    rw [show max xs.length ys.length = n by omega, hyl]
    exact ho
def addE (xs ys : List UInt8) : Int := if longB xs || longB ys then 4 else 0
def addP (xs ys : List UInt8) : List UInt8 := if longB xs || longB ys then [] else addL (trimL xs) (trimL ys)
set_option maxRecDepth 100000 in
set_option maxHeartbeats 1600000 in
theorem Padd_calls (A B : Option Addr) (n m c d : Nat) (xs ys : List UInt8) (w : World) (ha : Rd w w.heap.size A n (bVs xs)) (hb : Rd w w.heap.size B m (bVs ys)) (h1 : n ≤ c) (h2 : m ≤ d) (hn : n ≤ 140737488355328) (hm : m ≤ 140737488355328) :
    Calls Try.prog 19 #[.slice A n c, .slice B m d] w fun e w' => ∃ A' k cap, e = .returned (.tuple #[.slice A' k cap, .int .i64 (addE xs ys)]) ∧ OwnB w' w.heap.size A' k cap (addP xs ys) ∧ Below w.heap.size w w' := by
  have hxl : xs.length = n := by have := ha.len; rw [bVs_length] at this; exact this
  have hyl : ys.length = m := by have := hb.len; rw [bVs_length] at this; exact this
  have t1 := trimE_le xs
  have t2 := trimE_le ys
  have hB : Below w.heap.size w (w.alloc (.cells #[.slice A n c, .slice B m d] 22)) := (Below.refl _ _).alloc (Nat.le_refl _) _
  have HL := Lib.hid (long_calls w.heap.size 2 2 _ _ (lists_two w 22 ha hb h1 h2 hn hm) (by omega))
  rw [anyB_two] at HL
  have HT1 := Lib.hid (trimmed_calls A n c xs _ (ha.go hB) h1 hn)
  have HT2 := Lib.hid (trimmed_calls B m d ys _ (hb.go hB) h2 hm)
  have HA := Lib.hid (padd_any A B (trimE xs) (trimE ys) c d (trimL xs) (trimL ys) _ (rd_trim (ha.go hB)) (rd_trim (hb.go hB)) (by omega) (by omega))
  have HB := Lib.hid hB
  clear hB ha hb hxl hyl t1 t2
  unfold addE addP
  cases hc : (longB xs || longB ys)
  · rw [hc] at HL
    clear hc
    simp only [Bool.false_eq_true, if_false]
    go_enter Try.func19, Try.ntmps19
    go_wp2_with fail
    refine HL.out.mono ?_
    rintro e w' ⟨rfl, rfl⟩
    go_wp2_with fail
    refine HT1.out.mono ?_
    rintro e w' ⟨rfl, rfl⟩
    go_wp2_with fail
    refine HT2.out.mono ?_
    rintro e w' ⟨rfl, rfl⟩
    go_wp2_with fail
    refine HA.out.mono ?_
    rintro e w' ⟨A', k, cap, rfl, ho, hb⟩
    go_wp2_with fail
    go_ret2
    exact ⟨A', k, cap, rfl, ho.mono (by simp), HB.out.trans (hb.mono (by simp))⟩
  · rw [hc] at HL
    clear hc
    simp only [if_true]
    go_enter Try.func19, Try.ntmps19
    go_wp2_with fail
    refine HL.out.mono ?_
    rintro e w' ⟨rfl, rfl⟩
    go_wp2_with fail
    go_ret2
    exact ⟨none, 0, 0, rfl, ⟨rfl, rfl, .inl ⟨rfl, rfl⟩⟩, HB.out⟩
theorem OwnB.len {w : World} {base k cap : Nat} {A : Option Addr} {xs : List UInt8} (h : OwnB w base A k cap xs) : xs.length = k := h.1
def poly_Add.f (l m : List Int) : Option (List Int × Int) := if (inU l && decide (l.length ≤ 140737488355328) && (inU m && decide (m.length ≤ 140737488355328))) = true then some (nI (addP (l.map toU) (m.map toU)), addE (l.map toU) (m.map toU)) else none
theorem poly_Add.calls (A0 : Option Addr) (c0 : Nat) (l0 : List Int) (A1 : Option Addr) (c1 : Nat) (l1 : List Int) (r1 : List Int) (r2 : Int) (w : World) (hr0 : Kd.C (Kd.int .u8) w A0 l0.length l0) (hc0 : l0.length ≤ c0) (hr1 : Kd.C (Kd.int .u8) w A1 l1.length l1) (hc1 : l1.length ≤ c1) (h : poly_Add.f l0 l1 = some (r1, r2)) :
    Calls Try.prog 19 #[.slice A0 l0.length c0, .slice A1 l1.length c1] w fun e w' => ∃ v0_ : Value, e = .returned (.tuple #[v0_, .int .i64 r2]) ∧ Kd.R (Kd.int .u8) 5 w' w.heap.size (fun _ => True) v0_ r1 ∧ Below w.heap.size w w' := by
  unfold poly_Add.f at h
  split at h
  · rename_i hi
    simp only [Bool.and_eq_true, decide_eq_true_eq] at hi
    simp only [Option.some.injEq, Prod.mk.injEq] at h
    obtain ⟨rfl, rfl⟩ := h
    obtain ⟨xs, rfl⟩ := ints_of hi.1.1
    obtain ⟨ys, rfl⟩ := ints_of hi.2.1
    simp only [nI_length, nI_toU] at hi hc0 hc1 ⊢
    refine (Padd_calls A0 A1 xs.length ys.length c0 c1 xs ys w (rd_of_C hr0) (rd_of_C hr1) hc0 hc1 hi.1.2 hi.2.2).mono ?_
    rintro e w' ⟨A', k, cap, rfl, ho, hb⟩
    exact ⟨_, rfl, R_of_own ho, hb⟩
  · cases h
end Go.Proofs.Ytaihgckcmcacfaa
namespace Go.Proofs.Ytaihgckcmcacfaa
set_option linter.unusedVariables false
set_option linter.unusedSimpArgs false

def pwN (x : UInt8) : Nat → UInt8
  | 0 => 1
  | n + 1 => Gf.mul (pwN x n) x
theorem pwN_add (x : UInt8) (m : Nat) : ∀ n, pwN x (m + n) = Gf.mul (pwN x m) (pwN x n)
  | 0 => (Gf.mul_one _).symm
  | n + 1 => by
    rw [← Nat.add_assoc, pwN, pwN_add x m n, pwN, Gf.mul_assoc]
def evN (f : Nat → UInt8) (x : UInt8) (n : Nat) : UInt8 := sumF n fun i => Gf.mul (f i) (pwN x i)
/-- the value of a polynomial -/
def ev (xs : List UInt8) (x : UInt8) : UInt8 := evN (fun i => xs.getD i 0) x xs.length
theorem evN_more {f : Nat → UInt8} {x : UInt8} {n : Nat} (h : ∀ i, n ≤ i → f i = 0) : ∀ m, evN f x (n + m) = evN f x n
  | 0 => rfl
  | m + 1 => by
    have ih := evN_more (x := x) h m
    unfold evN at ih ⊢
    rw [← Nat.add_assoc, sumF, ih, h (n + m) (by omega), Gf.mul_comm, Gf.mul_zero, Gf.add_zero]
theorem evN_len {f : Nat → UInt8} {x : UInt8} {n m : Nat} (h : ∀ i, n ≤ i → f i = 0) (hm : n ≤ m) : evN f x m = evN f x n := by
  obtain ⟨d, rfl⟩ : ∃ d, m = n + d := ⟨m - n, by omega⟩
  exact evN_more h d
theorem ev_evN (xs : List UInt8) (x : UInt8) {m : Nat} (h : xs.length ≤ m) : ev xs x = evN (fun i => xs.getD i 0) x m := (evN_len (fun i hi => getD_out xs i hi) h).symm
theorem ev_congr {xs ys : List UInt8} (x : UInt8) (h : ∀ i, xs.getD i 0 = ys.getD i 0) : ev xs x = ev ys x := by
  rw [ev_evN xs x (Nat.le_max_left xs.length ys.length), ev_evN ys x (Nat.le_max_right xs.length ys.length)]
  unfold evN
  exact sumF_congr fun i _ => by show Gf.mul (xs.getD i 0) _ = Gf.mul (ys.getD i 0) _; rw [h]
theorem ev_trim (xs : List UInt8) (x : UInt8) : ev (trimL xs) x = ev xs x := ev_congr x (fun i => trimL_getD xs i)
theorem sumF_shift (f : Nat → UInt8) : ∀ n, sumF (n + 1) f = Gf.add (f 0) (sumF n (fun i => f (i + 1)))
  | 0 => by rw [sumF, sumF, sumF, Gf.add_comm]
  | n + 1 => by rw [sumF, sumF_shift f n, sumF, Gf.add_assoc]
/-- from the top down -/
def hor (xs : List UInt8) (x : UInt8) : Nat → UInt8
  | 0 => 0
  | d + 1 => Gf.add (Gf.mul (hor xs x d) x) (xs.getD (xs.length - (d + 1)) 0)
theorem hor_sum (xs : List UInt8) (x : UInt8) : ∀ d, d ≤ xs.length → hor xs x d = sumF d (fun t => Gf.mul (xs.getD (xs.length - d + t) 0) (pwN x t))
  | 0, _ => rfl
  | d + 1, h => by
    rw [hor, hor_sum xs x d (by omega), sumF_shift, sumF_mul_right, Gf.add_comm]
    refine congr (congrArg Gf.add ?_) (sumF_congr fun t _ => ?_)
    · show _ = Gf.mul (xs.getD (xs.length - (d + 1) + 0) 0) 1
      rw [Gf.mul_one]
      rfl
    · show _ = Gf.mul (xs.getD (xs.length - (d + 1) + (t + 1)) 0) (Gf.mul (pwN x t) x)
      rw [← Gf.mul_assoc, show xs.length - (d + 1) + (t + 1) = xs.length - d + t by omega]
theorem hor_ev (xs : List UInt8) (x : UInt8) : hor xs x xs.length = ev xs x := by
  rw [hor_sum xs x _ (Nat.le_refl _)]
  unfold ev evN
  exact sumF_congr fun t _ => by rw [Nat.sub_self, Nat.zero_add]
end Go.Proofs.Ytaihgckcmcacfaa
namespace Go.Proofs.Ytaihgckcmcacfaa
set_option linter.unusedVariables false
set_option linter.unusedSimpArgs false

/-- the coefficient of x to the power i of a product -/
def convF (xs ys : List UInt8) (i : Nat) : UInt8 := sumF (i + 1) fun k => Gf.mul (xs.getD k 0) (ys.getD (i - k) 0)
/-- the product as far as: all of the first a coefficients of p, and of the next one b coefficients of q -/
def convT (n : Nat) (xs ys : List UInt8) (a b : Nat) : List UInt8 := (List.range n).map fun i => sumF (i + 1) fun k => if k < a ∨ (k = a ∧ i - k < b) then Gf.mul (xs.getD k 0) (ys.getD (i - k) 0) else 0
theorem convT_length (n : Nat) (xs ys : List UInt8) (a b : Nat) : (convT n xs ys a b).length = n := by simp [convT]
theorem convT_get {n : Nat} {xs ys : List UInt8} {a b i : Nat} (h : i < n) : (convT n xs ys a b).getD i 0 = sumF (i + 1) fun k => if k < a ∨ (k = a ∧ i - k < b) then Gf.mul (xs.getD k 0) (ys.getD (i - k) 0) else 0 := by
  unfold convT
  rw [List.getD_eq_getElem?_getD, List.getElem?_map, List.getElem?_range h]
  rfl
theorem convT_start (n : Nat) (xs ys : List UInt8) : List.replicate n 0 = convT n xs ys 0 0 := by
  apply list_ext0 (by rw [List.length_replicate, convT_length])
  intro i
  rcases Nat.lt_or_ge i n with hi | hi
  · rw [convT_get hi, sumF_congr (g := fun _ => 0) (fun k hk => if_neg (by omega)), sumF_zero, List.getD_eq_getElem?_getD, List.getElem?_replicate, if_pos hi]
    rfl
  · rw [getD_out _ i (by rw [List.length_replicate]; exact hi), getD_out _ i (by rw [convT_length]; exact hi)]
theorem convT_next (n : Nat) (xs ys : List UInt8) (a : Nat) : convT n xs ys a ys.length = convT n xs ys (a + 1) 0 := by
  apply list_ext0 (by rw [convT_length, convT_length])
  intro i
  rcases Nat.lt_or_ge i n with hi | hi
  · rw [convT_get hi, convT_get hi]
    refine sumF_congr fun k hk => ?_
    by_cases h : k < a ∨ (k = a ∧ i - k < ys.length)
    · rw [if_pos h, if_pos (by omega)]
    · rw [if_neg h]
      by_cases h2 : k < a + 1 ∨ (k = a + 1 ∧ i - k < 0)
      · rw [if_pos h2, getD_out ys (i - k) (by omega), Gf.mul_zero]
      · rw [if_neg h2]
  · rw [getD_out _ i (by rw [convT_length]; exact hi), getD_out _ i (by rw [convT_length]; exact hi)]
/-- one term more of a sum -/
theorem sumF_put {n k : Nat} (hk : k < n) {f g : Nat → UInt8} {v : UInt8} (h : ∀ i, i < n → i ≠ k → f i = g i) (h0 : f k = 0) (h1 : g k = v) : Gf.add (sumF n f) v = sumF n g := by
  have e : sumF n g = Gf.add (sumF n f) (sumF n (fun i => if i = k then v else 0)) := by
    rw [← sumF_add]
    refine sumF_congr fun i hi => ?_
    by_cases e : i = k
    · subst e; rw [if_pos rfl, h0, h1, Gf.zero_add]
    · rw [if_neg e, h i hi e, Gf.add_zero]
  rw [e, sumF_one hk (f := fun i => if i = k then v else 0) (fun i _ hne => if_neg hne), if_pos rfl]
theorem convT_set {n : Nat} {xs ys : List UInt8} {a b : Nat} (h : a + b < n) : (convT n xs ys a b).set (a + b) (Gf.add ((convT n xs ys a b).getD (a + b) 0) (Gf.mul (xs.getD a 0) (ys.getD b 0))) = convT n xs ys a (b + 1) := by
  apply list_ext0 (by rw [List.length_set, convT_length, convT_length])
  intro i
  rcases Nat.lt_or_ge i n with hi | hi
  · rw [convT_get hi, List.getD_eq_getElem?_getD, List.getElem?_set]
    by_cases e : a + b = i
    · subst e
      rw [if_pos rfl, if_pos (by rw [convT_length]; exact h), convT_get h]
      refine sumF_put (k := a) (by omega) (fun k hk hne => ?_) (if_neg (by omega)) ?_
      · by_cases h2 : k < a ∨ (k = a ∧ a + b - k < b)
        · rw [if_pos h2, if_pos (by omega)]
        · rw [if_neg h2, if_neg (by omega)]
      · rw [if_pos (by omega), show a + b - a = b by omega]
    · rw [if_neg e, ← List.getD_eq_getElem?_getD, convT_get hi]
      refine sumF_congr fun k hk => ?_
      by_cases h2 : k < a ∨ (k = a ∧ i - k < b)
      · rw [if_pos h2, if_pos (by omega)]
      · rw [if_neg h2]
        by_cases h3 : k < a ∨ (k = a ∧ i - k < b + 1)
        · exfalso; omega
        · rw [if_neg h3]
  · rw [getD_out _ i (by rw [List.length_set, convT_length]; exact hi), getD_out _ i (by rw [convT_length]; exact hi)]
theorem convT_end (n : Nat) (xs ys : List UInt8) (i : Nat) (h : i < n) : (convT n xs ys xs.length 0).getD i 0 = convF xs ys i := by
  rw [convT_get h]
  refine sumF_congr fun k hk => ?_
  by_cases h2 : k < xs.length ∨ (k = xs.length ∧ i - k < 0)
  · rw [if_pos h2]
  · rw [if_neg h2, getD_out xs k (by omega), Gf.mul_comm, Gf.mul_zero]
theorem convF_high (xs ys : List UInt8) (i : Nat) (h : xs.length + ys.length ≤ i + 1) : convF xs ys i = 0 := by
  unfold convF
  rw [sumF_congr (g := fun _ => 0) (fun k hk => ?_), sumF_zero]
  rcases Nat.lt_or_ge k xs.length with h1 | h1
  · rw [getD_out ys (i - k) (by omega), Gf.mul_zero]
  · rw [getD_out xs k h1, Gf.mul_comm, Gf.mul_zero]
theorem convF_congr {xs ys xs' ys' : List UInt8} (hx : ∀ i, xs.getD i 0 = xs'.getD i 0) (hy : ∀ i, ys.getD i 0 = ys'.getD i 0) (i : Nat) : convF xs ys i = convF xs' ys' i := by
  unfold convF
  exact sumF_congr fun k _ => by rw [hx, hy]
theorem convF_zero_left {xs ys : List UInt8} (h : ∀ k, xs.getD k 0 = 0) {i : Nat} : convF xs ys i = 0 := by
  unfold convF
  rw [sumF_congr (g := fun _ => 0) (fun k hk => by rw [h, Gf.mul_comm, Gf.mul_zero]), sumF_zero]
theorem convF_zero_right {xs ys : List UInt8} (h : ∀ k, ys.getD k 0 = 0) {i : Nat} : convF xs ys i = 0 := by
  unfold convF
  rw [sumF_congr (g := fun _ => 0) (fun k hk => by rw [h, Gf.mul_zero]), sumF_zero]
/-- the product of two polynomials, as mul makes it: nothing, if one of them is 0 -/
def mulL (xs ys : List UInt8) : List UInt8 := if trimE xs = 0 ∨ trimE ys = 0 then [] else convT (trimE xs + trimE ys - 1) (trimL xs) (trimL ys) (trimE xs) 0
theorem mulL_getD (xs ys : List UInt8) (i : Nat) : (mulL xs ys).getD i 0 = convF xs ys i := by
  have e : convF xs ys i = convF (trimL xs) (trimL ys) i := convF_congr (fun i => (trimL_getD xs i).symm) (fun i => (trimL_getD ys i).symm) i
  unfold mulL
  split
  · rename_i h
    rcases h with h | h
    · rw [convF_zero_left (fun k => trimE_high xs k (by omega))]; rfl
    · rw [convF_zero_right (fun k => trimE_high ys k (by omega))]; rfl
  · rename_i h
    rw [e]
    rcases Nat.lt_or_ge i (trimE xs + trimE ys - 1) with hi | hi
    · have := convT_end (trimE xs + trimE ys - 1) (trimL xs) (trimL ys) i hi
      rw [trimL_length] at this
      exact this
    · rw [getD_out _ i (by rw [convT_length]; exact hi), convF_high _ _ i (by rw [trimL_length, trimL_length]; omega)]
end Go.Proofs.Ytaihgckcmcacfaa
namespace Go.Proofs.Ytaihgckcmcacfaa
set_option linter.unusedVariables false
set_option linter.unusedSimpArgs false

theorem sumF_more {f : Nat → UInt8} {n : Nat} (h : ∀ i, n ≤ i → f i = 0) : ∀ m, sumF (n + m) f = sumF n f
  | 0 => rfl
  | m + 1 => by rw [← Nat.add_assoc, sumF, sumF_more h m, h (n + m) (by omega), Gf.add_zero]
theorem sumF_len {f : Nat → UInt8} {n m : Nat} (h : ∀ i, n ≤ i → f i = 0) (hm : n ≤ m) : sumF m f = sumF n f := by
  obtain ⟨d, rfl⟩ : ∃ d, m = n + d := ⟨m - n, by omega⟩
  exact sumF_more h d
theorem sumF_from (f : Nat → UInt8) (k : Nat) (h : ∀ i, i < k → f i = 0) : ∀ d, sumF (k + d) f = sumF d (fun j => f (k + j))
  | 0 => by
    rw [Nat.add_zero, sumF_congr (g := fun _ => 0) (fun i hi => h i hi), sumF_zero]
    rfl
  | d + 1 => by rw [← Nat.add_assoc, sumF, sumF_from f k h d, sumF]
theorem convF_wide (xs ys : List UInt8) (i n : Nat) (hn : xs.length ≤ n) : sumF n (fun k => if k ≤ i then Gf.mul (xs.getD k 0) (ys.getD (i - k) 0) else 0) = convF xs ys i := by
  have e1 : sumF (max n (i + 1)) (fun k => if k ≤ i then Gf.mul (xs.getD k 0) (ys.getD (i - k) 0) else 0) = sumF n (fun k => if k ≤ i then Gf.mul (xs.getD k 0) (ys.getD (i - k) 0) else 0) :=
    sumF_len (fun k hk => by
      rw [getD_out xs k (by omega), Gf.mul_comm, Gf.mul_zero]
      split <;> rfl) (Nat.le_max_left _ _)
  have e2 : sumF (max n (i + 1)) (fun k => if k ≤ i then Gf.mul (xs.getD k 0) (ys.getD (i - k) 0) else 0) = sumF (i + 1) (fun k => if k ≤ i then Gf.mul (xs.getD k 0) (ys.getD (i - k) 0) else 0) :=
    sumF_len (fun k hk => if_neg (by omega)) (Nat.le_max_right _ _)
  rw [← e1, e2]
  exact sumF_congr fun k hk => if_pos (by omega)
/-- the value of a product -/
theorem ev_mul (xs ys : List UInt8) (x : UInt8) : ev (mulL xs ys) x = Gf.mul (ev xs x) (ev ys x) := by
  have hl : ∀ i, xs.length + ys.length ≤ i → (mulL xs ys).getD i 0 = 0 := fun i hi => by rw [mulL_getD, convF_high xs ys i (by omega)]
  have e0 : ev (mulL xs ys) x = evN (convF xs ys) x (xs.length + ys.length) := by
    rw [ev_evN _ x (Nat.le_max_left (mulL xs ys).length (xs.length + ys.length)), evN_len hl (Nat.le_max_right _ _)]
    unfold evN
    exact sumF_congr fun i _ => by show Gf.mul ((mulL xs ys).getD i 0) _ = _; rw [mulL_getD]
  have e1 : evN (convF xs ys) x (xs.length + ys.length) = sumF xs.length (fun k => sumF (xs.length + ys.length) (fun i => if k ≤ i then Gf.mul (Gf.mul (xs.getD k 0) (ys.getD (i - k) 0)) (pwN x i) else 0)) := by
    rw [sumF_swap]
    unfold evN
    refine sumF_congr fun i _ => ?_
    rw [← convF_wide xs ys i xs.length (Nat.le_refl _), sumF_mul_right]
    refine sumF_congr fun k _ => ?_
    by_cases h : k ≤ i
    · rw [if_pos h, if_pos h]
    · rw [if_neg h, if_neg h, Gf.mul_comm, Gf.mul_zero]
  rw [e0, e1]
  unfold ev evN
  rw [sumF_mul_right]
  refine sumF_congr fun k hk => ?_
  rw [show xs.length + ys.length = k + (xs.length - k + ys.length) by omega, sumF_from _ k (fun i hi => if_neg (by omega)), sumF_mul, Nat.add_comm (xs.length - k), sumF_more]
  · refine sumF_congr fun j _ => ?_
    rw [if_pos (by omega), Nat.add_sub_cancel_left, pwN_add, Gf.mul_assoc, Gf.mul_assoc, Gf.mul_left_comm (ys.getD j 0) (pwN x k)]
  · intro j hj
    show (if k ≤ k + j then _ else _) = _
    rw [if_pos (by omega), Nat.add_sub_cancel_left, getD_out ys j hj, Gf.mul_zero, Gf.mul_comm, Gf.mul_zero]
/-- the value of a sum -/
theorem ev_add (xs ys zs : List UInt8) (x : UInt8) (h : ∀ i, zs.getD i 0 = Gf.add (xs.getD i 0) (ys.getD i 0)) : ev zs x = Gf.add (ev xs x) (ev ys x) := by
  have m1 : xs.length ≤ xs.length + ys.length + zs.length := by omega
  have m2 : ys.length ≤ xs.length + ys.length + zs.length := by omega
  have m3 : zs.length ≤ xs.length + ys.length + zs.length := by omega
  rw [ev_evN xs x m1, ev_evN ys x m2, ev_evN zs x m3]
  unfold evN
  rw [← sumF_add]
  refine sumF_congr fun i _ => ?_
  show Gf.mul (zs.getD i 0) _ = _
  rw [h, Gf.add_mul]
/-- the top coefficient of a product -/
theorem convF_top (xs ys : List UInt8) (hx : trimE xs ≠ 0) (hy : trimE ys ≠ 0) : convF xs ys (trimE xs + trimE ys - 2) = Gf.mul (xs.getD (trimE xs - 1) 0) (ys.getD (trimE ys - 1) 0) := by
  unfold convF
  rw [sumF_one (k := trimE xs - 1) (by omega)]
  · congr 2; omega
  · intro k hk hne
    rcases Nat.lt_or_ge k (trimE xs - 1) with h | h
    · rw [trimE_high ys _ (by omega), Gf.mul_zero]
    · rw [trimE_high xs k (by omega), Gf.mul_comm, Gf.mul_zero]
theorem convF_over (xs ys : List UInt8) (i : Nat) (h : trimE xs + trimE ys ≤ i + 1) : convF xs ys i = 0 := by
  rw [convF_congr (xs' := trimL xs) (ys' := trimL ys) (fun i => (trimL_getD xs i).symm) (fun i => (trimL_getD ys i).symm) i]
  exact convF_high _ _ i (by rw [trimL_length, trimL_length]; exact h)
theorem trimE_mul (xs ys : List UInt8) (hx : trimE xs ≠ 0) (hy : trimE ys ≠ 0) : trimE (mulL xs ys) = trimE xs + trimE ys - 1 := by
  refine trimE_of (fun i hi => ?_) (fun _ => ?_)
  · rw [mulL_getD, convF_over xs ys i (by omega)]
  · rw [mulL_getD, show trimE xs + trimE ys - 1 - 1 = trimE xs + trimE ys - 2 by omega, convF_top xs ys hx hy]
    exact Gf.mul_ne (trimE_top xs (by omega)) (trimE_top ys (by omega))
theorem trimE_mul0 (xs ys : List UInt8) (h : trimE xs = 0 ∨ trimE ys = 0) : trimE (mulL xs ys) = 0 := by
  unfold mulL
  rw [if_pos h]
  rfl
theorem mulL_trim (xs ys : List UInt8) : trimL (mulL xs ys) = mulL xs ys := by
  apply trimL_self
  by_cases h : trimE xs = 0 ∨ trimE ys = 0
  · rw [trimE_mul0 xs ys h]
    unfold mulL
    rw [if_pos h]
    rfl
  · rw [trimE_mul xs ys (by omega) (by omega)]
    unfold mulL
    rw [if_neg h, convT_length]
end Go.Proofs.Ytaihgckcmcacfaa
namespace Go.Proofs.Ytaihgckcmcacfaa
set_option linter.unusedVariables false
set_option linter.unusedSimpArgs false

/-- rem behind the first n entries of c times q were taken off at place a -/
def offTo (rem q : List UInt8) (a : Nat) (c : UInt8) (n : Nat) : List UInt8 := (List.range rem.length).map fun j => if a ≤ j ∧ j < a + n then Gf.add (rem.getD j 0) (Gf.mul c (q.getD (j - a) 0)) else rem.getD j 0
theorem offTo_length (rem q : List UInt8) (a : Nat) (c : UInt8) (n : Nat) : (offTo rem q a c n).length = rem.length := by simp [offTo]
theorem offTo_get {rem q : List UInt8} {a : Nat} {c : UInt8} {n j : Nat} (h : j < rem.length) : (offTo rem q a c n).getD j 0 = if a ≤ j ∧ j < a + n then Gf.add (rem.getD j 0) (Gf.mul c (q.getD (j - a) 0)) else rem.getD j 0 := by
  unfold offTo
  rw [List.getD_eq_getElem?_getD, List.getElem?_map, List.getElem?_range h]
  rfl
theorem offTo_zero (rem q : List UInt8) (a : Nat) (c : UInt8) : offTo rem q a c 0 = rem := by
  refine list_ext0 (offTo_length _ _ _ _ _) fun j => ?_
  rcases Nat.lt_or_ge j rem.length with h | h
  · rw [offTo_get h, if_neg (by omega)]
  · rw [getD_out _ j (by rw [offTo_length]; exact h), getD_out rem j h]
theorem getD_set (xs : List UInt8) (i j : Nat) (v : UInt8) (h : i < xs.length) : (xs.set i v).getD j 0 = if j = i then v else xs.getD j 0 := by
  rw [List.getD_eq_getElem?_getD, List.getD_eq_getElem?_getD, List.getElem?_set]
  by_cases e : i = j
  · rw [if_pos e, if_pos h, if_pos e.symm]; rfl
  · rw [if_neg e, if_neg (fun h2 => e h2.symm)]
theorem offTo_set {rem q : List UInt8} {a : Nat} {c : UInt8} {n : Nat} (h : a + n < rem.length) : (offTo rem q a c n).set (a + n) (Gf.add ((offTo rem q a c n).getD (a + n) 0) (Gf.mul c (q.getD n 0))) = offTo rem q a c (n + 1) := by
  have hl := offTo_length rem q a c n
  refine list_ext0 (by rw [List.length_set, offTo_length, offTo_length]) fun j => ?_
  rw [getD_set _ _ _ _ (by omega)]
  rcases Nat.lt_or_ge j rem.length with hj | hj
  · have g1 : (offTo rem q a c (n + 1)).getD j 0 = if a ≤ j ∧ j < a + (n + 1) then Gf.add (rem.getD j 0) (Gf.mul c (q.getD (j - a) 0)) else rem.getD j 0 := offTo_get hj
    have g2 : (offTo rem q a c n).getD j 0 = if a ≤ j ∧ j < a + n then Gf.add (rem.getD j 0) (Gf.mul c (q.getD (j - a) 0)) else rem.getD j 0 := offTo_get hj
    rw [g1]
    by_cases e : j = a + n
    · subst e
      rw [if_pos rfl, g2, if_neg (by omega), if_pos (by omega), Nat.add_sub_cancel_left]
    · rw [if_neg e, g2]
      by_cases e2 : a ≤ j ∧ j < a + n
      · rw [if_pos e2, if_pos (by omega)]
      · rw [if_neg e2, if_neg (by omega)]
  · rw [if_neg (show ¬ j = a + n by omega), getD_out _ j (by rw [offTo_length]; exact hj), getD_out _ j (by rw [offTo_length]; exact hj)]
/-- one step's factor -/
def stepC (rem : List UInt8) (over : UInt8) : UInt8 := Gf.mul (rem.getD (rem.length - 1) 0) over
/-- the rest behind one step -/
def stepR (q rem : List UInt8) (over : UInt8) : List UInt8 := trimL (offTo rem q (rem.length - q.length) (stepC rem over) q.length)
/-- the division, for so many steps at most -/
def divG (q : List UInt8) (over : UInt8) : Nat → List UInt8 → List UInt8 → List UInt8 × List UInt8
  | 0, quo, rem => (quo, rem)
  | k + 1, quo, rem => if rem.length < q.length then (quo, rem) else divG q over k (quo.set (rem.length - q.length) (stepC rem over)) (stepR q rem over)
theorem stepR_lt (q rem : List UInt8) (over : UInt8) (hq : 0 < q.length) (hl : q.length ≤ rem.length) (ho : Gf.mul over (q.getD (q.length - 1) 0) = 1) : (stepR q rem over).length < rem.length := by
  unfold stepR
  rw [trimL_length]
  have hle := trimE_le (offTo rem q (rem.length - q.length) (stepC rem over) q.length)
  rw [offTo_length] at hle
  rcases Nat.lt_or_ge (trimE (offTo rem q (rem.length - q.length) (stepC rem over) q.length)) rem.length with h | h
  · exact h
  · have e : trimE (offTo rem q (rem.length - q.length) (stepC rem over) q.length) = rem.length := by omega
    have ht := trimE_top (offTo rem q (rem.length - q.length) (stepC rem over) q.length) (by omega)
    rw [e, offTo_get (by omega), if_pos (by omega), show rem.length - 1 - (rem.length - q.length) = q.length - 1 by omega] at ht
    unfold stepC at ht
    rw [Gf.mul_assoc, ho, Gf.mul_one, Gf.add_self] at ht
    exact absurd rfl ht
theorem stepR_trim (q rem : List UInt8) (over : UInt8) : trimL (stepR q rem over) = stepR q rem over := trimL_idem _
theorem divG_len (q : List UInt8) (over : UInt8) : ∀ k quo rem, (divG q over k quo rem).1.length = quo.length
  | 0, _, _ => rfl
  | k + 1, quo, rem => by
    unfold divG
    split
    · rfl
    · rw [divG_len q over k, List.length_set]
/-- as many steps as the rest has entries are enough -/
theorem divG_rem (q : List UInt8) (over : UInt8) (hq : 0 < q.length) (ho : Gf.mul over (q.getD (q.length - 1) 0) = 1) : ∀ k quo rem, rem.length ≤ k → (divG q over k quo rem).2.length < q.length
  | 0, quo, rem, h => by show rem.length < q.length; omega
  | k + 1, quo, rem, h => by
    unfold divG
    split
    · assumption
    · have := stepR_lt q rem over hq (by omega) ho
      exact divG_rem q over hq ho k _ _ (by omega)
theorem divG_more (q : List UInt8) (over : UInt8) (hq : 0 < q.length) (ho : Gf.mul over (q.getD (q.length - 1) 0) = 1) : ∀ k quo rem, rem.length ≤ k → divG q over (k + 1) quo rem = divG q over k quo rem
  | 0, quo, rem, h => by
    show (if rem.length < q.length then (quo, rem) else _) = (quo, rem)
    rw [if_pos (by omega)]
  | k + 1, quo, rem, h => by
    rw [divG]
    conv => rhs; rw [divG]
    by_cases h1 : rem.length < q.length
    · rw [if_pos h1, if_pos h1]
    · rw [if_neg h1, if_neg h1]
      have := stepR_lt q rem over hq (by omega) ho
      exact divG_more q over hq ho k _ _ (by omega)
theorem convF_set {quo q : List UInt8} {a : Nat} {c : UInt8} (ha : a < quo.length) (h0 : quo.getD a 0 = 0) (i : Nat) : convF (quo.set a c) q i = Gf.add (convF quo q i) (if a ≤ i then Gf.mul c (q.getD (i - a) 0) else 0) := by
  unfold convF
  by_cases h : a ≤ i
  · rw [if_pos h]
    refine (sumF_put (k := a) (by omega) (fun k hk hne => ?_) ?_ ?_).symm
    · rw [getD_set _ _ _ _ ha, if_neg hne]
    · rw [h0, Gf.mul_comm, Gf.mul_zero]
    · rw [getD_set _ _ _ _ ha, if_pos rfl]
  · rw [if_neg h, Gf.add_zero]
    refine sumF_congr fun k hk => ?_
    rw [getD_set _ _ _ _ ha, if_neg (by omega)]
/-- quotient times q and rest make p -/
theorem divG_sum (q : List UInt8) (over : UInt8) (hq : 0 < q.length) (p : List UInt8) : ∀ k quo rem, rem.length + 1 ≤ quo.length + q.length → (∀ j, j + q.length ≤ rem.length → quo.getD j 0 = 0) → Gf.mul over (q.getD (q.length - 1) 0) = 1 →
    (∀ i, Gf.add (convF quo q i) (rem.getD i 0) = p.getD i 0) → ∀ i, Gf.add (convF (divG q over k quo rem).1 q i) ((divG q over k quo rem).2.getD i 0) = p.getD i 0
  | 0, quo, rem, _, _, _, h => h
  | k + 1, quo, rem, hl, hz, ho, h => by
    unfold divG
    by_cases h1 : rem.length < q.length
    · rw [if_pos h1]; exact h
    · rw [if_neg h1]
      have hlt := stepR_lt q rem over hq (by omega) ho
      refine divG_sum q over hq p k _ _ (by rw [List.length_set]; omega) (fun j hj => ?_) ho (fun i => ?_)
      · rw [getD_set _ _ _ _ (by omega), if_neg (by omega)]
        exact hz j (by omega)
      · rw [convF_set (by omega) (hz _ (by omega)), ← h i]
        unfold stepR
        rw [trimL_getD, Gf.add_assoc]
        congr 1
        rcases Nat.lt_or_ge i rem.length with hi | hi
        · rw [offTo_get hi]
          by_cases h2 : rem.length - q.length ≤ i
          · rw [if_pos h2, if_pos (by omega), Gf.add_comm (rem.getD i 0), ← Gf.add_assoc, Gf.add_self, Gf.zero_add]
          · rw [if_neg h2, if_neg (by omega), Gf.zero_add]
        · rw [getD_out _ i (by rw [offTo_length]; exact hi), getD_out rem i hi, if_pos (by omega), getD_out q _ (by omega), Gf.mul_zero]
          rfl
end Go.Proofs.Ytaihgckcmcacfaa
namespace Go.Proofs.Ytaihgckcmcacfaa

def fillTo (f : Nat → UInt8) (n i : Nat) : List UInt8 := (List.range i).map f ++ List.replicate (n - i) 0
theorem fill_len (f : Nat → UInt8) {n i : Nat} (h : i ≤ n) : (fillTo f n i).length = n := by simp [fillTo]; omega
theorem fill_zero (f : Nat → UInt8) (n : Nat) : fillTo f n 0 = List.replicate n 0 := by simp [fillTo]
theorem fill_all (f : Nat → UInt8) (n : Nat) : fillTo f n n = (List.range n).map f := by simp [fillTo]
theorem fill_set (f : Nat → UInt8) {n i : Nat} (h : i < n) : (fillTo f n i).set i (f i) = fillTo f n (i + 1) := by
  unfold fillTo
  have hl : ((List.range i).map f).length = i := by simp
  rw [List.set_append_right _ _ (by omega), hl, Nat.sub_self]
  obtain ⟨k, hk⟩ : ∃ k, n - i = k + 1 := ⟨n - i - 1, by omega⟩
  rw [hk, List.replicate_succ, List.set_cons_zero, List.range_succ, List.map_append, List.append_assoc]
  congr 2
  simp
  omega
theorem fill_get (f : Nat → UInt8) {n i j : Nat} (hj : j < i) : (fillTo f n i)[j]? = some (f j) := by
  unfold fillTo
  rw [List.getElem?_append_left (by simpa using hj)]
  simp [hj]
theorem range_map_get (xs : List UInt8) (g : UInt8 → UInt8) : (List.range xs.length).map (fun j => g (xs.getD j 0)) = xs.map g := by
  apply List.ext_getElem?
  intro j
  by_cases h : j < xs.length
  · simp [h, List.getD]
  · simp [h]
theorem range_map_get2 (xs ys : List UInt8) (g : UInt8 → UInt8 → UInt8) (h : xs.length = ys.length) : (List.range xs.length).map (fun j => g (xs.getD j 0) (ys.getD j 0)) = List.zipWith g xs ys := by
  apply List.ext_getElem?
  intro j
  by_cases hj : j < xs.length
  · have hj' : j < ys.length := by omega
    rw [List.getElem?_zipWith]
    simp [hj, hj', List.getD]
  · have hj' : ¬ j < ys.length := by omega
    rw [List.getElem?_zipWith]
    simp [hj]
/-- a list that is turned place by place: f up to i, the elder list from there on -/
def upTo (f : Nat → UInt8) (ys : List UInt8) (i : Nat) : List UInt8 := (List.range i).map f ++ ys.drop i
theorem up_len (f : Nat → UInt8) {ys : List UInt8} {i : Nat} (h : i ≤ ys.length) : (upTo f ys i).length = ys.length := by simp [upTo]; omega
theorem up_zero (f : Nat → UInt8) (ys : List UInt8) : upTo f ys 0 = ys := by simp [upTo]
theorem up_all (f : Nat → UInt8) (ys : List UInt8) : upTo f ys ys.length = (List.range ys.length).map f := by simp [upTo]
theorem up_set (f : Nat → UInt8) {ys : List UInt8} {i : Nat} (h : i < ys.length) : (upTo f ys i).set i (f i) = upTo f ys (i + 1) := by
  unfold upTo
  have hl : ((List.range i).map f).length = i := by simp
  rw [List.set_append_right _ _ (by omega), hl, Nat.sub_self, List.drop_eq_getElem_cons h, List.set_cons_zero, List.range_succ, List.map_append, List.append_assoc]
  rfl
theorem up_get (f : Nat → UInt8) {ys : List UInt8} {i : Nat} (h : i < ys.length) : (upTo f ys i).getD i 0 = ys.getD i 0 := by
  unfold upTo
  have hl : ((List.range i).map f).length = i := by simp
  simp [List.getD, List.getElem?_append_right, hl, h]
theorem map_getD {xs : List UInt8} (g : UInt8 → UInt8) {i : Nat} (h : i < xs.length) : (xs.map g).getD i 0 = g (xs.getD i 0) := by simp [List.getD, h]
end Go.Proofs.Ytaihgckcmcacfaa

namespace Go.Proofs.Ytaihgckcmcacfaa
open Go.RowKit
set_option linter.unusedVariables false
set_option linter.unusedSimpArgs false

set_option maxRecDepth 100000 in
set_option maxHeartbeats 800000 in
theorem scale_calls (c : UInt8) (A : Option Addr) (n cap : Nat) (xs : List UInt8) (w : World) (hr : Rd w w.heap.size A n (bVs xs)) (hn : n ≤ 140737488355328) :
    Calls Try.prog 49 #[.int .u8 (c.toNat : Int), .slice A n cap] w fun e w' => ∃ A' cap', e = .returned (.slice A' n cap') ∧ OwnB w' w.heap.size A' n cap' (xs.map (Gf.mul c)) ∧ Below w.heap.size w w' := by
  obtain ⟨Z, hzv, HZ0, HSZ⟩ := zero_tables'
  have hmk := make_bytes n (by omega)
  go_enter Try.func49, Try.ntmps49
  go_wp2_with (first | (go_at_call 57; refine (build_calls _).mono ?_; rintro e w1 ⟨T, hT, rfl, hb1⟩) | (refine wpList_store_tab (.tmp 5) (.tmp 9) rfl rfl T Z hT HZ0 HSZ rfl rfl ?_; intro w2 hs2 hg2 hb2))
  have hrow := row_made_bytes w2 n
  rw [hs2] at hrow
  have hbW : Below w.heap.size w (w2.alloc (.cells (madeCells #[.int .u8 0] n) 5)) := (hb1.trans (hb2.mono hb1.size)).alloc (by have := hb1.size; omega) _
  have ht := (HasTab.mk hT hg2).of_block (w' := w2.alloc (.cells (madeCells #[.int .u8 0] n) 5)) (Below.heap_alloc w2 _ _ (by omega))
  have hsz := hb1.size
  rw [← fill_zero (fun j => Gf.mul c (xs.getD j 0)) n] at hrow
  have HF := Lib.hid (fill_all (fun j => Gf.mul c (xs.getD j 0)) n)
  have HR := Lib.hid (range_map_get xs (Gf.mul c))
  have HL := Lib.hid (show xs.length = n by have := hr.len; rw [bVs_length] at this; exact this)
  have HT := Lib.hid ht
  have HW := Lib.hid hrow
  have HB := Lib.hid hbW
  clear hrow ht hbW hg2 hmk hzv hT HSZ HZ0 hs2 hb2
  go_loopw [15] (fun v15 wr => ∃ i : Nat, i ≤ n ∧ v15 = .int .i64 (i : Int) ∧ Row wr (w1.heap.size + 1) 5 (bVs (fillTo (fun j => Gf.mul c (xs.getD j 0)) n i)) ∧ HasTab wr w1.heap.size ∧ Below w.heap.size w wr) (fun v15 _ => n - (intOf v15).toNat)
  case atStart => exact ⟨0, by omega, rfl, HW.out, HT.out, HB.out⟩
  case round =>
    obtain ⟨i, hi, rfl, hrow, ht, hb⟩ := hrel
    clear HT HW HB
    by_cases hlt : i < n
    · obtain ⟨g, o, rfl, hg, hcell⟩ := rd_get (hr.below hb (Nat.le_refl _)) hlt
      obtain ⟨old, hst⟩ := hrow.has (i := i) (by rw [bVs_length, fill_len _ hi]; exact hlt)
      have hfz := hrow.frozen i
      have HST := Lib.hid hrow
      have HR2 := Lib.hid hr
      have HB := Lib.hid hb
      obtain ⟨x, hx⟩ : ∃ x, x = xs.getD i 0 := ⟨_, rfl⟩
      rw [← hx] at hcell
      have HX := Lib.hid hx
      clear hx hr hrow hb
      go_wp2_with (go_at_call 58; refine (tmul_calls _ _ _ _ ht).mono ?_; rintro e w' ⟨rfl, nd, rfl⟩)
      go_roundw
      case rel =>
        refine ⟨i + 1, by omega, by go_num, ?_, ?_, ?_⟩
        · have h := (HST.out.drewN nd).set i (.int .u8 ((Gf.mul c (xs.getD i 0)).toNat : Int))
          rw [bVs_set] at h
          have e := fill_set (fun j => Gf.mul c (xs.getD j 0)) hlt
          rw [e, ← HX.out] at h
          exact h
        · exact (ht.drewN nd).of_block (Below.heap_setCell _ _ _ _ (by simp))
        · exact (below_drewN HB.out nd).setCell (by simp; omega) _
      case measure => simp [intOf]; omega
    · obtain rfl : i = n := by omega
      rw [HF.out] at hrow
      rw [show (List.range i).map (fun j => Gf.mul c (xs.getD j 0)) = xs.map (Gf.mul c) by rw [← HR.out, HL.out]] at hrow
      go_wp2_with fail
      go_ret
      exact ⟨_, _, rfl, hrow.ownB (by omega) (by rw [List.length_map, HL.out]) (by simp only [maxLen]; omega), hb⟩

end Go.Proofs.Ytaihgckcmcacfaa
namespace Go.Proofs.Ytaihgckcmcacfaa
open Go.RowKit
set_option linter.unusedVariables false
set_option linter.unusedSimpArgs false

theorem mapL_getD (f : UInt8 → UInt8) (l : List UInt8) {b : Nat} (h : b < l.length) : (l.map f).getD b 0 = f (l.getD b 0) := by
  rw [List.getD_eq_getElem?_getD, List.getElem?_map, List.getD_eq_getElem?_getD, List.getElem?_eq_getElem h]
  rfl
set_option maxRecDepth 100000 in
set_option maxHeartbeats 3200000 in
theorem pmul_yes (A B : Option Addr) (n m c d : Nat) (xs ys : List UInt8) (w : World) (ha : Rd w w.heap.size A n (bVs xs)) (hb : Rd w w.heap.size B m (bVs ys)) (h1 : n ≤ c) (h2 : m ≤ d) (hn : n ≤ 140737488355328) (hm : m ≤ 140737488355328) (hx : trimE xs ≠ 0) (hy : trimE ys ≠ 0) :
    Calls Try.prog 44 #[.slice A n c, .slice B m d] w fun e w' => ∃ A' k cap, e = .returned (.slice A' k cap) ∧ OwnB w' w.heap.size A' k cap (mulL xs ys) ∧ Below w.heap.size w w' := by
  have hxl : xs.length = n := by have := ha.len; rw [bVs_length] at this; exact this
  have hyl : ys.length = m := by have := hb.len; rw [bVs_length] at this; exact this
  have t1 := trimE_le xs
  have t2 := trimE_le ys
  obtain ⟨p, hp⟩ : ∃ p, p = trimE xs := ⟨_, rfl⟩
  obtain ⟨q, hq⟩ : ∃ q, q = trimE ys := ⟨_, rfl⟩
  obtain ⟨P, hP⟩ : ∃ P, P = trimL xs := ⟨_, rfl⟩
  obtain ⟨Q, hQ⟩ : ∃ Q, Q = trimL ys := ⟨_, rfl⟩
  have hPl : P.length = p := by rw [hP, hp, trimL_length]
  have hQl : Q.length = q := by rw [hQ, hq, trimL_length]
  have HT1 := Lib.hid (trimmed_calls A n c xs w ha h1 hn)
  have HT2 := Lib.hid (trimmed_calls B m d ys w hb h2 hm)
  have HP := rd_trim ha
  have HQ := rd_trim hb
  have HM := Lib.hid (show mulL xs ys = convT (p + q - 1) P Q p 0 by unfold mulL; rw [if_neg (by omega), hp, hq, hP, hQ])
  rw [← hp] at HT1 hx t1 HP
  rw [← hq] at HT2 hy t2 HQ
  rw [← hP] at HP
  rw [← hQ] at HQ
  have HPR := Lib.hid HP
  have HQR := Lib.hid HQ
  have HPL := Lib.hid hPl
  have HQL := Lib.hid hQl
  have hmk := make_bytes (p + q - 1) (by omega)
  have hbn : p + q - 1 ≤ 281474976710656 := by omega
  obtain ⟨r, hr⟩ : ∃ r, r = p + q - 1 := ⟨_, rfl⟩
  have e1 : (p : Int) + (q : Int) - 1 = (r : Int) := by omega
  have hp1 : 1 ≤ p := by omega
  have hq1 : 1 ≤ q := by omega
  have bp : p ≤ 140737488355328 := by omega
  have bq : q ≤ 140737488355328 := by omega
  rw [← hr] at hmk HM hbn
  have hpq : p + q = r + 1 := by omega
  have dp : ((p : Int) == 0) = false := by rw [beq_eq_false_iff_ne]; omega
  have dq : ((q : Int) == 0) = false := by rw [beq_eq_false_iff_ne]; omega
  have dp' : (p == 0) = false := by rw [beq_eq_false_iff_ne]; omega
  have dq' : (q == 0) = false := by rw [beq_eq_false_iff_ne]; omega
  clear hp hq hP hQ HP HQ hxl hyl hr hPl hQl hx hy ha hb
  go_enter Try.func44, Try.ntmps44
  go_wp2_with fail
  refine HT1.out.mono ?_
  rintro e w' ⟨rfl, rfl⟩
  go_wp2_with fail
  refine HT2.out.mono ?_
  rintro e w' ⟨rfl, rfl⟩
  go_wp2_with fail
  have hrow := row_made_bytes w r
  have hB : Below w.heap.size w (w.alloc (.cells (madeCells #[.int .u8 0] r) 5)) := (Below.refl _ _).alloc (Nat.le_refl _) _
  rw [convT_start r P Q] at hrow
  have HROW := Lib.hid hrow
  have HB := Lib.hid hB
  clear hrow hB hmk
  go_loopw [31] (fun v wr => ∃ a : Nat, a ≤ p ∧ v = .int .i64 (a : Int) ∧ Row wr w.heap.size 5 (bVs (convT r P Q a 0)) ∧ Below w.heap.size w wr) (fun v _ => p - (intOf v).toNat)
  case atStart => exact ⟨0, by omega, rfl, HROW.out, HB.out⟩
  case round =>
    obtain ⟨a, hap, rfl, hrow, hB⟩ := hrel
    clear HROW HB
    obtain ⟨wo, rfl⟩ : ∃ wo : World, wo = wr := ⟨_, rfl⟩
    by_cases hlt : a < p
    · obtain ⟨x, hx⟩ : ∃ x, x = P.getD a 0 := ⟨_, rfl⟩
      obtain ⟨g, o, rfl, hg, hcell⟩ := rd_get HPR.out hlt
      rw [← hx] at hcell
      have HX := Lib.hid hx
      have hcell2 := (hB.cell (p := ⟨g, o + a, none⟩) hg).trans hcell
      have HSC := Lib.hid (scale_calls x B q d Q wo (HQR.out.go hB) bq)
      have hlt0 := hrow.lt
      have HR := Lib.hid hrow
      have HB := Lib.hid hB
      clear hrow hB hcell hx
      go_wp2_with fail
      refine HSC.out.mono ?_
      rintro e w1 ⟨S, cS, rfl, ho, hb1⟩
      have HRS := Lib.hid ho
      have hs1 := hb1.size
      have HR1 := Lib.hid (HR.out.below hb1 HR.out.lt)
      have HB1 := Lib.hid (HB.out.trans (hb1.mono HB.out.size))
      have HSB := Lib.hid (show ∀ g', S = some ⟨g', 0, none⟩ → w.heap.size ≠ g' by
        intro g' e
        subst e
        have := (ho.row g' rfl).1
        have := HR.out.lt
        omega)
      clear ho hb1 HSC
      go_wp2_with fail
      go_loopw [40] (fun v wr => ∃ b : Nat, b ≤ q ∧ v = .int .i64 (b : Int) ∧ Row wr w.heap.size 5 (bVs (convT r P Q a b)) ∧ Below w.heap.size w wr ∧ (∀ g', S = some ⟨g', 0, none⟩ → wr.heap[g']? = w1.heap[g']?)) (fun v _ => q - (intOf v).toNat)
      case atStart => exact ⟨0, by omega, rfl, HR1.out, HB1.out, fun _ _ => rfl⟩
      case round =>
        obtain ⟨b, hbq, rfl, hrow, hB, hS⟩ := hrel
        by_cases hlb : b < q
        · obtain ⟨g2, rfl, hg2, hg3, hcell, _⟩ := HRS.out.at_ hlb
          have hne := HSB.out g2 rfl
          have hcell3 := (World.cell?_of_block (w := w1) (w' := wr) (a := ⟨g2, b, none⟩) (hS g2 rfl)).trans hcell
          obtain ⟨z, hz⟩ : ∃ z, z = (Q.map (Gf.mul x)).getD b 0 := ⟨_, rfl⟩
          rw [← hz] at hcell3
          have hz2 : z = Gf.mul (P.getD a 0) (Q.getD b 0) := by rw [hz, ← HX.out]; exact mapL_getD _ _ (by rw [HQL.out]; exact hlb)
          have hab : a + b < r := by omega
          have HS := Lib.hid (convT_set (xs := P) (ys := Q) hab)
          rw [← hz2] at HS
          have hcur := row_get hrow (k := a + b) (by rw [convT_length]; exact hab)
          obtain ⟨y, hy⟩ : ∃ y, y = (convT r P Q a b).getD (a + b) 0 := ⟨_, rfl⟩
          rw [← hy] at hcur HS
          have hfz := hrow.frozen (a + b)
          have hxr := bxor_u8 y z
          have k0 : (0 : Int) ≤ (a : Int) + (b : Int) := by omega
          have k1 : (a : Int) + (b : Int) < (r : Int) := by omega
          have k2 : IntKind.i64.wrap ((a : Int) + (b : Int)) = (a : Int) + (b : Int) := by rw [IntKind.wrap_i64]; omega
          have k3 : ((a : Int) + (b : Int)).toNat = a + b := by omega
          have b0 : (0 : Int) ≤ (b : Int) := by omega
          have b1 : (b : Int) < (q : Int) := by omega
          have HRR := Lib.hid hrow
          have HBB := Lib.hid hB
          have HSS := Lib.hid hS
          clear hz hz2 hy hcell hrow hB hS
          go_wp2_with fail
          go_roundw
          case rel => exact ⟨b + 1, by omega, by go_num, by rw [← HS.out, ← bVs_set]; exact HRR.out.set _ _, HBB.out.setCell (Nat.le_refl _) _, fun g' e => (Below.heap_setCell _ _ _ _ (by simp; exact (HSB.out g' e).symm)).trans (HSS.out g' e)⟩
          case measure => simp [intOf]; omega
        · obtain rfl : b = q := by omega
          have HN := Lib.hid (convT_next r P Q a)
          rw [HQL.out] at HN
          have HRR := Lib.hid hrow
          have HBB := Lib.hid hB
          clear hrow hB hS
          go_wp2_with fail
          go_roundw
          case rel => exact ⟨a + 1, by omega, by go_num, by rw [← HN.out]; exact HRR.out, HBB.out⟩
          case measure => simp [intOf]; omega
    · obtain rfl : a = p := by omega
      have ho : OwnB wo w.heap.size (some ⟨w.heap.size, 0, none⟩) r r (convT r P Q a 0) := hrow.ownB (Nat.le_refl _) (convT_length _ _ _ _ _) (by simp only [maxLen]; omega)
      have HO := Lib.hid ho
      have HB := Lib.hid hB
      clear ho hrow hB
      go_wp2_with fail
      go_ret
      exact ⟨_, _, _, rfl, by rw [HM.out]; exact HO.out, HB.out⟩
set_option maxHeartbeats 800000 in
theorem pmul_no (A B : Option Addr) (n m c d : Nat) (xs ys : List UInt8) (w : World) (ha : Rd w w.heap.size A n (bVs xs)) (hb : Rd w w.heap.size B m (bVs ys)) (h1 : n ≤ c) (h2 : m ≤ d) (hn : n ≤ 140737488355328) (hm : m ≤ 140737488355328) (h : trimE xs = 0 ∨ (trimE xs ≠ 0 ∧ trimE ys = 0)) :
    Calls Try.prog 44 #[.slice A n c, .slice B m d] w fun e w' => e = .returned (.slice none 0 0) ∧ w = w' := by
  have hxl : xs.length = n := by have := ha.len; rw [bVs_length] at this; exact this
  have t1 := trimE_le xs
  have HT1 := Lib.hid (trimmed_calls A n c xs w ha h1 hn)
  have HT2 := Lib.hid (trimmed_calls B m d ys w hb h2 hm)
  clear ha hb
  obtain ⟨p, hp⟩ : ∃ p, p = trimE xs := ⟨_, rfl⟩
  obtain ⟨q, hq⟩ : ∃ q, q = trimE ys := ⟨_, rfl⟩
  rw [← hp] at HT1 h t1
  rw [← hq] at HT2 h
  clear hp hq
  rcases h with h | ⟨h, h'⟩
  · subst h
    go_enter Try.func44, Try.ntmps44
    go_wp2_with fail
    refine HT1.out.mono ?_
    rintro e w' ⟨rfl, rfl⟩
    go_wp2_with fail
    refine HT2.out.mono ?_
    rintro e w' ⟨rfl, rfl⟩
    go_wp2_with fail
    go_ret
    exact ⟨rfl, rfl⟩
  · subst h'
    have dp : ((p : Int) == 0) = false := by rw [beq_eq_false_iff_ne]; omega
    have dp' : (p == 0) = false := by rw [beq_eq_false_iff_ne]; exact h
    clear h
    go_enter Try.func44, Try.ntmps44
    go_wp2_with fail
    refine HT1.out.mono ?_
    rintro e w' ⟨rfl, rfl⟩
    go_wp2_with fail
    refine HT2.out.mono ?_
    rintro e w' ⟨rfl, rfl⟩
    go_wp2_with fail
    go_ret
    exact ⟨rfl, rfl⟩
theorem pmul_calls (A B : Option Addr) (n m c d : Nat) (xs ys : List UInt8) (w : World) (ha : Rd w w.heap.size A n (bVs xs)) (hb : Rd w w.heap.size B m (bVs ys)) (h1 : n ≤ c) (h2 : m ≤ d) (hn : n ≤ 140737488355328) (hm : m ≤ 140737488355328) :
    Calls Try.prog 44 #[.slice A n c, .slice B m d] w fun e w' => ∃ A' k cap, e = .returned (.slice A' k cap) ∧ OwnB w' w.heap.size A' k cap (mulL xs ys) ∧ Below w.heap.size w w' := by
  by_cases hx : trimE xs = 0
  · refine (pmul_no A B n m c d xs ys w ha hb h1 h2 hn hm (.inl hx)).mono ?_
    rintro e w' ⟨rfl, rfl⟩
    exact ⟨none, 0, 0, rfl, by rw [show mulL xs ys = [] by unfold mulL; rw [if_pos (.inl hx)]]; exact ⟨rfl, rfl, .inl ⟨rfl, rfl⟩⟩, Below.refl _ _⟩
  · by_cases hy : trimE ys = 0
    · refine (pmul_no A B n m c d xs ys w ha hb h1 h2 hn hm (.inr ⟨hx, hy⟩)).mono ?_
      rintro e w' ⟨rfl, rfl⟩
      exact ⟨none, 0, 0, rfl, by rw [show mulL xs ys = [] by unfold mulL; rw [if_pos (.inr hy)]]; exact ⟨rfl, rfl, .inl ⟨rfl, rfl⟩⟩, Below.refl _ _⟩
    · exact pmul_yes A B n m c d xs ys w ha hb h1 h2 hn hm hx hy
end Go.Proofs.Ytaihgckcmcacfaa
namespace Go.Proofs.Ytaihgckcmcacfaa
open Go.RowKit
set_option linter.unusedVariables false
set_option linter.unusedSimpArgs false

theorem scale_get (c : UInt8) (q : List UInt8) (i : Nat) (h : i < q.length) : (q.map (Gf.mul c)).getD i 0 = Gf.mul c (q.getD i 0) := map_getD _ h
set_option maxRecDepth 100000 in
set_option maxHeartbeats 1600000 in
theorem step_calls (c : UInt8) (a G4 G3 G5 gq gr nq cq n cap m cR base B : Nat) (Q : Option Addr) (quo q rem : List UInt8) (w : World)
    (b4 : w.cell? ⟨G4, 0, none⟩ = some (.slice (some ⟨gq, 0, none⟩) nq cq)) (b3 : w.cell? ⟨G3, 0, none⟩ = some (.slice Q n cap)) (b5 : w.cell? ⟨G5, 0, none⟩ = some (.slice (some ⟨gr, 0, none⟩) m cR))
    (hq : Rd w B Q n (bVs q)) (hquo : Row w gq 5 (bVs quo)) (hql : quo.length = nq) (hrem : OwnB w base (some ⟨gr, 0, none⟩) m cR rem)
    (ha : a < nq) (han : a + n ≤ m) (hm : m ≤ 140737488355328) (hn : n ≤ 140737488355328) (hBq : B ≤ gq) (hBr : B ≤ gr)
    (n1 : G3 ≠ gq) (n2 : G5 ≠ gq) (n3 : gr ≠ gq) (n4 : G5 ≠ gr) (n5 : G3 ≠ gr) (n6 : G4 ≠ gq) (hgr : gr < w.heap.size) (hcapn : n ≤ cap) :
    Calls Try.prog 55 #[.int .u8 (c.toNat : Int), .int .i64 (a : Int), .pointer (some ⟨G4, 0, none⟩), .pointer (some ⟨G3, 0, none⟩), .pointer (some ⟨G5, 0, none⟩)] w fun e w' =>
      e = .returned (.tuple #[]) ∧ Row w' gq 5 (bVs (quo.set a c)) ∧ OwnB w' base (some ⟨gr, 0, none⟩) m cR (offTo rem q a c n) ∧ (∀ k, k < w.heap.size → k ≠ gq → k ≠ gr → w'.heap[k]? = w.heap[k]?) ∧ Below B w w' := by
  obtain ⟨old, hold⟩ := hquo.has (i := a) (by rw [bVs_length]; omega)
  have hfz := hquo.frozen a
  have hlq : q.length = n := by have := hq.len; rw [bVs_length] at this; exact this
  have hlr : rem.length = m := hrem.1
  obtain ⟨w1, hw1⟩ : ∃ w1, w1 = w.setCell ⟨gq, a, none⟩ (.int .u8 (c.toNat : Int)) := ⟨_, rfl⟩
  have hsz : w1.heap.size = w.heap.size := by rw [hw1]; simp
  have hk1 : ∀ k, k ≠ gq → w1.heap[k]? = w.heap[k]? := fun k hk => by rw [hw1]; exact Below.heap_setCell w _ _ k hk
  have hB1 : Below B w w1 := by rw [hw1]; exact (Below.refl _ _).setCell hBq _
  have HROW := Lib.hid (show Row w1 gq 5 (bVs (quo.set a c)) by rw [hw1, ← bVs_set]; exact hquo.set a _)
  have b31 : w1.cell? ⟨G3, 0, none⟩ = some (.slice Q n cap) := (World.cell?_of_block (w := w) (w' := w1) (a := ⟨G3, 0, none⟩) (hk1 G3 n1)).trans b3
  have b51 := (World.cell?_of_block (w := w) (w' := w1) (a := ⟨G5, 0, none⟩) (hk1 G5 n2)).trans b5
  have HREM := Lib.hid (hrem.keep (w' := w1) (fun g hA => by injection hA with h; injection h with h; rw [← h]; exact hk1 gr n3))
  have hq1 : Rd w1 w1.heap.size Q n (bVs q) := (hq.below hB1 (Nat.le_refl _)).more (by omega)
  have HSC := Lib.hid (scale_calls c Q n cap q w1 hq1 hn)
  have HB1 := Lib.hid hB1
  have HK1 := Lib.hid hk1
  have HLQ := Lib.hid hlq
  have HLR := Lib.hid hlr
  have HW := Lib.hid hw1
  clear hB1 hk1 hq1 hq hrem hquo hlq hlr hql
  go_enter Try.func55, Try.ntmps55
  go_wp2_with fail
  rw [← HW.out]
  go_wp2_with fail
  refine HSC.out.mono ?_
  rintro e w2 ⟨S, cS, rfl, ho, hb⟩
  have HRS := Lib.hid ho
  have hs2 := hb.size
  have HK2 := Lib.hid hb.block
  have HB2 := Lib.hid (HB1.out.trans (hb.mono (by omega)))
  have HREM2 := Lib.hid (HREM.out.below hb (Nat.le_refl _))
  have HROW2 := Lib.hid (HROW.out.below hb HROW.out.lt)
  have b52 : w2.cell? ⟨G5, 0, none⟩ = _ := (World.cell?_of_block (w := w1) (w' := w2) (a := ⟨G5, 0, none⟩) (hb.block G5 (World.block_lt_of_cell? w1 _ b51))).trans b51
  have HL5 := Lib.hid (World.block_lt_of_cell? w1 _ b51)
  have HSB := Lib.hid (show ∀ g', S = some ⟨g', 0, none⟩ → w1.heap.size ≤ g' ∧ g' < w2.heap.size by
    intro g' e
    subst e
    exact ho.row g' rfl)
  clear ho hb b31 b51 b3 b4 b5
  go_wp2_with fail
  go_loopw [7, 8, 17] (fun v7 v8 v17 wr => ∃ i : Nat, i ≤ n ∧ v17 = .int .i64 (i : Int) ∧ OwnB wr base (some ⟨gr, 0, none⟩) m cR (offTo rem q a c i) ∧ w2.grownBy wr (some gr)) (fun _ _ v17 _ => n - (intOf v17).toNat)
  case atStart => exact ⟨0, by omega, rfl, by rw [offTo_zero]; exact HREM2.out, World.grownBy.refl _ _⟩
  case round =>
    obtain ⟨i, hi, rfl, ho, hg⟩ := hrel
    by_cases hlt : i < n
    · obtain ⟨g2, rfl, hg2, hg3, hcell, _⟩ := HRS.out.at_ hlt
      have hS := HSB.out g2 rfl
      have hne : g2 ≠ gr := by omega
      have hc3 := (World.cell?_of_block (w := w2) (w' := wr) (a := ⟨g2, i, none⟩) (hg.block g2 hg3 (fun e => hne (by injection e)))).trans hcell
      have hc5 := (World.cell?_of_block (w := w2) (w' := wr) (a := ⟨G5, 0, none⟩) (hg.block G5 (by have := HL5.out; omega) (fun e => n4 (by injection e)))).trans b52
      obtain ⟨z, hz⟩ : ∃ z, z = (q.map (Gf.mul c)).getD i 0 := ⟨_, rfl⟩
      rw [← hz] at hc3
      have hz2 : z = Gf.mul c (q.getD i 0) := by rw [hz]; exact scale_get _ _ _ (by rw [HLQ.out]; exact hlt)
      have HS := Lib.hid (offTo_set (rem := rem) (q := q) (a := a) (c := c) (n := i) (by rw [HLR.out]; omega))
      rw [← hz2] at HS
      obtain ⟨g6, hg6, _, _, hcr, hfr⟩ := ho.at_ (i := a + i) (by omega)
      obtain rfl : gr = g6 := by injection hg6 with h; injection h
      obtain ⟨y, hy⟩ : ∃ y, y = (offTo rem q a c i).getD (a + i) 0 := ⟨_, rfl⟩
      rw [← hy] at hcr HS
      have hxr := bxor_u8 y z
      have k0 : (0 : Int) ≤ (a : Int) + (i : Int) := by omega
      have k1 : (a : Int) + (i : Int) < (m : Int) := by omega
      have k2 : IntKind.i64.wrap ((a : Int) + (i : Int)) = (a : Int) + (i : Int) := by rw [IntKind.wrap_i64]; omega
      have k3 : ((a : Int) + (i : Int)).toNat = a + i := by omega
      have j0 : (0 : Int) ≤ (i : Int) := by omega
      have j1 : (i : Int) < (n : Int) := by omega
      have HO := Lib.hid ho
      have HG := Lib.hid hg
      clear hz hz2 hy hcell ho hg hg6 hS hg2 hg3
      go_wp2_with fail
      go_roundw
      case rel => exact ⟨i + 1, by omega, by go_num, by rw [← HS.out]; exact HO.out.store _ _, grown_setCell HG.out (.inl rfl) _⟩
      case measure => simp [intOf]; omega
    · obtain rfl : i = n := by omega
      have HO := Lib.hid ho
      have HG := Lib.hid hg
      clear ho hg
      go_wp2_with fail
      go_end0
      refine ⟨rfl, HROW2.out.of_block (HG.out.block gq HROW2.out.lt (fun e => n3 (by injection e with e; exact e.symm))), HO.out, fun k hk h1 h2 => ?_, ?_⟩
      · exact ((HG.out.block k (by omega) (fun e => h2 (by injection e))).trans (HK2.out k (by omega))).trans (HK1.out k h1)
      · have hb2 := HB2.out
        exact hb2.trans (grown_below HG.out (by have := hb2.size; omega) (fun k hk => by injection hk with hk; omega)) 
end Go.Proofs.Ytaihgckcmcacfaa
namespace Go.Proofs.Ytaihgckcmcacfaa
open Go.RowKit
set_option linter.unusedVariables false
set_option linter.unusedSimpArgs false

set_option maxHeartbeats 400000 in
theorem sclone_own (A : Option Addr) (n cap : Nat) (xs : List UInt8) (w : World) (hr : Rd w w.heap.size A n (bVs xs)) (hn : n ≤ 140737488355328) :
    Calls Try.prog 37 #[.slice A n cap] w fun e w' => ∃ A' cap', e = .returned (.slice A' n cap') ∧ OwnB w' w.heap.size A' n cap' xs ∧ Below w.heap.size w w' := by
  cases A with
  | none =>
    have h0 : n = 0 := by
      rcases Nat.eq_zero_or_pos n with h | h
      · exact h
      · obtain ⟨g, o, h, _⟩ := hr.2 h; cases h
    subst h0
    have hx : xs = [] := by have := hr.len; rw [bVs_length] at this; exact List.eq_nil_of_length_eq_zero this
    subst hx
    have heq := fun w : World => Lib.run_eql_slice_nil (P := Try.prog) w 22 5 none 0 cap 0 0 Try.underlying22
    go_enter Try.func37, Try.ntmps37
    go_wp2_with fail
    go_ret
    exact ⟨none, 0, rfl, ⟨rfl, rfl, .inl ⟨rfl, rfl⟩⟩, Below.refl _ _⟩
  | some ad =>
    have heq := fun w : World => Lib.run_eql_slice_nil (P := Try.prog) w 22 5 (some ad) n cap 0 0 Try.underlying22
    go_enter Try.func37, Try.ntmps37
    go_wp2_with (at_builtin; refine wpList_append_rd (.tmp 5) (.tmp 6) rfl rfl w.heap.size _ [] xs rfl (own_empty w _ (Nat.le_refl _) _ rfl) w.heap.size (some ad) n cap rfl (hr.below ((Below.refl _ _).alloc (Nat.le_refl _) _) (Nat.le_refl _)) (by simpa using hn) (by simp) ?_; intro v1 w1 ho1 hg1 hat1)
    go_ret
    obtain ⟨A', cap', e, ho'⟩ := ho1.slice' (n := n) (by have := hr.len; rw [bVs_length] at this; simpa using this)
    exact ⟨A', cap', by rw [e]; rfl, by simpa using ho', ((Below.refl _ _).alloc (Nat.le_refl _) _).trans (grown_below hg1 (by simp) (fun k hk => Nat.le_of_eq (Option.some.inj hk)))⟩
end Go.Proofs.Ytaihgckcmcacfaa
namespace Go.Proofs.Ytaihgckcmcacfaa
open Go.RowKit Go.Proofs.YtaihgckcmcacfaaW.PrintWords
set_option linter.unusedVariables false
set_option linter.unusedSimpArgs false

theorem trim_calls (A : Option Addr) (n cap : Nat) (xs : List UInt8) (w : World) (hr : Rd w w.heap.size A n (bVs xs)) (hcap : n ≤ cap) (hn : n ≤ 140737488355328) :
    Calls Try.prog 14 #[.slice A n cap] w fun e w' => ∃ A' cap', e = .returned (.slice A' (trimE xs) cap') ∧ OwnB w' w.heap.size A' (trimE xs) cap' (trimL xs) ∧ Below w.heap.size w w' := by
  have hl : xs.length = n := by have := hr.len; rw [bVs_length] at this; exact this
  have hle := trimE_le xs
  have HT := Lib.hid (fun w h => trimmed_calls A n cap xs w h hcap hn)
  have HC := Lib.hid (fun w h => sclone_own A (trimE xs) cap (trimL xs) w h (by omega))
  have HR := Lib.hid hr
  clear hr
  go_enter Try.func14, Try.ntmps14
  go_wp2_with fail
  refine (HT.out _ HR.out).mono ?_
  rintro e w' ⟨rfl, rfl⟩
  go_wp2_with fail
  refine (HC.out _ (rd_trim HR.out)).mono ?_
  rintro e w' ⟨A', cap', rfl, ho, hb⟩
  go_wp2_with fail
  go_ret
  exact ⟨A', cap', rfl, ho, hb⟩
theorem degree_calls (A : Option Addr) (n cap : Nat) (xs : List UInt8) (w : World) (hr : Rd w w.heap.size A n (bVs xs)) (hcap : n ≤ cap) (hn : n ≤ 140737488355328) :
    Calls Try.prog 16 #[.slice A n cap] w fun e w' => e = .returned (.int .i64 ((trimE xs : Int) - 1)) ∧ w = w' := by
  have hl : xs.length = n := by have := hr.len; rw [bVs_length] at this; exact this
  have hle := trimE_le xs
  have hb : trimE xs ≤ 140737488355328 := by omega
  have HT := Lib.hid (trimmed_calls A n cap xs w hr hcap hn)
  go_enter Try.func16, Try.ntmps16
  go_wp2_with fail
  refine HT.out.mono ?_
  rintro e w' ⟨rfl, rfl⟩
  go_wp2_with fail
  go_ret
  exact ⟨rfl, rfl⟩
def poly_Trim.f (l : List Int) : Option (List Int) := if (inU l && decide (l.length ≤ 140737488355328)) = true then some (nI (trimL (l.map toU))) else none
theorem poly_Trim.calls (A0 : Option Addr) (c0 : Nat) (l0 : List Int) (r : List Int) (w : World) (hr0 : Kd.C (Kd.int .u8) w A0 l0.length l0) (hc0 : l0.length ≤ c0) (h : poly_Trim.f l0 = some r) :
    Calls Try.prog 14 #[.slice A0 l0.length c0] w fun e w' => ∃ v0_ : Value, e = .returned (v0_) ∧ Kd.R (Kd.int .u8) 5 w' w.heap.size (fun _ => True) v0_ r ∧ Below w.heap.size w w' := by
  unfold poly_Trim.f at h
  split at h
  · rename_i hi
    simp only [Bool.and_eq_true, decide_eq_true_eq] at hi
    obtain rfl := Option.some.inj h
    obtain ⟨xs, rfl⟩ := ints_of hi.1
    rw [nI_length] at hi hc0 ⊢
    rw [nI_toU]
    refine (trim_calls A0 xs.length c0 xs w (rd_of_C hr0) hc0 hi.2).mono ?_
    rintro e w' ⟨A', cap', rfl, ho, hb⟩
    exact ⟨_, rfl, R_of_own ho, hb⟩
  · cases h
def poly_Degree.f (l : List Int) : Option Int := if (inU l && decide (l.length ≤ 140737488355328)) = true then some ((trimE (l.map toU) : Int) - 1) else none
theorem poly_Degree.calls (A0 : Option Addr) (c0 : Nat) (l0 : List Int) (r : Int) (w : World) (hr0 : Kd.C (Kd.int .u8) w A0 l0.length l0) (hc0 : l0.length ≤ c0) (h : poly_Degree.f l0 = some r) :
    Calls Try.prog 16 #[.slice A0 l0.length c0] w fun e w' => e = .returned (.int .i64 r) ∧ Drawn0 w w' := by
  unfold poly_Degree.f at h
  split at h
  · rename_i hi
    simp only [Bool.and_eq_true, decide_eq_true_eq] at hi
    obtain rfl := Option.some.inj h
    obtain ⟨xs, rfl⟩ := ints_of hi.1
    rw [nI_length] at hi hc0 ⊢
    rw [nI_toU]
    refine (degree_calls A0 xs.length c0 xs w (rd_of_C hr0) hc0 hi.2).mono ?_
    rintro e w' ⟨rfl, rfl⟩
    exact ⟨rfl, 0, rfl⟩
  · cases h
end Go.Proofs.Ytaihgckcmcacfaa
namespace Go.Proofs.Ytaihgckcmcacfaa
open Go.RowKit Go.Proofs.YtaihgckcmcacfaaW.PrintWords
set_option linter.unusedVariables false
set_option linter.unusedSimpArgs false

theorem OwnB.le {w : World} {base n cap : Nat} {A : Option Addr} {xs : List UInt8} (h : OwnB w base A n cap xs) : n ≤ cap := by
  rcases h.2.2 with ⟨h1, h2⟩ | ⟨g, c, cur, hv, hg, hh, h3, _⟩
  · omega
  · simp only [Value.slice.injEq] at hv
    obtain ⟨_, _, rfl⟩ := hv
    exact h3
theorem mulL_len (xs ys : List UInt8) : (mulL xs ys).length ≤ xs.length + ys.length := by
  have := trimE_le xs
  have := trimE_le ys
  unfold mulL
  split
  · simp
  · rw [convT_length]; omega
theorem mulL_len2 (xs ys : List UInt8) : (mulL xs ys).length ≤ trimE xs + trimE ys := by
  unfold mulL
  split
  · simp
  · rw [convT_length]; omega
def mulE (xs ys : List UInt8) : Int := if longB xs || longB ys || longB (mulL xs ys) then 4 else 0
def mulP (xs ys : List UInt8) : List UInt8 := if longB xs || longB ys || longB (mulL xs ys) then [] else mulL xs ys
set_option maxRecDepth 100000 in
set_option maxHeartbeats 1600000 in
theorem Pmul_calls (A B : Option Addr) (n m c d : Nat) (xs ys : List UInt8) (w : World) (ha : Rd w w.heap.size A n (bVs xs)) (hb : Rd w w.heap.size B m (bVs ys)) (h1 : n ≤ c) (h2 : m ≤ d) (hn : n ≤ 140737488355328) (hm : m ≤ 140737488355328) :
    Calls Try.prog 21 #[.slice A n c, .slice B m d] w fun e w' => ∃ A' k cap, e = .returned (.tuple #[.slice A' k cap, .int .i64 (mulE xs ys)]) ∧ OwnB w' w.heap.size A' k cap (mulP xs ys) ∧ Below w.heap.size w w' := by
  have hxl : xs.length = n := by have := ha.len; rw [bVs_length] at this; exact this
  have hyl : ys.length = m := by have := hb.len; rw [bVs_length] at this; exact this
  have hB : Below w.heap.size w (w.alloc (.cells #[.slice A n c, .slice B m d] 22)) := (Below.refl _ _).alloc (Nat.le_refl _) _
  have HL := Lib.hid (long_calls w.heap.size 2 2 _ _ (lists_two w 22 ha hb h1 h2 (by omega) (by omega)) (by omega))
  rw [anyB_two] at HL
  have HM := Lib.hid (pmul_calls A B n m c d xs ys _ (ha.go hB) (hb.go hB) h1 h2 (by omega) (by omega))
  have HB := Lib.hid hB
  clear hB ha hb hxl hyl
  unfold mulE mulP
  cases hc : (longB xs || longB ys)
  · rw [hc] at HL
    have HLEN := Lib.hid (show (mulL xs ys).length ≤ 140737488355328 by
      rw [Bool.or_eq_false_iff] at hc
      have a1 := of_decide_eq_false hc.1
      have a2 := of_decide_eq_false hc.2
      exact Nat.le_trans (mulL_len2 xs ys) (by omega))
    clear hc
    cases hl : longB (mulL xs ys)
    · have HLM := Lib.hid hl
      clear hl
      simp only [Bool.false_or, Bool.false_eq_true, if_false]
      go_enter Try.func21, Try.ntmps21
      go_wp2_with fail
      refine HL.out.mono ?_
      rintro e w' ⟨rfl, rfl⟩
      go_wp2_with fail
      refine HM.out.mono ?_
      rintro e w1 ⟨A', k, cap, rfl, ho, hb⟩
      have hkl : (mulL xs ys).length = k := ho.1
      have hkc : k ≤ cap := ho.le
      have HL2 := Lib.hid (long_calls w1.heap.size 1 1 _ _ (lists_one w1 22 (c := cap) ho.rd hkc (by have := HLEN.out; omega)) (by omega))
      rw [anyB_one, HLM.out] at HL2
      have hB2 : Below w1.heap.size w1 (w1.alloc (.cells #[.slice A' k cap] 22)) := (Below.refl _ _).alloc (Nat.le_refl _) _
      have HO := Lib.hid ((ho.below hB2 (Nat.le_refl _)).mono (show w.heap.size ≤ (w.alloc (.cells #[.slice A n c, .slice B m d] 22)).heap.size by simp))
      have hbig : Below w.heap.size w w1 := HB.out.trans (hb.mono (by simp))
      have HBB := Lib.hid (hbig.trans (hB2.mono hbig.size))
      clear ho hb hB2 hkl hkc hbig
      go_wp2_with fail
      refine HL2.out.mono ?_
      rintro e w' ⟨rfl, rfl⟩
      go_wp2_with fail
      go_ret2
      exact ⟨A', k, cap, rfl, HO.out, HBB.out⟩
    · have HLM := Lib.hid hl
      clear hl
      simp only [Bool.false_or, if_true]
      go_enter Try.func21, Try.ntmps21
      go_wp2_with fail
      refine HL.out.mono ?_
      rintro e w' ⟨rfl, rfl⟩
      go_wp2_with fail
      refine HM.out.mono ?_
      rintro e w1 ⟨A', k, cap, rfl, ho, hb⟩
      have hkl : (mulL xs ys).length = k := ho.1
      have hkc : k ≤ cap := ho.le
      have HL2 := Lib.hid (long_calls w1.heap.size 1 1 _ _ (lists_one w1 22 (c := cap) ho.rd hkc (by have := HLEN.out; omega)) (by omega))
      rw [anyB_one, HLM.out] at HL2
      have hB2 : Below w1.heap.size w1 (w1.alloc (.cells #[.slice A' k cap] 22)) := (Below.refl _ _).alloc (Nat.le_refl _) _
      have HO := Lib.hid ((ho.below hB2 (Nat.le_refl _)).mono (show w.heap.size ≤ (w.alloc (.cells #[.slice A n c, .slice B m d] 22)).heap.size by simp))
      have hbig : Below w.heap.size w w1 := HB.out.trans (hb.mono (by simp))
      have HBB := Lib.hid (hbig.trans (hB2.mono hbig.size))
      clear ho hb hB2 hkl hkc hbig
      go_wp2_with fail
      refine HL2.out.mono ?_
      rintro e w' ⟨rfl, rfl⟩
      go_wp2_with fail
      go_ret2
      exact ⟨none, 0, 0, rfl, ⟨rfl, rfl, .inl ⟨rfl, rfl⟩⟩, HBB.out⟩
  · rw [hc] at HL
    clear hc
    simp only [Bool.true_or, if_true]
    go_enter Try.func21, Try.ntmps21
    go_wp2_with fail
    refine HL.out.mono ?_
    rintro e w' ⟨rfl, rfl⟩
    go_wp2_with fail
    go_ret2
    exact ⟨none, 0, 0, rfl, ⟨rfl, rfl, .inl ⟨rfl, rfl⟩⟩, HB.out⟩
def poly_mul.f (l m : List Int) : Option (List Int) := if (inU l && inU m && (decide (l.length ≤ 140737488355328) && decide (m.length ≤ 140737488355328))) = true then some (nI (mulL (l.map toU) (m.map toU))) else none
theorem poly_mul.calls (A0 : Option Addr) (c0 : Nat) (l0 : List Int) (A1 : Option Addr) (c1 : Nat) (l1 : List Int) (r : List Int) (w : World) (hr0 : Kd.C (Kd.int .u8) w A0 l0.length l0) (hc0 : l0.length ≤ c0) (hr1 : Kd.C (Kd.int .u8) w A1 l1.length l1) (hc1 : l1.length ≤ c1) (h : poly_mul.f l0 l1 = some r) :
    Calls Try.prog 44 #[.slice A0 l0.length c0, .slice A1 l1.length c1] w fun e w' => ∃ v0_ : Value, e = .returned (v0_) ∧ Kd.R (Kd.int .u8) 5 w' w.heap.size (fun _ => True) v0_ r ∧ Below w.heap.size w w' := by
  unfold poly_mul.f at h
  split at h
  · rename_i hi
    simp only [Bool.and_eq_true, decide_eq_true_eq] at hi
    obtain rfl := Option.some.inj h
    obtain ⟨xs, rfl⟩ := ints_of hi.1.1
    obtain ⟨ys, rfl⟩ := ints_of hi.1.2
    simp only [nI_length, nI_toU] at hi hc0 hc1 ⊢
    refine (pmul_calls A0 A1 xs.length ys.length c0 c1 xs ys w (rd_of_C hr0) (rd_of_C hr1) hc0 hc1 hi.2.1 hi.2.2).mono ?_
    rintro e w' ⟨A', k, cap, rfl, ho, hb⟩
    exact ⟨_, rfl, R_of_own ho, hb⟩
  · cases h
def poly_Mul.f (l m : List Int) : Option (List Int × Int) := if (inU l && inU m && (decide (l.length ≤ 140737488355328) && decide (m.length ≤ 140737488355328))) = true then some (nI (mulP (l.map toU) (m.map toU)), mulE (l.map toU) (m.map toU)) else none
theorem poly_Mul.calls (A0 : Option Addr) (c0 : Nat) (l0 : List Int) (A1 : Option Addr) (c1 : Nat) (l1 : List Int) (r1 : List Int) (r2 : Int) (w : World) (hr0 : Kd.C (Kd.int .u8) w A0 l0.length l0) (hc0 : l0.length ≤ c0) (hr1 : Kd.C (Kd.int .u8) w A1 l1.length l1) (hc1 : l1.length ≤ c1) (h : poly_Mul.f l0 l1 = some (r1, r2)) :
    Calls Try.prog 21 #[.slice A0 l0.length c0, .slice A1 l1.length c1] w fun e w' => ∃ v0_ : Value, e = .returned (.tuple #[v0_, .int .i64 r2]) ∧ Kd.R (Kd.int .u8) 5 w' w.heap.size (fun _ => True) v0_ r1 ∧ Below w.heap.size w w' := by
  unfold poly_Mul.f at h
  split at h
  · rename_i hi
    simp only [Bool.and_eq_true, decide_eq_true_eq] at hi
    simp only [Option.some.injEq, Prod.mk.injEq] at h
    obtain ⟨rfl, rfl⟩ := h
    obtain ⟨xs, rfl⟩ := ints_of hi.1.1
    obtain ⟨ys, rfl⟩ := ints_of hi.1.2
    simp only [nI_length, nI_toU] at hi hc0 hc1 ⊢
    refine (Pmul_calls A0 A1 xs.length ys.length c0 c1 xs ys w (rd_of_C hr0) (rd_of_C hr1) hc0 hc1 hi.2.1 hi.2.2).mono ?_
    rintro e w' ⟨A', k, cap, rfl, ho, hb⟩
    exact ⟨_, rfl, R_of_own ho, hb⟩
  · cases h
end Go.Proofs.Ytaihgckcmcacfaa
namespace Go.Proofs.Ytaihgckcmcacfaa
open Go.RowKit
set_option linter.unusedVariables false
set_option linter.unusedSimpArgs false

set_option maxHeartbeats 400000 in
theorem mul_calls (a b : UInt8) (w : World) :
    Calls Try.prog 39 #[.int .u8 (a.toNat : Int), .int .u8 (b.toNat : Int)] w fun e w' => e = .returned (.int .u8 ((Gf.mul a b).toNat : Int)) ∧ w = w' := by
  go_enter Try.func39, Try.ntmps39
  go_wp2_with fail
  go_loop [0, 1, 5] (fun v0 v1 v5 => ∃ (n : Nat) (x y p : UInt8), v0 = .int .u8 (x.toNat : Int) ∧ v1 = .int .u8 (y.toNat : Int) ∧ v5 = .int .u8 (p.toNat : Int) ∧ Hid (Gf.mulTo n x y p = Gf.mul a b ∧ y.toNat < 2 ^ n)) (fun _ v1 _ => (intOf v1).toNat)
  case atStart => exact ⟨8, a, b, 0, rfl, rfl, rfl, rfl, b.toNat_lt⟩
  case round =>
    obtain ⟨n, x, y, p, rfl, rfl, rfl, H⟩ := hrel
    by_cases hy : y = 0
    · have hy1 : ((y.toNat : Int) != 0) = false := by show (!((y.toNat : Int) == 0)) = false; rw [u8_eq_zero, hy]; rfl
      have HY := Lib.hid hy
      clear hy
      go_wp2_with fail
      go_ret
      obtain ⟨H1, _⟩ := H.out
      rw [HY.out, Gf.mulTo_zero] at H1
      exact ⟨ret_u8 (by rw [H1]), rfl⟩
    · have hy1 : ((y.toNat : Int) != 0) = true := by show (!((y.toNat : Int) == 0)) = true; rw [u8_eq_zero, decide_eq_false hy]; rfl
      have hpos : 0 < y.toNat := Nat.pos_of_ne_zero (fun h => hy ((toNat_zero y).1 h))
      have hs := shr_one_u8 y
      obtain ⟨m, rfl⟩ : ∃ m, n = m + 1 := by
        cases n with
        | zero => exact absurd H.out.2 (by simp; omega)
        | succ m => exact ⟨m, rfl⟩
      have HS := Lib.hid hs
      clear hs
      by_cases h1 : y &&& 1 = 0
      · have hb : (bits .and .u8 (y.toNat : Int) 1 != 0) = false := by rw [and_one_u8, h1]; rfl
        have H1 := Lib.hid h1
        clear h1 hy
        go_wp2_with (go_at_call 52; refine (double_calls _ _).mono ?_; rintro e w' ⟨rfl, rfl⟩)
        go_round
        case rel =>
          refine ⟨m, Gf.dbl x, y >>> 1, p, rfl, by rw [HS.out], rfl, ?_, ?_⟩
          · have h := H.out.1
            simp only [Gf.mulTo, H1.out, if_true] at h
            exact h
          · have h := H.out.2
            rw [u8_shr1]
            omega
        case measure => simp [intOf]; omega
      · have hb : (bits .and .u8 (y.toNat : Int) 1 != 0) = true := by rw [and_one_u8, decide_eq_false h1]; rfl
        have H1 := Lib.hid h1
        clear h1 hy
        go_wp2_with (go_at_call 52; refine (double_calls _ _).mono ?_; rintro e w' ⟨rfl, rfl⟩)
        go_round
        case rel =>
          refine ⟨m, Gf.dbl x, y >>> 1, Gf.add p x, rfl, by rw [HS.out], by rw [bxor_u8], ?_, ?_⟩
          · have h := H.out.1
            simp only [Gf.mulTo] at h
            rw [if_neg H1.out] at h
            exact h
          · have h := H.out.2
            rw [u8_shr1]
            omega
        case measure => simp [intOf]; omega

end Go.Proofs.Ytaihgckcmcacfaa
namespace Go.Proofs.Ytaihgckcmcacfaa
open Go.RowKit
set_option linter.unusedVariables false
set_option linter.unusedSimpArgs false

def atM (b : Nat) (v : Value) : Nat := match v with | .int _ z => z.toNat | _ => b
theorem OwnB.take {w : World} {base n cap k : Nat} {A : Option Addr} {xs : List UInt8} (h : OwnB w base A n cap xs) (hk : k ≤ n) : OwnB w base A k cap (xs.take k) := by
  have hl := h.1
  refine ⟨by rw [List.length_take]; omega, ?_⟩
  obtain ⟨hl2, h2⟩ := h.2
  refine ⟨by rw [bVs_length, List.length_take]; omega, ?_⟩
  rcases h2 with ⟨hv, h0⟩ | ⟨g, c, cur, hv, hg, hh, h1, h3, h4, h5⟩
  · simp only [Value.slice.injEq] at hv
    obtain ⟨rfl, rfl, rfl⟩ := hv
    obtain rfl : k = 0 := by omega
    exact .inl ⟨rfl, rfl⟩
  · simp only [Value.slice.injEq] at hv
    obtain ⟨rfl, _, rfl⟩ := hv
    exact .inr ⟨g, cap, cur, rfl, hg, hh, by omega, h3, h4, by rw [← bVs_take, ← h5, List.take_take]; congr 1; omega⟩

theorem zero_list : (Try.prog.info? 22).map (fun i => (i.zero, i.size)) = some (some (.slice none 0 0), 1) := by kernel_rfl
open Go.Proofs.YtaihgckcmcacfaaW.PrintWords Go.Proofs.YtaihgckcmcacfaaW.PrintMore in
theorem max2_mx (k k' : IntKind) (x y : Int) : Builtin.max2 (.int k x) (.int k' y) = pure (.int k (mx x y)) := Go.Proofs.YtaihgckcmcacfaaW.PrintMore.max2_int k k' x y
attribute [local go_sem high] max2_mx Go.Proofs.YtaihgckcmcacfaaW.PrintMore.max_two
open Go.Proofs.YtaihgckcmcacfaaW.PrintWords Go.Proofs.YtaihgckcmcacfaaW.PrintMore in
set_option maxRecDepth 100000 in
set_option maxHeartbeats 3200000 in
theorem divmod_calls (A B : Option Addr) (n m c d : Nat) (p q : List UInt8) (w : World) (hp : Rd w w.heap.size A n (bVs p)) (hq : Rd w w.heap.size B m (bVs q)) (h1 : n ≤ c) (h2 : m ≤ d) (hn : n ≤ 140737488355328) (hm : m ≤ 140737488355328) (h0 : 0 < trimE q) :
    Calls Try.prog 46 #[.slice A n c, .slice B m d] w fun e w' => ∃ A1 k1 c1 A2 k2 c2, e = .returned (.tuple #[.slice A1 k1 c1, .slice A2 k2 c2]) ∧
      OwnB w' w.heap.size A1 k1 c1 (trimL (divG (trimL q) (Gf.inv (q.getD (trimE q - 1) 0)) (trimE p) (List.replicate (trimE p + 1 - trimE q) 0) (trimL p)).1) ∧
      OwnB w' w.heap.size A2 k2 c2 (divG (trimL q) (Gf.inv (q.getD (trimE q - 1) 0)) (trimE p) (List.replicate (trimE p + 1 - trimE q) 0) (trimL p)).2 ∧ Below w.heap.size w w' ∧ Apart A1 A2 := by
  have hpl : p.length = n := by have := hp.len; rw [bVs_length] at this; exact this
  have hql : q.length = m := by have := hq.len; rw [bVs_length] at this; exact this
  have tp := trimE_le p
  have tq := trimE_le q
  obtain ⟨lq, hlq⟩ : ∃ x, x = trimE q := ⟨_, rfl⟩
  obtain ⟨lp, hlp⟩ : ∃ x, x = trimE p := ⟨_, rfl⟩
  obtain ⟨hzv, hsz⟩ := zero_of_info zero_list
  obtain ⟨W, hW⟩ : ∃ W, W = ((w.alloc (.cells #[.slice B m d] 22)).alloc (.cells #[.slice none 0 0] 22)).alloc (.cells #[.slice none 0 0] 22) := ⟨_, rfl⟩
  have hB0 : Below w.heap.size w W := by rw [hW]; exact (((Below.refl _ _).alloc (Nat.le_refl _) _).alloc (by simp) _).alloc (by simp; omega) _
  have HT := Lib.hid (trimmed_calls B m d q W (hq.go hB0) h2 hm)
  have HWW := Lib.hid hW
  obtain ⟨G3, hG3⟩ : ∃ G, G = w.heap.size := ⟨_, rfl⟩
  obtain ⟨G4, hG4⟩ : ∃ G, G = w.heap.size + 1 := ⟨_, rfl⟩
  obtain ⟨G5, hG5⟩ : ∃ G, G = w.heap.size + 1 + 1 := ⟨_, rfl⟩
  have hWs : W.heap.size = G5 + 1 := by rw [hW, hG5]; simp
  have R3 : Row W G3 22 [.slice B m d] := by rw [hW, hG3]; exact ((Row.new w [.slice B m d] _).alloc _).alloc _
  have R4 : Row W G4 22 [.slice none 0 0] := by
    rw [hW, show G4 = (w.alloc (.cells #[.slice B m d] 22)).heap.size by rw [hG4]; simp]
    exact (Row.new _ [.slice none 0 0] _).alloc _
  have R5 : Row W G5 22 [.slice none 0 0] := by
    rw [hW, show G5 = ((w.alloc (.cells #[.slice B m d] 22)).alloc (.cells #[.slice none 0 0] 22)).heap.size by rw [hG5]; simp]
    exact Row.new _ [.slice none 0 0] _
  have n34 : G3 ≠ G4 := by omega
  have n35 : G3 ≠ G5 := by omega
  have n45 : G4 ≠ G5 := by omega
  have HG3 := Lib.hid hG3
  have HG4 := Lib.hid hG4
  have HG5 := Lib.hid hG5
  have HS := Lib.hid hWs
  have HB0 := Lib.hid hB0
  have HP := Lib.hid hp
  have HQ := Lib.hid hq
  rw [← hlq] at HT
  obtain ⟨W1, hW1⟩ : ∃ W1, W1 = W.setCell ⟨G3, 0, none⟩ (.slice B lq d) := ⟨_, rfl⟩
  have r3 : Row W1 G3 22 [.slice B lq d] := by rw [hW1]; exact R3.set 0 _
  have r4 : Row W1 G4 22 [.slice none 0 0] := by rw [hW1]; exact R4.far (p := ⟨G3, 0, none⟩) n34.symm _
  have r5 : Row W1 G5 22 [.slice none 0 0] := by rw [hW1]; exact R5.far (p := ⟨G3, 0, none⟩) n35.symm _
  have hB1 : Below w.heap.size w W1 := by rw [hW1]; exact hB0.setCell (by show w.heap.size ≤ G3; omega) _
  have HW1 := Lib.hid hW1
  have c3 : W.cell? ⟨G3, 0, none⟩ = some (.slice B m d) := R3.cell 0
  have f3 := R3.frozen 0
  have b3 : W1.cell? ⟨G3, 0, none⟩ = some (.slice B lq d) := r3.cell 0
  obtain ⟨g, o, rfl, hg, hcell⟩ := rd_get hq (k := lq - 1) (by omega)
  have hg3 : g ≠ G3 := by omega
  have hcell : W.cell? ⟨g, o + (lq - 1), none⟩ = _ := (hB0.cell (p := ⟨g, o + (lq - 1), none⟩) hg).trans hcell
  have i0 : (0 : Int) ≤ (lq : Int) - 1 := by omega
  have i1 : (lq : Int) - 1 < (lq : Int) := by omega
  have i2 : IntKind.i64.wrap ((lq : Int) - 1) = (lq : Int) - 1 := by rw [IntKind.wrap_i64]; omega
  have i3 : ((lq : Int) - 1).toNat = lq - 1 := by omega
  have HI := Lib.hid (fun v => inv_calls v W1)
  obtain ⟨L, hL⟩ : ∃ L, L = lp + 1 - lq := ⟨_, rfl⟩
  have j2 : IntKind.i64.wrap ((lp : Int) - (lq : Int)) = (lp : Int) - (lq : Int) := by rw [IntKind.wrap_i64]; omega
  have j3 : IntKind.i64.wrap ((lp : Int) - (lq : Int) + 1) = (lp : Int) - (lq : Int) + 1 := by rw [IntKind.wrap_i64]; omega
  have jm : mx 0 ((lp : Int) - (lq : Int) + 1) = (L : Int) := by unfold mx; split <;> omega
  have hmk := make_bytes L (by omega)
  rw [← hlq, ← hlp, ← hL]
  obtain ⟨x, hx⟩ : ∃ x, x = q.getD (lq - 1) 0 := ⟨_, rfl⟩
  rw [← hx] at hcell ⊢
  have HX := Lib.hid hx
  rw [← hlq] at tq h0
  rw [← hlp] at tp
  have HLQ := Lib.hid hlq
  have HLL := Lib.hid hL
  clear hL
  have HLP := Lib.hid hlp
  have H3 := Lib.hid r3
  have H4 := Lib.hid r4
  have H5 := Lib.hid r5
  have HB1 := Lib.hid hB1
  clear hW hG3 hG4 hG5 hWs hB0 hp hq hB1 hW1 r3 r4 r5 R3 R4 R5 hx hlq hlp
  have hmf : ∀ (fn : Fn) (first cap : Array Value) (w : World), (Instr.makeFunc fn first cap).run Try.prog w = .ok (.func fn first cap) w := fun _ _ _ _ => rfl
  go_enter Try.func46, Try.ntmps46
  go_wp2_with fail
  rw [← HWW.out, ← HG5.out, ← HG4.out, ← HG3.out]
  go_step3
  go_wp2_with fail
  refine HT.out.mono ?_
  rintro e w1 ⟨rfl, rfl⟩
  go_wp2_with fail
  rw [← HW1.out]
  refine (HI.out _).mono ?_
  rintro e W2 ⟨rfl, hb2⟩
  have HB2 := Lib.hid (HB1.out.trans (hb2.mono HB1.out.size))
  have H32 := Lib.hid (H3.out.below hb2 H3.out.lt)
  have H42 := Lib.hid (H4.out.below hb2 H4.out.lt)
  have H52 := Lib.hid (H5.out.below hb2 H5.out.lt)
  have HT2 := Lib.hid (trim_calls A n c p W2 (HP.out.go HB2.out) h1 hn)
  rw [← HLP.out] at HT2
  clear hb2 b3 hcell c3 f3
  go_wp2_with fail
  refine HT2.out.mono ?_
  rintro e W3 ⟨A', cap', rfl, ho, hb3⟩
  have f5 := (H52.out.below hb3 H52.out.lt).frozen 0
  have c5 : W3.cell? ⟨G5, 0, none⟩ = some (.slice none 0 0) := (H52.out.below hb3 H52.out.lt).cell 0
  have b33 : W3.cell? ⟨G3, 0, none⟩ = some (.slice (some ⟨g, o, none⟩) lq d) := (H32.out.below hb3 H32.out.lt).cell 0
  have H33 := H32.out.below hb3 H32.out.lt
  have H43 := H42.out.below hb3 H42.out.lt
  have H53 := H52.out.below hb3 H52.out.lt
  have hl5 := H52.out.lt
  have hs3 := hb3.size
  obtain ⟨W4, hW4⟩ : ∃ W4, W4 = (W3.setCell ⟨G5, 0, none⟩ (.slice A' lp cap')).alloc (Obj.cells (madeCells #[.int .u8 0] L) 5) := ⟨_, rfl⟩
  have K4 : Row W4 G4 22 [.slice none 0 0] := by rw [hW4]; exact (H43.far (p := ⟨G5, 0, none⟩) n45 _).alloc _
  have c4 := K4.cell 0
  have f4 := K4.frozen 0
  rw [hW4] at c4 f4
  obtain ⟨gq, hgq⟩ : ∃ gq, gq = W3.heap.size := ⟨_, rfl⟩
  have hW4s : W4.heap.size = gq + 1 := by rw [hW4, hgq]; simp
  obtain ⟨W5, hW5⟩ : ∃ W5, W5 = W4.setCell ⟨G4, 0, none⟩ (.slice (some ⟨gq, 0, none⟩) L L) := ⟨_, rfl⟩
  have hQ4 : Row W4 gq 5 (bVs (List.replicate L 0)) := by
    have := row_made_bytes (W3.setCell ⟨G5, 0, none⟩ (.slice A' lp cap')) L
    rw [hW4, hgq]
    simpa using this
  have K3 : Row W5 G3 22 [.slice (some ⟨g, o, none⟩) lq d] := by rw [hW5, hW4]; exact ((H33.far (p := ⟨G5, 0, none⟩) n35 _).alloc _).far (p := ⟨G4, 0, none⟩) n34 _
  have K5 : Row W5 G5 22 [.slice A' lp cap'] := by rw [hW5, hW4]; exact ((H53.set 0 _).alloc _).far (p := ⟨G4, 0, none⟩) n45.symm _
  have K4' : Row W5 G4 22 [.slice (some ⟨gq, 0, none⟩) L L] := by rw [hW5]; exact K4.set 0 _
  have KQ : Row W5 gq 5 (bVs (List.replicate L 0)) := by rw [hW5]; exact hQ4.far (p := ⟨G4, 0, none⟩) (by show gq ≠ G4; have := H42.out.lt; omega) _
  have KO : OwnB W5 W2.heap.size A' lp cap' (trimL p) := by
    rw [hW5, hW4]
    exact ((ho.far (p := ⟨G5, 0, none⟩) hl5 _).below ((Below.refl _ _).alloc (Nat.le_refl _) _) (Nat.le_refl _)).far (p := ⟨G4, 0, none⟩) H42.out.lt _
  have KB : Below w.heap.size w W5 := by
    rw [hW5, hW4]
    have hb := HB2.out.trans (hb3.mono HB2.out.size)
    refine ((hb.setCell (p := ⟨G5, 0, none⟩) (by show _ ≤ G5; rw [HG5.out]; omega) _).alloc (by simp; exact hb.size) _).setCell (p := ⟨G4, 0, none⟩) (by show _ ≤ G4; rw [HG4.out]; omega) _
  rw [hW4, hgq] at hW5
  have HW5 := Lib.hid hW5
  have HGQ := Lib.hid hgq
  have HA3 := Lib.hid (show ∀ g', A' = some ⟨g', 0, none⟩ → g' < W3.heap.size by
    intro g' e
    subst e
    exact (ho.row g' rfl).2)
  have HS3 := Lib.hid hs3
  have HK3 := Lib.hid K3
  have HK4 := Lib.hid K4'
  have HK5 := Lib.hid K5
  have HKQ := Lib.hid KQ
  have HKO := Lib.hid KO
  have HKB := Lib.hid KB
  clear ho hb3 hW4 hW5 K3 K4 K4' K5 KQ KO KB hQ4 H33 H43 H53 hs3 hl5 hgq hW4s
  go_wp2_with fail
  rw [← HW5.out]
  clear c4 f4 c5 f5 b33 jm hmk hmf hzv hsz i0 i1 i2 i3 j2 j3
  have HQ5 := Lib.hid (rd_trim HQ.out)
  obtain ⟨Qt, hQt⟩ : ∃ Qt, Qt = trimL q := ⟨_, rfl⟩
  have HQT := Lib.hid hQt
  have hQl : Qt.length = lq := by rw [hQt, trimL_length, HLQ.out]
  have HQL := Lib.hid hQl
  rw [← hQt, ← HLQ.out] at HQ5
  obtain ⟨P, hP⟩ : ∃ P, P = trimL p := ⟨_, rfl⟩
  have HPT := Lib.hid hP
  obtain ⟨over, hov⟩ : ∃ over, over = Gf.inv x := ⟨_, rfl⟩
  have HOV := Lib.hid hov
  obtain ⟨D, hD⟩ : ∃ D, D = divG Qt over lp (List.replicate L 0) P := ⟨_, rfl⟩
  have HD := Lib.hid hD
  rw [← hP] at HKO
  rw [← hov]
  clear hQt hQl hP hov hD
  go_step3
  go_wp2_with fail
  go_loopw [9] (fun v9 wr => ∃ (k m' : Nat) (quo R : List UInt8), Row wr G3 22 [.slice (some ⟨g, o, none⟩) lq d] ∧ Row wr G4 22 [.slice (some ⟨gq, 0, none⟩) L L] ∧ Row wr G5 22 [.slice A' m' cap'] ∧
    Row wr gq 5 (bVs quo) ∧ quo.length = L ∧ OwnB wr W2.heap.size A' m' cap' R ∧ Below w.heap.size w wr ∧ divG Qt over k quo (trimL R) = D ∧ trimE R ≤ k ∧ m' ≤ lp ∧ (v9 = undef ∨ ∃ a : Nat, v9 = .int .i64 (a : Int) ∧ trimE R < a + lq ∧ a ≤ lp)) (fun v9 _ => atM (lp + 1) v9)
  case atStart => exact ⟨lp, lp, List.replicate L 0, P, HK3.out, HK4.out, HK5.out, HKQ.out, by simp, HKO.out, HKB.out, by rw [HD.out, HPT.out, trimL_idem], by rw [HPT.out, trimE_trimL, HLP.out]; exact Nat.le_refl _, Nat.le_refl _, .inl rfl⟩
  case round =>
    obtain ⟨k, m', quo, R, r3, r4, r5, rq, hql2, ho, hB, hdiv, hk, hkl, h9⟩ := hrel
    have hRl : R.length = m' := ho.1
    obtain ⟨t, ht⟩ : ∃ t, t = trimE R := ⟨_, rfl⟩
    have htm : t ≤ m' := by have := trimE_le R; omega
    have hm' : m' ≤ 140737488355328 := by omega
    have HTR := Lib.hid (trimmed_calls A' m' cap' R wr ho.rd ho.le hm')
    rw [← ht] at HTR hk h9
    obtain ⟨wr2, hwr2⟩ : ∃ wr2, wr2 = wr.setCell ⟨G5, 0, none⟩ (.slice A' t cap') := ⟨_, rfl⟩
    have c5 : wr.cell? ⟨G5, 0, none⟩ = some (.slice A' m' cap') := r5.cell 0
    have f5 := r5.frozen 0
    have c3 : wr.cell? ⟨G3, 0, none⟩ = some (.slice (some ⟨g, o, none⟩) lq d) := r3.cell 0
    have s5 : Row wr2 G5 22 [.slice A' t cap'] := by rw [hwr2]; exact r5.set 0 _
    have s3 : Row wr2 G3 22 [.slice (some ⟨g, o, none⟩) lq d] := by rw [hwr2]; exact r3.far (p := ⟨G5, 0, none⟩) n35 _
    have s4 : Row wr2 G4 22 [.slice (some ⟨gq, 0, none⟩) L L] := by rw [hwr2]; exact r4.far (p := ⟨G5, 0, none⟩) n45 _
    have sO : OwnB wr2 W2.heap.size A' t cap' (trimL R) := by
      have h := (ho.far (p := ⟨G5, 0, none⟩) H52.out.lt (.slice A' t cap')).take htm
      rw [← hwr2, ht] at h
      rw [ht]
      exact h
    have q1 : IntKind.i64.wrap ((t : Int) - (lq : Int)) = (t : Int) - (lq : Int) := by rw [IntKind.wrap_i64]; omega
    by_cases hb : t < lq
    · have d1 : decide ((t : Int) - (lq : Int) < 0) = true := decide_eq_true (by omega)
      have HQC := Lib.hid (trimmed_calls (some ⟨gq, 0, none⟩) L L quo)
      have HW2 := Lib.hid hwr2
      have HR3 := Lib.hid s3
      have HR4 := Lib.hid s4
      have HR5 := Lib.hid s5
      have HSO := Lib.hid sO
      have HT0 := Lib.hid ht
      have HDV := Lib.hid hdiv
      have HBW := Lib.hid hB
      have HRQ := Lib.hid rq
      have HBB := Lib.hid hb
      have HOO := Lib.hid ho
      clear hwr2 s3 s4 s5 sO ht hdiv hB rq h9 r3 r4 r5 ho hRl hb
      go_wp2_with fail
      refine HTR.out.mono ?_
      rintro e w1 ⟨rfl, rfl⟩
      go_wp2_with fail
      rw [← HW2.out]
      have c4 : wr2.cell? ⟨G4, 0, none⟩ = some (.slice (some ⟨gq, 0, none⟩) L L) := HR4.out.cell 0
      have f4 := HR4.out.frozen 0
      have c5' : wr2.cell? ⟨G5, 0, none⟩ = some (.slice A' t cap') := HR5.out.cell 0
      have f5' := HR5.out.frozen 0
      have hrq2 : Row wr2 gq 5 (bVs quo) := by
        have g5 := H52.out.lt
        have gb := HS3.out
        have eq := HGQ.out
        rw [HW2.out]
        exact HRQ.out.far (p := ⟨G5, 0, none⟩) (by show gq ≠ G5; omega) _
      have HRD := Lib.hid ((hrq2.ownB (base := 0) (Nat.zero_le _) hql2 (by simp only [maxLen]; have := HLL.out; omega)).rd)
      have hLm : L ≤ 140737488355328 := by have := HLL.out; omega
      have HQD := Lib.hid (HQC.out wr2.drew (show Rd wr2.drew wr2.drew.heap.size (some ⟨gq, 0, none⟩) L (bVs quo) from HRD.out) (Nat.le_refl _) hLm)
      have HD1 := Lib.hid (show divG (trimL q) (Gf.inv x) lp (List.replicate L 0) (trimL p) = (quo, trimL R) by
        rw [← HQT.out, ← HPT.out, ← HOV.out, ← HD.out, ← HDV.out]
        cases k with
        | zero => rfl
        | succ k => rw [divG, if_pos (by rw [trimL_length, ← HT0.out, HQL.out]; exact HBB.out)])
      have HZ1 := Lib.hid (show OwnB ((wr2.setCell ⟨G4, 0, none⟩ (.slice (some ⟨gq, 0, none⟩) (trimE quo) L)).setCell ⟨G5, 0, none⟩ (.slice A' t cap')) w.heap.size (some ⟨gq, 0, none⟩) (trimE quo) L (trimL quo) by
        have g5 := H52.out.lt
        have gb := HS3.out
        have eq := HGQ.out
        have e4 := HG4.out
        have e5 := HG5.out
        have h1 := (hrq2.ownB (base := G5 + 1) (by omega) hql2 (by simp only [maxLen]; omega)).take (k := trimE quo) (by have := trimE_le quo; omega)
        exact ((h1.far (p := ⟨G4, 0, none⟩) (by show G4 < G5 + 1; omega) _).far (p := ⟨G5, 0, none⟩) (by show G5 < G5 + 1; omega) _).mono (by omega))
      have HZ2 := Lib.hid (show OwnB ((wr2.setCell ⟨G4, 0, none⟩ (.slice (some ⟨gq, 0, none⟩) (trimE quo) L)).setCell ⟨G5, 0, none⟩ (.slice A' t cap')) w.heap.size A' t cap' (trimL R) by
        have g5 := H52.out.lt
        have e4 := HG4.out
        have e5 := HG5.out
        exact ((HSO.out.far (p := ⟨G4, 0, none⟩) (by show G4 < _; omega) _).far (p := ⟨G5, 0, none⟩) g5 _).mono (by omega))
      have HZ3 := Lib.hid (show Below w.heap.size w ((wr2.setCell ⟨G4, 0, none⟩ (.slice (some ⟨gq, 0, none⟩) (trimE quo) L)).setCell ⟨G5, 0, none⟩ (.slice A' t cap')).drew by
        have e4 := HG4.out
        have e5 := HG5.out
        rw [HW2.out]
        exact (((HBW.out.setCell (p := ⟨G5, 0, none⟩) (by show _ ≤ G5; omega) _).setCell (p := ⟨G4, 0, none⟩) (by show _ ≤ G4; omega) _).setCell (p := ⟨G5, 0, none⟩) (by show _ ≤ G5; omega) _).drew)
      have HAP := Lib.hid (show Apart (some ⟨gq, 0, none⟩) A' from fun g h1 h2 => by
        simp only [Option.some.injEq, Addr.mk.injEq, and_true] at h1
        subst h1
        have := HA3.out gq h2
        have := HGQ.out
        omega)
      have HE := Lib.hid (show Row ((wr2.setCell ⟨G4, 0, none⟩ (.slice (some ⟨gq, 0, none⟩) (trimE quo) L)).setCell ⟨G5, 0, none⟩ (.slice A' t cap')) G4 22 [.slice (some ⟨gq, 0, none⟩) (trimE quo) L] from (HR4.out.set 0 _).far (p := ⟨G5, 0, none⟩) n45 _)
      have HF := Lib.hid (show Row ((wr2.setCell ⟨G4, 0, none⟩ (.slice (some ⟨gq, 0, none⟩) (trimE quo) L)).setCell ⟨G5, 0, none⟩ (.slice A' t cap')) G5 22 [.slice A' t cap'] from ((HR5.out.far (p := ⟨G4, 0, none⟩) n45.symm _).set 0 _))
      have HE4 := Lib.hid (show ((wr2.setCell ⟨G4, 0, none⟩ (.slice (some ⟨gq, 0, none⟩) (trimE quo) L)).setCell ⟨G5, 0, none⟩ (.slice A' t cap')).cell? ⟨G4, 0, none⟩ = some (.slice (some ⟨gq, 0, none⟩) (trimE quo) L) from HE.out.cell 0)
      have HE5 := Lib.hid (show ((wr2.setCell ⟨G4, 0, none⟩ (.slice (some ⟨gq, 0, none⟩) (trimE quo) L)).setCell ⟨G5, 0, none⟩ (.slice A' t cap')).cell? ⟨G5, 0, none⟩ = some (.slice A' t cap') from HF.out.cell 0)
      clear c5 f5 c3 hrq2 HQC
      go_region_with (first | (refine HQD.out.mono ?_; rintro e w1 ⟨rfl, rfl⟩))
      all_goals go_wp2_with fail
      all_goals rw [Exit.noGoto_ret]
      all_goals refine bodyPost_ret (v := .tuple #[.slice (some ⟨gq, 0, none⟩) (trimE quo) L, .slice A' t cap']) (by simp [results, Try.results46, go_sem, HE4.out, HE5.out]) rfl ?_
      all_goals exact ⟨_, _, _, _, _, _, rfl, by rw [HD1.out]; exact HZ1.out, by rw [HD1.out]; exact HZ2.out, HZ3.out, HAP.out⟩
    · have d1 : decide ((t : Int) - (lq : Int) < 0) = false := decide_eq_false (by omega)
      obtain ⟨gr, rfl, hgr1, hgr2, hcr, _⟩ := sO.at_ (i := t - 1) (by omega)
      obtain ⟨y, hy⟩ : ∃ y, y = (trimL R).getD (t - 1) 0 := ⟨_, rfl⟩
      rw [← hy] at hcr
      have i0 : (0 : Int) ≤ (t : Int) - 1 := by omega
      have i1 : (t : Int) - 1 < (t : Int) := by omega
      have i2 : IntKind.i64.wrap ((t : Int) - 1) = (t : Int) - 1 := by rw [IntKind.wrap_i64]; omega
      have i3 : ((t : Int) - 1).toNat = t - 1 := by omega
      rw [hwr2] at hcr
      have HM := Lib.hid (mul_calls y over wr2)
      have HBB := Lib.hid hb
      have HW2 := Lib.hid hwr2
      have HR3 := Lib.hid s3
      have HR4 := Lib.hid s4
      have HR5 := Lib.hid s5
      have HSO := Lib.hid sO
      have HY := Lib.hid hy
      have HT0 := Lib.hid ht
      have HDV := Lib.hid hdiv
      have HBW := Lib.hid hB
      have HRQ := Lib.hid rq
      have H9 := Lib.hid h9
      have HKK := Lib.hid hk
      clear hwr2 s3 s4 s5 sO hy ht hdiv hB rq h9 r3 r4 r5 ho hRl hb
      go_wp2_with fail
      refine HTR.out.mono ?_
      rintro e w1 ⟨rfl, rfl⟩
      go_wp2_with fail
      rw [← HW2.out]
      refine HM.out.mono ?_
      rintro e w1 ⟨rfl, rfl⟩
      have g5 := H52.out.lt
      have ga := HA3.out gr rfl
      have gb := HS3.out
      have e3 := HG3.out
      have e4 := HG4.out
      have e5 := HG5.out
      have eq := HGQ.out
      have el := HLL.out
      have hbb := HBB.out
      have hwB : Below w.heap.size w wr2 := by rw [HW2.out]; exact HBW.out.setCell (p := ⟨G5, 0, none⟩) (by show _ ≤ G5; omega) _
      have hrq2 : Row wr2 gq 5 (bVs quo) := by rw [HW2.out]; exact HRQ.out.far (p := ⟨G5, 0, none⟩) (by show gq ≠ G5; omega) _
      have HST := Lib.hid (step_calls (Gf.mul y over) (t - lq) G4 G3 G5 gq gr L L lq d t cap' W2.heap.size w.heap.size (some ⟨g, o, none⟩) quo Qt (trimL R) wr2 (HR4.out.cell 0) (HR3.out.cell 0) (HR5.out.cell 0)
        (HQ5.out.below hwB (Nat.le_refl _)) hrq2 hql2 HSO.out (by omega) (by omega) (by omega) (by omega) (by omega) (by omega) (by omega) (by omega) (by omega) (by omega) (by omega) (by omega) hgr2 (by omega))
      rw [show (((t - lq : Nat) : Int)) = (t : Int) - (lq : Int) by omega] at HST
      have HWB := Lib.hid hwB
      clear hbb g5 ga gb e3 e4 e5 eq el hwB hrq2 hcr
      go_wp2_with fail
      refine HST.out.mono ?_
      rintro e w3 ⟨rfl, hq3, ho3, hk3, hb3⟩
      have HQ3 := Lib.hid hq3
      have HO3 := Lib.hid ho3
      have HK3' := Lib.hid hk3
      have HB3' := Lib.hid hb3
      clear hq3 ho3 hk3 hb3
      go_wp2_with fail
      have hbb := HBB.out
      have hkk := HKK.out
      obtain ⟨k', rfl⟩ : ∃ k', k = k' + 1 := ⟨k - 1, by omega⟩
      have hlR : (trimL R).length = t := by rw [trimL_length, HT0.out]
      have hc : Gf.mul y over = stepC (trimL R) over := by unfold stepC; rw [hlR, ← HY.out]
      have hxne : x ≠ 0 := by
        have h := trimE_top q (by rw [← HLQ.out]; exact h0)
        rw [← HLQ.out, ← HX.out] at h
        exact h
      have hov : Gf.mul over (Qt.getD (Qt.length - 1) 0) = 1 := by rw [HQL.out, HQT.out, trimL_getD, ← HX.out, HOV.out]; exact Gf.inv_mul hxne
      have hstep : trimL (offTo (trimL R) Qt (t - lq) (Gf.mul y over) lq) = stepR Qt (trimL R) over := by unfold stepR; rw [hlR, HQL.out, hc]
      have hlt : (stepR Qt (trimL R) over).length < t := by
        have h := stepR_lt Qt (trimL R) over (by rw [HQL.out]; exact h0) (by rw [hlR, HQL.out]; omega) hov
        rw [hlR] at h
        exact h
      have hle : trimE (offTo (trimL R) Qt (t - lq) (Gf.mul y over) lq) < t := by rw [← hstep, trimL_length] at hlt; exact hlt
      have hdv : divG Qt over k' (quo.set (t - lq) (Gf.mul y over)) (stepR Qt (trimL R) over) = D := by
        have h := HDV.out
        rw [divG, if_neg (by rw [hlR, HQL.out]; omega), hlR, HQL.out, ← hc] at h
        exact h
      have g5 := H52.out.lt
      have ga := HA3.out gr rfl
      have gb := HS3.out
      have e3 := HG3.out
      have e4 := HG4.out
      have e5 := HG5.out
      have eq := HGQ.out
      have P3 := Lib.hid (HR3.out.of_block (HK3'.out G3 HR3.out.lt (by omega) (by omega)))
      have P4 := Lib.hid (HR4.out.of_block (HK3'.out G4 HR4.out.lt (by omega) (by omega)))
      have P5 := Lib.hid (HR5.out.of_block (HK3'.out G5 HR5.out.lt (by omega) (by omega)))
      go_roundw
      case rel => exact ⟨k', t, _, _, P3.out, P4.out, P5.out, HQ3.out, by rw [List.length_set]; exact hql2, HO3.out, HWB.out.trans HB3'.out, by rw [hstep]; exact hdv, by omega, by omega, .inr ⟨t - lq, by congr 1; omega, by omega, by omega⟩⟩
      case measure =>
        rcases H9.out with h | ⟨a, h, h1, h2⟩
        · rw [h]
          show ((t : Int) - (lq : Int)).toNat < lp + 1
          omega
        · rw [h]
          show ((t : Int) - (lq : Int)).toNat < ((a : Int)).toNat
          omega
end Go.Proofs.Ytaihgckcmcacfaa
namespace Go.Proofs.Ytaihgckcmcacfaa
open Go.RowKit Go.Proofs.YtaihgckcmcacfaaW.PrintWords
set_option linter.unusedVariables false
set_option linter.unusedSimpArgs false

/-- quotient and rest of lists whose second is not 0 -/
def dmL (xs ys : List UInt8) : List UInt8 × List UInt8 := divG (trimL ys) (Gf.inv (ys.getD (trimE ys - 1) 0)) (trimE xs) (List.replicate (trimE xs + 1 - trimE ys) 0) (trimL xs)
def dmE (xs ys : List UInt8) : Int := if longB xs || longB ys then 4 else if trimE ys = 0 then 5 else 0
def dmQ (xs ys : List UInt8) : List UInt8 := if longB xs || longB ys then [] else if trimE ys = 0 then [] else trimL (dmL xs ys).1
def dmR (xs ys : List UInt8) : List UInt8 := if longB xs || longB ys then [] else if trimE ys = 0 then [] else (dmL xs ys).2
set_option maxRecDepth 100000 in
set_option maxHeartbeats 1600000 in
theorem DivMod_calls (A B : Option Addr) (n m c d : Nat) (xs ys : List UInt8) (w : World) (ha : Rd w w.heap.size A n (bVs xs)) (hb : Rd w w.heap.size B m (bVs ys)) (h1 : n ≤ c) (h2 : m ≤ d) (hn : n ≤ 140737488355328) (hm : m ≤ 140737488355328) :
    Calls Try.prog 29 #[.slice A n c, .slice B m d] w fun e w' => ∃ A1 k1 c1 A2 k2 c2, e = .returned (.tuple #[.slice A1 k1 c1, .slice A2 k2 c2, .int .i64 (dmE xs ys)]) ∧
      OwnB w' w.heap.size A1 k1 c1 (dmQ xs ys) ∧ OwnB w' w.heap.size A2 k2 c2 (dmR xs ys) ∧ Below w.heap.size w w' ∧ Apart A1 A2 := by
  have hB : Below w.heap.size w (w.alloc (.cells #[.slice A n c, .slice B m d] 22)) := (Below.refl _ _).alloc (Nat.le_refl _) _
  have HL := Lib.hid (long_calls w.heap.size 2 2 _ _ (lists_two w 22 ha hb h1 h2 (by omega) (by omega)) (by omega))
  rw [anyB_two] at HL
  have HT := Lib.hid (trimmed_calls B m d ys _ (hb.go hB) h2 hm)
  have HD := Lib.hid (fun h0 => divmod_calls A B n m c d xs ys _ (ha.go hB) (hb.go hB) h1 h2 hn hm h0)
  have HB := Lib.hid hB
  clear hB ha hb
  cases hc : (longB xs || longB ys)
  · rw [hc] at HL
    by_cases h0 : trimE ys = 0
    · simp only [dmE, dmQ, dmR, hc, h0, Bool.false_eq_true, if_false, if_true]
      rw [h0] at HT
      clear hc h0 HD
      go_enter Try.func29, Try.ntmps29
      go_wp2_with fail
      refine HL.out.mono ?_
      rintro e w' ⟨rfl, rfl⟩
      go_wp2_with fail
      refine HT.out.mono ?_
      rintro e w' ⟨rfl, rfl⟩
      go_wp2_with fail
      refine bodyPost_ret (v := .tuple #[.slice none 0 0, .slice none 0 0, .int .i64 5]) (by simp [results, Try.results29, go_sem]) rfl ?_
      exact ⟨none, 0, 0, none, 0, 0, rfl, ⟨rfl, rfl, .inl ⟨rfl, rfl⟩⟩, ⟨rfl, rfl, .inl ⟨rfl, rfl⟩⟩, HB.out, fun _ h _ => by cases h⟩
    · simp only [dmE, dmQ, dmR, hc, h0, Bool.false_eq_true, if_false]
      have HD2 := Lib.hid (HD.out (by omega))
      obtain ⟨ly, hly⟩ : ∃ l, l = trimE ys := ⟨_, rfl⟩
      rw [← hly] at HT h0
      have z0 : ((ly : Int) == 0) = false := by rw [beq_eq_false_iff_ne]; omega
      have z1 : (ly == 0) = false := by rw [beq_eq_false_iff_ne]; exact h0
      clear hc h0 HD hly
      go_enter Try.func29, Try.ntmps29
      go_wp2_with fail
      refine HL.out.mono ?_
      rintro e w' ⟨rfl, rfl⟩
      go_wp2_with fail
      refine HT.out.mono ?_
      rintro e w' ⟨rfl, rfl⟩
      go_wp2_with fail
      refine HD2.out.mono ?_
      rintro e w1 ⟨A1, k1, c1, A2, k2, c2, rfl, o1, o2, hb, hap⟩
      have O1 := Lib.hid (o1.mono (show w.heap.size ≤ (w.alloc (.cells #[.slice A n c, .slice B m d] 22)).heap.size by simp))
      have O2 := Lib.hid (o2.mono (show w.heap.size ≤ (w.alloc (.cells #[.slice A n c, .slice B m d] 22)).heap.size by simp))
      have HBB := Lib.hid (HB.out.trans (hb.mono (by simp)))
      have HAP := Lib.hid hap
      clear o1 o2 hb hap
      go_wp2_with fail
      refine bodyPost_ret (v := .tuple #[.slice A1 k1 c1, .slice A2 k2 c2, .int .i64 0]) (by simp [results, Try.results29, go_sem]) rfl ?_
      exact ⟨_, _, _, _, _, _, rfl, O1.out, O2.out, HBB.out, HAP.out⟩
  · rw [hc] at HL
    simp only [dmE, dmQ, dmR, hc, if_true]
    clear hc
    go_enter Try.func29, Try.ntmps29
    go_wp2_with fail
    refine HL.out.mono ?_
    rintro e w' ⟨rfl, rfl⟩
    go_wp2_with fail
    refine bodyPost_ret (v := .tuple #[.slice none 0 0, .slice none 0 0, .int .i64 4]) (by simp [results, Try.results29, go_sem]) rfl ?_
    exact ⟨none, 0, 0, none, 0, 0, rfl, ⟨rfl, rfl, .inl ⟨rfl, rfl⟩⟩, ⟨rfl, rfl, .inl ⟨rfl, rfl⟩⟩, HB.out, fun _ h _ => by cases h⟩
def poly_divMod.f (l m : List Int) : Option (List Int × List Int) := if (inU l && inU m && (decide (l.length ≤ 140737488355328) && decide (m.length ≤ 140737488355328) && decide (0 < trimE (m.map toU)))) = true then some (nI (trimL (dmL (l.map toU) (m.map toU)).1), nI (dmL (l.map toU) (m.map toU)).2) else none
theorem poly_divMod.calls (A0 : Option Addr) (c0 : Nat) (l0 : List Int) (A1 : Option Addr) (c1 : Nat) (l1 : List Int) (r1 : List Int) (r2 : List Int) (w : World) (hr0 : Kd.C (Kd.int .u8) w A0 l0.length l0) (hc0 : l0.length ≤ c0) (hr1 : Kd.C (Kd.int .u8) w A1 l1.length l1) (hc1 : l1.length ≤ c1) (h : poly_divMod.f l0 l1 = some (r1, r2)) :
    Calls Try.prog 46 #[.slice A0 l0.length c0, .slice A1 l1.length c1] w fun e w' => ∃ v0_ v1_ : Value, e = .returned (.tuple #[v0_, v1_]) ∧ Kd.R (Kd.int .u8) 5 w' w.heap.size (fun k_ => some k_ ≠ v1_.ownBlock) v0_ r1 ∧ Kd.R (Kd.int .u8) 5 w' w.heap.size (fun k_ => some k_ ≠ v0_.ownBlock) v1_ r2 ∧ Below w.heap.size w w' := by
  unfold poly_divMod.f at h
  split at h
  · rename_i hi
    simp only [Bool.and_eq_true, decide_eq_true_eq] at hi
    simp only [Option.some.injEq, Prod.mk.injEq] at h
    obtain ⟨rfl, rfl⟩ := h
    obtain ⟨xs, rfl⟩ := ints_of hi.1.1
    obtain ⟨ys, rfl⟩ := ints_of hi.1.2
    simp only [nI_length, nI_toU] at hi hc0 hc1 ⊢
    refine (divmod_calls A0 A1 xs.length ys.length c0 c1 xs ys w (rd_of_C hr0) (rd_of_C hr1) hc0 hc1 hi.2.1.1 hi.2.1.2 hi.2.2).mono ?_
    rintro e w' ⟨A1', k1, c1', A2', k2, c2', rfl, o1, o2, hb, hap⟩
    exact ⟨_, _, rfl, R_of_own_ok o1 (apart_own o1 o2 hap), R_of_own_ok o2 (apart_own o2 o1 hap.symm), hb⟩
  · cases h
def poly_DivMod.f (l m : List Int) : Option (List Int × List Int × Int) := if (inU l && inU m && (decide (l.length ≤ 140737488355328) && decide (m.length ≤ 140737488355328))) = true then some (nI (dmQ (l.map toU) (m.map toU)), nI (dmR (l.map toU) (m.map toU)), dmE (l.map toU) (m.map toU)) else none
theorem poly_DivMod.calls (A0 : Option Addr) (c0 : Nat) (l0 : List Int) (A1 : Option Addr) (c1 : Nat) (l1 : List Int) (r1 : List Int) (r2 : List Int) (r3 : Int) (w : World) (hr0 : Kd.C (Kd.int .u8) w A0 l0.length l0) (hc0 : l0.length ≤ c0) (hr1 : Kd.C (Kd.int .u8) w A1 l1.length l1) (hc1 : l1.length ≤ c1) (h : poly_DivMod.f l0 l1 = some (r1, r2, r3)) :
    Calls Try.prog 29 #[.slice A0 l0.length c0, .slice A1 l1.length c1] w fun e w' => ∃ v0_ v1_ : Value, e = .returned (.tuple #[v0_, v1_, .int .i64 r3]) ∧ Kd.R (Kd.int .u8) 5 w' w.heap.size (fun k_ => some k_ ≠ v1_.ownBlock) v0_ r1 ∧ Kd.R (Kd.int .u8) 5 w' w.heap.size (fun k_ => some k_ ≠ v0_.ownBlock) v1_ r2 ∧ Below w.heap.size w w' := by
  unfold poly_DivMod.f at h
  split at h
  · rename_i hi
    simp only [Bool.and_eq_true, decide_eq_true_eq] at hi
    simp only [Option.some.injEq, Prod.mk.injEq] at h
    obtain ⟨rfl, rfl, rfl⟩ := h
    obtain ⟨xs, rfl⟩ := ints_of hi.1.1
    obtain ⟨ys, rfl⟩ := ints_of hi.1.2
    simp only [nI_length, nI_toU] at hi hc0 hc1 ⊢
    refine (DivMod_calls A0 A1 xs.length ys.length c0 c1 xs ys w (rd_of_C hr0) (rd_of_C hr1) hc0 hc1 hi.2.1 hi.2.2).mono ?_
    rintro e w' ⟨A1', k1, c1', A2', k2, c2', rfl, o1, o2, hb, hap⟩
    exact ⟨_, _, rfl, R_of_own_ok o1 (apart_own o1 o2 hap), R_of_own_ok o2 (apart_own o2 o1 hap.symm), hb⟩
  · cases h
end Go.Proofs.Ytaihgckcmcacfaa
namespace Go.Proofs.Ytaihgckcmcacfaa
open Go.RowKit Go.Proofs.YtaihgckcmcacfaaW.PrintWords
set_option linter.unusedVariables false
set_option linter.unusedSimpArgs false

def slices_Clone.f (l : List Int) : Option (List Int) := if (inU l && decide (l.length ≤ 140737488355328)) = true then some l else none
theorem slices_Clone.calls (A0 : Option Addr) (c0 : Nat) (l0 : List Int) (r : List Int) (w : World) (hr0 : Kd.C (Kd.int .u8) w A0 l0.length l0) (hc0 : l0.length ≤ c0) (h : slices_Clone.f l0 = some r) :
    Calls Try.prog 37 #[.slice A0 l0.length c0] w fun e w' => ∃ v0_ : Value, e = .returned (v0_) ∧ Kd.R (Kd.int .u8) 5 w' w.heap.size (fun _ => True) v0_ r ∧ Below w.heap.size w w' := by
  unfold slices_Clone.f at h
  split at h
  · rename_i hi
    simp only [Bool.and_eq_true, decide_eq_true_eq] at hi
    obtain rfl := Option.some.inj h
    obtain ⟨xs, rfl⟩ := ints_of hi.1
    rw [nI_length] at hi hc0 ⊢
    refine (sclone_own A0 xs.length c0 xs w (rd_of_C hr0) hi.2).mono ?_
    rintro e w' ⟨A', cap', rfl, ho, hb⟩
    exact ⟨_, rfl, R_of_own ho, hb⟩
  · cases h
end Go.Proofs.Ytaihgckcmcacfaa
namespace Go.Proofs.Ytaihgckcmcacfaa
open Go.RowKit Go.Proofs.YtaihgckcmcacfaaW.PrintWords
set_option linter.unusedVariables false
set_option linter.unusedSimpArgs false

def field_Scale.f (c : Int) (l : List Int) : Option (List Int) := if (byteB c && inU l && decide (l.length ≤ 140737488355328)) = true then some (nI ((l.map toU).map (Gf.mul (toU c)))) else none
theorem field_Scale.calls (a0 : Int) (A1 : Option Addr) (c1 : Nat) (l1 : List Int) (r : List Int) (w : World) (hr1 : Kd.C (Kd.int .u8) w A1 l1.length l1) (hc1 : l1.length ≤ c1) (h : field_Scale.f a0 l1 = some r) :
    Calls Try.prog 49 #[.int .u8 a0, .slice A1 l1.length c1] w fun e w' => ∃ v0_ : Value, e = .returned (v0_) ∧ Kd.R (Kd.int .u8) 5 w' w.heap.size (fun _ => True) v0_ r ∧ Below w.heap.size w w' := by
  unfold field_Scale.f at h
  split at h
  · rename_i hi
    simp only [Bool.and_eq_true, decide_eq_true_eq] at hi
    obtain ⟨⟨h1, h2⟩, h3⟩ := hi
    obtain rfl := Option.some.inj h
    obtain ⟨xs, rfl⟩ := ints_of h2
    rw [nI_length] at h3
    have hc := scale_calls (toU a0) A1 xs.length c1 xs w (rd_of_C hr1) h3
    rw [toU_of h1] at hc
    rw [nI_length, nI_toU]
    refine hc.mono ?_
    rintro e w' ⟨A', cap', rfl, ho, hb⟩
    exact ⟨_, rfl, R_of_own ho, hb⟩
  · cases h
end Go.Proofs.Ytaihgckcmcacfaa
namespace Go.Proofs.Ytaihgckcmcacfaa
open Go.RowKit Go.Proofs.YtaihgckcmcacfaaW.PrintWords
set_option linter.unusedVariables false
set_option linter.unusedSimpArgs false

def field_Inv.f (a : Int) : Option (Int × Int) := if byteB a = true then some (((Gf.inv (toU a)).toNat : Int), Gf.invE (toU a)) else none
theorem field_Inv.calls (a0 : Int) (r1 : Int) (r2 : Int) (w : World)  (h : field_Inv.f a0 = some (r1, r2)) :
    Calls Try.prog 48 #[.int .u8 a0] w fun e w' => e = .returned (.tuple #[.int .u8 r1, .int .i64 r2]) ∧ Below w.heap.size w w' := by
  unfold field_Inv.f at h
  split at h
  · rename_i hi
    simp only [Option.some.injEq, Prod.mk.injEq] at h
    obtain ⟨rfl, rfl⟩ := h
    have hc := inv_calls (toU a0) w
    rw [toU_of hi] at hc
    refine hc.mono ?_
    rintro e w' ⟨rfl, hb⟩
    exact ⟨rfl, hb⟩
  · cases h
end Go.Proofs.Ytaihgckcmcacfaa
