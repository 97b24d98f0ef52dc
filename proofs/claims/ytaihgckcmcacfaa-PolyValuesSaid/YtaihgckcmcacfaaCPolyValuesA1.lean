/- What the functions compute that the law PolyValues reaches, proved by walking them; conditions stand at each theorem. -/
import Derived.WalkKit
import Derived.WalkSpells
import Derived.WalkLawsBesides
import Derived.Lib.Hide
import Derived.Below
import Derived.Laws.Rows
import Derived.Laws.MakeOwn
import Derived.Laws.OwnMore
import Derived.Deep.Draws
import Derived.Laws.BitsAllLaws
import Derived.OwnWalk
import Derived.RegionTactic
import Derived.Deep.AppendLies
import Derived.Maps.AppendAt
import Derived.Lib.SliceRun
import Derived.ProofKit
import Derived.OpenShut
import Derived.ChangeOld
import Derived.SizedLaws
import Derived.Test.YtaihgckcmcacfaaProg
import Derived.Test.YtaihgckcmcacfaaWWords
namespace Go.Proofs.Ytaihgckcmcacfaa
open Go.RowKit
set_option linter.unusedVariables false
set_option linter.unusedSimpArgs false

/-- a byte as a value; bytes as values -/
abbrev bV (x : UInt8) : Value := .int .u8 (x.toNat : Int)
def bVs (xs : List UInt8) : List Value := xs.map fun x => .int .u8 (x.toNat : Int)
theorem bVs_length (xs : List UInt8) : (bVs xs).length = xs.length := by simp [bVs]
theorem bVs_get (xs : List UInt8) (i : Nat) (h : i < xs.length) : (bVs xs)[i]? = some (.int .u8 ((xs[i]).toNat : Int)) := by simp [bVs, h]
theorem bVs_append (xs ys : List UInt8) : bVs (xs ++ ys) = bVs xs ++ bVs ys := by simp [bVs]
theorem bVs_take (xs : List UInt8) (n : Nat) : (bVs xs).take n = bVs (xs.take n) := by simp [bVs, List.map_take]
theorem bVs_one {u : Value} {xs : List UInt8} (h : u ∈ bVs xs) : u.oneCell' = true := by
  simp only [bVs, List.mem_map] at h
  obtain ⟨x, _, rfl⟩ := h
  rfl

/-- The slice value with the address A and n elements reads as the values xs, in blocks below B. -/
def Rd (w : World) (B : Nat) (A : Option Addr) (n : Nat) (xs : List Value) : Prop :=
  xs.length = n ∧ (0 < n → ∃ g o, A = some ⟨g, o, none⟩ ∧ g < B ∧ ∀ j u, xs[j]? = some u → w.cell? ⟨g, o + j, none⟩ = some u)
section
variable {w w' : World} {B B' n : Nat} {A : Option Addr} {xs : List Value}
theorem Rd.len (h : Rd w B A n xs) : xs.length = n := h.1
theorem Rd.nil : Rd w B A 0 [] := ⟨rfl, fun h => absurd h (by omega)⟩
theorem Rd.at_ (h : Rd w B A n xs) {k : Nat} (hk : k < n) : ∃ g o u, A = some ⟨g, o, none⟩ ∧ g < B ∧ xs[k]? = some u ∧ w.cell? ⟨g, o + k, none⟩ = some u := by
  obtain ⟨g, o, hA, hg, hc⟩ := h.2 (by omega)
  have hl : k < xs.length := by have := h.1; omega
  exact ⟨g, o, xs[k], hA, hg, List.getElem?_eq_getElem hl, hc k _ (List.getElem?_eq_getElem hl)⟩
theorem Rd.keep (h : Rd w B A n xs) (hk : ∀ k, k < B → w'.heap[k]? = w.heap[k]?) : Rd w' B A n xs :=
  ⟨h.1, fun hn => by
    obtain ⟨g, o, hA, hg, hc⟩ := h.2 hn
    exact ⟨g, o, hA, hg, fun j u hu => (World.cell?_of_block (hk g hg)).trans (hc j u hu)⟩⟩
theorem Rd.more (h : Rd w B A n xs) (hB : B ≤ B') : Rd w B' A n xs :=
  ⟨h.1, fun hn => by
    obtain ⟨g, o, hA, hg, hc⟩ := h.2 hn
    exact ⟨g, o, hA, by omega, hc⟩⟩
theorem Rd.below (h : Rd w B A n xs) (hb : Below B' w w') (hB : B ≤ B') : Rd w' B A n xs := h.keep fun k hk => hb.block k (by omega)
theorem Rd.go (h : Rd w w.heap.size A n xs) (hb : Below w.heap.size w w') : Rd w' w'.heap.size A n xs := (h.below hb (Nat.le_refl _)).more hb.size
theorem Rd.take (h : Rd w B A n xs) {k : Nat} (hk : k ≤ n) : Rd w B A k (xs.take k) := by
  refine ⟨by rw [List.length_take, h.1]; omega, fun hp => ?_⟩
  obtain ⟨g, o, hA, hg, hc⟩ := h.2 (by omega)
  refine ⟨g, o, hA, hg, fun j u hu => hc j u ?_⟩
  rw [List.getElem?_take] at hu
  split at hu
  · exact hu
  · cases hu
end

/-- Block g is the cells ys of the type t, none of them frozen. -/
def Row (w : World) (g : Nat) (t : TypeId) (ys : List Value) : Prop := w.heap[g]? = some (.cells ys.toArray t (0, 0))
section
variable {w w' : World} {g : Nat} {t : TypeId} {ys : List Value}
theorem Row.lt (h : Row w g t ys) : g < w.heap.size := by
  rcases Nat.lt_or_ge g w.heap.size with hlt | hge
  · exact hlt
  · unfold Row at h; rw [Array.getElem?_eq_none hge] at h; cases h
theorem Row.cell (h : Row w g t ys) (i : Nat) : w.cell? ⟨g, i, none⟩ = ys[i]? := by
  rw [cell_of_row w g i _ t (0, 0) h, List.getElem?_toArray]
theorem Row.has (h : Row w g t ys) {i : Nat} (hi : i < ys.length) : ∃ old, w.cell? ⟨g, i, none⟩ = some old := ⟨ys[i], by rw [h.cell, List.getElem?_eq_getElem hi]⟩
theorem Row.frozen (h : Row w g t ys) (i : Nat) : w.frozen? ⟨g, i, none⟩ = false := frozen_of_row w g i _ t h
theorem Row.made (w : World) (z : Value) (n : Nat) (t : TypeId) : Row (w.alloc (.cells (madeCells #[z] n) t)) w.heap.size t (List.replicate n z) := by
  unfold Row
  rw [heap_alloc_new, ← toList_madeCells_one z n, Array.toArray_toList]
theorem Row.new (w : World) (cs : List Value) (t : TypeId) : Row (w.alloc (.cells cs.toArray t)) w.heap.size t cs := heap_alloc_new w _
theorem Row.three {a b c : Value} (h : Row w g t [a, b, c]) : w.cell? ⟨g, 0, none⟩ = some a ∧ w.cell? ⟨g, 1, none⟩ = some b ∧ w.cell? ⟨g, 2, none⟩ = some c ∧ w.frozen? ⟨g, 0, none⟩ = false ∧ w.frozen? ⟨g, 1, none⟩ = false ∧ w.frozen? ⟨g, 2, none⟩ = false :=
  ⟨h.cell 0, h.cell 1, h.cell 2, h.frozen 0, h.frozen 1, h.frozen 2⟩
theorem Row.of_block (h : Row w g t ys) (hb : w'.heap[g]? = w.heap[g]?) : Row w' g t ys := hb.trans h
theorem Row.alloc (h : Row w g t ys) (o : Obj) : Row (w.alloc o) g t ys := (Below.heap_alloc w o g h.lt).trans h
theorem Row.set (h : Row w g t ys) (i : Nat) (u : Value) : Row (w.setCell ⟨g, i, none⟩ u) g t (ys.set i u) := by
  unfold Row
  rw [heap_setCell_same w g i _ t u h, List.setIfInBounds_toArray]
theorem Row.far (h : Row w g t ys) {p : Addr} (hp : g ≠ p.block) (u : Value) : Row (w.setCell p u) g t ys := (Below.heap_setCell w p u g hp).trans h
theorem Row.below {B : Nat} (h : Row w g t ys) (hb : Below B w w') (hg : g < B) : Row w' g t ys := (hb.block g hg).trans h
theorem Row.drewN (h : Row w g t ys) (k : Nat) : Row (w.drewN k) g t ys := h
theorem Row.owns (h : Row w g t ys) {base n : Nat} (hb : base ≤ g) (hn : n ≤ ys.length) (hm : ys.length ≤ maxLen) : w.ownsRow base t 1 (.slice (some ⟨g, 0, none⟩) n ys.length) n (ys.take n) := by
  refine ⟨by rw [List.length_take]; omega, .inr ⟨g, ys.length, ys.toArray, rfl, hb, h, hn, hm, by simp, by simp⟩⟩
end
theorem below_drewN {B : Nat} {a w : World} (h : Below B a w) (n : Nat) : Below B a (w.drewN n) := ⟨h.os, h.tape, h.output, h.size, h.block⟩
/-- What is owned reads. -/
theorem rd_of_own {w : World} {base : Nat} {t : TypeId} {A : Option Addr} {n cap : Nat} {xs : List Value} (h : w.ownsRow base t 1 (.slice A n cap) n xs) : Rd w w.heap.size A n xs := by
  refine ⟨by have := h.1; omega, fun hn => ?_⟩
  rcases h.2 with ⟨hv, h0⟩ | ⟨g, c, cur, hv, _, hh, _, _, _, _⟩
  · omega
  · simp only [Value.slice.injEq] at hv
    obtain ⟨rfl, _, rfl⟩ := hv
    refine ⟨g, 0, rfl, ?_, fun j u hu => ?_⟩
    · rcases Nat.lt_or_ge g w.heap.size with hlt | hge
      · exact hlt
      · rw [Array.getElem?_eq_none hge] at hh; cases hh
    · have hj : j < xs.length := by
        rcases Nat.lt_or_ge j xs.length with hlt | hge
        · exact hlt
        · rw [List.getElem?_eq_none hge] at hu; cases hu
      rw [Nat.zero_add, h.cellAt j (by have := h.1; omega)]
      exact hu
/-- The slice value with the address A, n elements and the capacity cap is the call's own (made from block base on), and holds the bytes xs. -/
def OwnB (w : World) (base : Nat) (A : Option Addr) (n cap : Nat) (xs : List UInt8) : Prop := xs.length = n ∧ w.ownsRow base 5 1 (.slice A n cap) n (bVs xs)
theorem OwnB.rd {w : World} {base n cap : Nat} {A : Option Addr} {xs : List UInt8} (h : OwnB w base A n cap xs) : Rd w w.heap.size A n (bVs xs) := rd_of_own h.2
theorem OwnB.mono {w : World} {base base' n cap : Nat} {A : Option Addr} {xs : List UInt8} (h : OwnB w base A n cap xs) (hb : base' ≤ base) : OwnB w base' A n cap xs := by
  refine ⟨h.1, h.2.1, ?_⟩
  rcases h.2.2 with h' | ⟨g, c, cur, hv, hg, rest⟩
  · exact .inl h'
  · exact .inr ⟨g, c, cur, hv, by omega, rest⟩
theorem OwnB.keep {w w' : World} {base n cap : Nat} {A : Option Addr} {xs : List UInt8} (h : OwnB w base A n cap xs) (hb : ∀ g, A = some ⟨g, 0, none⟩ → w'.heap[g]? = w.heap[g]?) : OwnB w' base A n cap xs := by
  refine ⟨h.1, h.2.1, ?_⟩
  rcases h.2.2 with h' | ⟨g, c, cur, hv, hg, hh, rest⟩
  · exact .inl h'
  · simp only [Value.slice.injEq] at hv
    obtain ⟨rfl, _, rfl⟩ := hv
    exact .inr ⟨g, cap, cur, rfl, hg, (hb g rfl).trans hh, rest⟩
theorem OwnB.below {w w' : World} {base B n cap : Nat} {A : Option Addr} {xs : List UInt8} (h : OwnB w base A n cap xs) (hb : Below B w w') (hB : w.heap.size ≤ B) : OwnB w' base A n cap xs := by
  refine h.keep fun g hA => hb.block g ?_
  subst hA
  rcases h.2.2 with ⟨h', _⟩ | ⟨g', c, cur, hv, hg, hh, rest⟩
  · cases h'
  · simp only [Value.slice.injEq, Option.some.injEq, Addr.mk.injEq, and_true, true_and] at hv
    obtain ⟨rfl, _⟩ := hv
    rcases Nat.lt_or_ge g w.heap.size with hlt | hge
    · omega
    · rw [Array.getElem?_eq_none hge] at hh; cases hh
theorem Row.ownB {w : World} {g : Nat} {ys : List UInt8} (h : Row w g 5 (bVs ys)) {base n : Nat} (hb : base ≤ g) (hn : ys.length = n) (hm : n ≤ maxLen) : OwnB w base (some ⟨g, 0, none⟩) n n ys := by
  have h1 := h.owns (n := n) hb (by rw [bVs_length]; omega) (by rw [bVs_length]; omega)
  rw [bVs_length, hn, List.take_of_length_le (by rw [bVs_length]; omega)] at h1
  exact ⟨hn, h1⟩
theorem OwnB.far {w : World} {base n cap : Nat} {A : Option Addr} {xs : List UInt8} (h : OwnB w base A n cap xs) {p : Addr} (hp : p.block < base) (u : Value) : OwnB (w.setCell p u) base A n cap xs := by
  refine ⟨h.1, h.2.1, ?_⟩
  rcases h.2.2 with h' | ⟨g, c, cur, hv, hg, hh, rest⟩
  · exact .inl h'
  · exact .inr ⟨g, c, cur, hv, hg, (Below.heap_setCell w p u g (by omega)).trans hh, rest⟩
theorem OwnB.far3 {w : World} {base n cap g : Nat} {A : Option Addr} {xs : List UInt8} (h : OwnB w base A n cap xs) (hg : g < base) (a b c : Value) : OwnB (((w.setCell ⟨g, 0, none⟩ a).setCell ⟨g, 1, none⟩ b).setCell ⟨g, 2, none⟩ c) base A n cap xs :=
  ((h.far hg _).far hg _).far hg _
theorem below_set3 {B g : Nat} {a w : World} (h : Below B a w) (hg : B ≤ g) (x y z : Value) : Below B a (((w.setCell ⟨g, 0, none⟩ x).setCell ⟨g, 1, none⟩ y).setCell ⟨g, 2, none⟩ z) := ((h.setCell hg _).setCell hg _).setCell hg _
theorem Row.set3 {w : World} {g : Nat} {t : TypeId} {a b c : Value} (h : Row w g t [a, b, c]) (x y z : Value) : Row (((w.setCell ⟨g, 0, none⟩ x).setCell ⟨g, 1, none⟩ y).setCell ⟨g, 2, none⟩ z) g t [x, y, z] := ((h.set 0 x).set 1 y).set 2 z
theorem Row.far3 {w : World} {g g' : Nat} {t : TypeId} {ys : List Value} (h : Row w g t ys) (hg : g ≠ g') (x y z : Value) : Row (((w.setCell ⟨g', 0, none⟩ x).setCell ⟨g', 1, none⟩ y).setCell ⟨g', 2, none⟩ z) g t ys := ((h.far hg x).far hg y).far hg z
theorem row_made_bytes (w : World) (n : Nat) : Row (w.alloc (.cells (madeCells #[.int .u8 0] n) 5)) w.heap.size 5 (bVs (List.replicate n 0)) := by
  have h := Row.made w (.int .u8 0) n 5
  have e : bVs (List.replicate n 0) = List.replicate n (.int .u8 0) := by simp [bVs]
  rw [e]; exact h
theorem bVs_set (xs : List UInt8) (i : Nat) (x : UInt8) : (bVs xs).set i (.int .u8 (x.toNat : Int)) = bVs (xs.set i x) := by simp [bVs, List.map_set]
theorem rd_get {w : World} {B : Nat} {A : Option Addr} {n : Nat} {xs : List UInt8} (h : Rd w B A n (bVs xs)) {k : Nat} (hk : k < n) :
    ∃ g o, A = some ⟨g, o, none⟩ ∧ g < B ∧ w.cell? ⟨g, o + k, none⟩ = some (.int .u8 ((xs.getD k 0).toNat : Int)) := by
  obtain ⟨g, o, u, hA, hg, hu, hc⟩ := h.at_ hk
  have hl : k < xs.length := by have := h.len; rw [bVs_length] at this; omega
  rw [bVs_get xs k hl] at hu
  refine ⟨g, o, hA, hg, ?_⟩
  rw [hc, ← hu]
  simp [List.getD, hl]
theorem OwnB.row {w : World} {base n cap : Nat} {A : Option Addr} {xs : List UInt8} (h : OwnB w base A n cap xs) : ∀ k, (Value.slice A n cap).ownBlock = some k → base ≤ k ∧ k < w.heap.size := World.ownsRow.lt h.2
theorem OwnB.drewN {w : World} {base n cap : Nat} {A : Option Addr} {xs : List UInt8} (h : OwnB w base A n cap xs) (k : Nat) : OwnB (w.drewN k) base A n cap xs := h
theorem OwnB.at_ {w : World} {base n cap : Nat} {A : Option Addr} {xs : List UInt8} (h : OwnB w base A n cap xs) {i : Nat} (hi : i < n) :
    ∃ g, A = some ⟨g, 0, none⟩ ∧ base ≤ g ∧ g < w.heap.size ∧ w.cell? ⟨g, i, none⟩ = some (.int .u8 ((xs.getD i 0).toNat : Int)) ∧ w.frozen? ⟨g, i, none⟩ = false := by
  rcases h.2.2 with ⟨_, h0⟩ | ⟨g, c, cur, hv, hg, hh, hrest⟩
  · omega
  · simp only [Value.slice.injEq] at hv
    obtain ⟨rfl, _, rfl⟩ := hv
    have hlt : g < w.heap.size := by
      rcases Nat.lt_or_ge g w.heap.size with hlt | hge
      · exact hlt
      · rw [Array.getElem?_eq_none hge] at hh; cases hh
    have hl : i < xs.length := by have := h.1; omega
    refine ⟨g, rfl, hg, hlt, ?_, h.2.frozenAt i⟩
    rw [h.2.cellAt i (by omega), bVs_get xs i hl]
    simp [List.getD, hl]
theorem OwnB.store {w : World} {base n cap g : Nat} {xs : List UInt8} (h : OwnB w base (some ⟨g, 0, none⟩) n cap xs) (i : Nat) (x : UInt8) : OwnB (w.setCell ⟨g, i, none⟩ (.int .u8 (x.toNat : Int))) base (some ⟨g, 0, none⟩) n cap (xs.set i x) := by
  have h1 := (h.2.stored i (.int .u8 (x.toNat : Int))).1
  rw [bVs_set] at h1
  exact ⟨by rw [List.length_set]; exact h.1, h1⟩
theorem u8_info : (Try.prog.info? 5).map (fun i => (i.zero, i.size, i.bytes)) = some (some (.int .u8 0), 1, 1) := by kernel_rfl
/-- make([]byte, n) -/
theorem make_bytes (n : Nat) (hn : n ≤ 281474976710656) (w : World) :
    (Instr.makeSlice 22 (.int .i64 (n : Int)) (.int .i64 (n : Int))).run Try.prog w = .ok (.slice (some ⟨w.heap.size, 0, none⟩) n n) (w.alloc (.cells (madeCells #[.int .u8 0] n) 5)) := by
  obtain ⟨i, hi, hz, hs, hb⟩ := info_parts u8_info
  have h := run_make (P := Try.prog) w 22 5 i _ Try.underlying22 hi hz .i64 .i64 (n : Int) (n : Int) (by omega) (by omega) (by rw [hb]; omega) (by omega)
  rw [hs, Nat.mul_one, Int.toNat_natCast] at h
  exact h
end Go.Proofs.Ytaihgckcmcacfaa
namespace Go.Proofs.Ytaihgckcmcacfaa
open Go.RowKit Go.Proofs.YtaihgckcmcacfaaW.PrintWords
set_option linter.unusedVariables false
set_option linter.unusedSimpArgs false

/-- bytes as whole numbers -/
def nI (xs : List UInt8) : List Int := xs.map fun x => (x.toNat : Int)
def toU (a : Int) : UInt8 := UInt8.ofNat a.toNat
def byteB (a : Int) : Bool := decide (0 ≤ a) && decide (a < 256)
def inU (l : List Int) : Bool := l.all byteB
theorem nI_length (xs : List UInt8) : (nI xs).length = xs.length := by simp [nI]
theorem toU_nat (x : UInt8) : toU (x.toNat : Int) = x := by simp [toU]
theorem toU_of {a : Int} (h : byteB a = true) : ((toU a).toNat : Int) = a := by
  simp [byteB] at h
  unfold toU
  rw [UInt8.toNat_ofNat']
  omega
theorem byteB_nat (x : UInt8) : byteB (x.toNat : Int) = true := by
  have h := x.toNat_lt
  have h0 : decide ((0 : Int) ≤ (x.toNat : Int)) = true := decide_eq_true (by omega)
  have h1 : decide ((x.toNat : Int) < 256) = true := decide_eq_true (by omega)
  unfold byteB
  rw [h0, h1]; rfl
theorem inU_nI (xs : List UInt8) : inU (nI xs) = true := by
  unfold inU
  rw [List.all_eq_true]
  intro a ha
  obtain ⟨x, _, rfl⟩ := List.mem_map.1 ha
  exact byteB_nat x
theorem nI_of : ∀ {l : List Int}, inU l = true → nI (l.map toU) = l
  | [], _ => rfl
  | a :: l, h => by
    have h' : byteB a = true ∧ inU l = true := by
      unfold inU at h ⊢
      rw [List.all_cons, Bool.and_eq_true] at h
      exact h
    have h2 := nI_of (l := l) h'.2
    have h3 := toU_of h'.1
    show ((toU a).toNat : Int) :: nI (l.map toU) = a :: l
    rw [h3, h2]
theorem nI_toU : ∀ xs : List UInt8, (nI xs).map toU = xs
  | [] => rfl
  | x :: xs => by
    have h2 := nI_toU xs
    simp only [nI, List.map_cons] at h2 ⊢
    rw [toU_nat, h2]
theorem ints_of {l : List Int} (h : inU l = true) : ∃ xs : List UInt8, l = nI xs := ⟨_, (nI_of h).symm⟩
theorem nI_get (xs : List UInt8) (j : Nat) : (nI xs)[j]? = xs[j]?.map fun x => (x.toNat : Int) := by simp [nI]
theorem addr_add (g o j : Nat) : (⟨g, o, none⟩ : Addr).add j = ⟨g, o + j, none⟩ := by unfold Addr.add; split <;> simp_all
theorem one_drop {α : Type} (l : List α) (j : Nat) (h : j < l.length) : (l.drop j).take 1 = [l[j]] := by
  rw [List.drop_eq_getElem_cons h]
  rfl
theorem lt_of_cell {w : World} {g o : Nat} {u : Value} (h : w.cell? ⟨g, o, none⟩ = some u) : g < w.heap.size := by
  rcases Nat.lt_or_ge g w.heap.size with hlt | hge
  · exact hlt
  · simp only [World.cell?, Array.getElem?_eq_none hge] at h
    cases h
theorem spot_of_cell {w : World} {g o : Nat} {s : Option Nat} {u : Value} (h : w.cell? ⟨g, o, s⟩ = some u) : s = none := by
  cases s with
  | none => rfl
  | some s =>
    simp only [World.cell?] at h
    split at h
    · simp at h
    · cases h
theorem rd_of_C {w : World} {A : Option Addr} {xs : List UInt8} (h : Kd.C (Kd.int .u8) w A (nI xs).length (nI xs)) : Rd w w.heap.size A xs.length (bVs xs) := by
  obtain ⟨h1, h2, h3⟩ := h
  refine ⟨bVs_length xs, fun hn => ?_⟩
  rw [nI_length] at h3
  obtain ⟨ad, rfl, hc⟩ := h3 hn
  have hcell : ∀ j (hj : j < xs.length), w.cell? (ad.add j) = some (.int .u8 ((xs[j]).toNat : Int)) := by
    intro j hj
    obtain ⟨c, e1, e2, e3⟩ := hc j ((xs[j]).toNat : Int) (by rw [nI_get, List.getElem?_eq_getElem hj]; rfl)
    have e2' : c = [.int .u8 ((xs[j]).toNat : Int)] := e2
    have e4 := e3 0 (.int .u8 ((xs[j]).toNat : Int)) (by rw [e2']; rfl)
    have e5 : (Kd.int .u8).sz = 1 := rfl
    rw [e5, Nat.mul_one, Nat.add_zero] at e4
    exact e4
  have h0 := hcell 0 hn
  obtain ⟨g, o, s⟩ := ad
  have hs : s = none := by
    have h1 : (⟨g, o, s⟩ : Addr).add 0 = ⟨g, o, s⟩ := by unfold Addr.add; simp
    rw [h1] at h0
    exact spot_of_cell h0
  subst hs
  rw [addr_add] at h0
  refine ⟨g, o, rfl, lt_of_cell h0, fun j u hu => ?_⟩
  · have hj : j < xs.length := by
      rcases Nat.lt_or_ge j xs.length with hlt | hge
      · exact hlt
      · rw [List.getElem?_eq_none (by rw [bVs_length]; exact hge)] at hu; cases hu
    rw [bVs_get xs j hj] at hu
    rw [← hu, ← addr_add]
    exact hcell j hj
theorem C_of_rd {w : World} {B : Nat} {A : Option Addr} {xs : List UInt8} (h : Rd w B A xs.length (bVs xs)) (hm : xs.length ≤ 9223372036854775807) : Kd.C (Kd.int .u8) w A (nI xs).length (nI xs) := by
  refine ⟨rfl, by rw [nI_length]; exact hm, fun hn => ?_⟩
  rw [nI_length] at hn
  obtain ⟨g, o, rfl, hg, hc⟩ := h.2 hn
  refine ⟨_, rfl, fun j p hp => ⟨[.int .u8 p], rfl, rfl, fun i u hu => ?_⟩⟩
  have hj : j < xs.length := by
    rcases Nat.lt_or_ge j xs.length with hlt | hge
    · exact hlt
    · rw [List.getElem?_eq_none (by rw [nI_length]; exact hge)] at hp; cases hp
  rw [nI_get, List.getElem?_eq_getElem hj] at hp
  simp at hp
  subst hp
  cases i with
  | zero =>
    simp at hu
    subst hu
    have e5 : (Kd.int .u8).sz = 1 := rfl
    rw [e5, Nat.mul_one, Nat.add_zero, addr_add]
    exact hc j _ (bVs_get xs j hj)
  | succ i => simp at hu
theorem reps_bytes (R : Int → List Value → Prop) (hR : ∀ x : UInt8, R (x.toNat : Int) [.int .u8 (x.toNat : Int)]) (xs : List UInt8) : Reps R 1 (nI xs) (bVs xs) := by
  refine ⟨by rw [bVs_length, nI_length, Nat.mul_one], fun j p hp => ?_⟩
  have hj : j < xs.length := by
    rcases Nat.lt_or_ge j xs.length with hlt | hge
    · exact hlt
    · rw [List.getElem?_eq_none (by rw [nI_length]; exact hge)] at hp; cases hp
  rw [nI_get, List.getElem?_eq_getElem hj] at hp
  simp at hp
  subst hp
  have e : ((bVs xs).drop (j * 1)).take 1 = [.int .u8 ((xs[j]).toNat : Int)] := by
    rw [Nat.mul_one, one_drop _ _ (by rw [bVs_length]; exact hj)]
    simp [bVs]
  rw [e]
  exact hR _
theorem R_of_own {w : World} {base n cap : Nat} {A : Option Addr} {xs : List UInt8} (h : OwnB w base A n cap xs) : Kd.R (Kd.int .u8) 5 w base (fun _ => True) (.slice A n cap) (nI xs) := by
  refine ⟨fun _ _ => trivial, bVs xs, ?_, reps_bytes _ (fun x => rfl) xs⟩
  have e : (nI xs).length = n := by rw [nI_length]; exact h.1
  rw [e]
  exact h.2
/-- what the print says of a row of bytes that was made -/
theorem own_of_R {w : World} {base : Nat} {v : Value} {l : List Int} (h : Kd.R (Kd.int .u8) 5 w base (fun _ => True) v l) (hl : inU l = true) : ∃ A cap, v = .slice A l.length cap ∧ l.length ≤ cap ∧ OwnB w base A l.length cap (l.map toU) := by
  obtain ⟨A, c, rfl, hc, _⟩ := Kd.R_reads h
  obtain ⟨_, inner, ho, hr⟩ := h
  obtain ⟨xs, rfl⟩ := ints_of hl
  have e : inner = bVs xs := by
    have hlen : inner.length = xs.length := by have := hr.1; rw [nI_length] at this; have e5 : (Kd.int .u8).sz = 1 := rfl; rw [e5] at this; omega
    apply List.ext_getElem (by rw [hlen, bVs_length])
    intro j h1 h2
    have hj : j < xs.length := by omega
    have hp := hr.2 j ((xs[j]).toNat : Int) (by rw [nI_get, List.getElem?_eq_getElem hj]; rfl)
    have e5 : (Kd.int .u8).sz = 1 := rfl
    rw [e5, Nat.mul_one, one_drop _ _ h1] at hp
    have hp' : [inner[j]] = [.int .u8 ((xs[j]).toNat : Int)] := hp
    simp at hp'
    rw [hp']
    simp [bVs]
  subst e
  refine ⟨A, c, rfl, hc, ?_, ?_⟩
  · rw [nI_toU, nI_length]
  · rw [nI_toU]; exact ho
end Go.Proofs.Ytaihgckcmcacfaa
namespace Go.Proofs.Ytaihgckcmcacfaa.Gf

/-- an element times x -/
def dbl (a : UInt8) : UInt8 := if a &&& 128 = 0 then a <<< 1 else (a <<< 1) ^^^ 29
/-- the sum (a name of its own: simp lays '(a ^^^ b).toNat' open) -/
def add (a b : UInt8) : UInt8 := a ^^^ b
/-- the product, by doubling: rounds left, a, b, what has been put together -/
def mulTo : Nat → UInt8 → UInt8 → UInt8 → UInt8
  | 0, _, _, p => p
  | n + 1, a, b, p => mulTo n (dbl a) (b >>> 1) (if b &&& 1 = 0 then p else p ^^^ a)
def mul (a b : UInt8) : UInt8 := mulTo 8 a b 0
/-- the powers of 2 -/
def ex : Nat → UInt8
  | 0 => 1
  | n + 1 => dbl (ex n)
def lgTo : Nat → UInt8 → Nat → UInt8 → Nat
  | 0, _, n, _ => n
  | k + 1, p, n, a => if p = a then n else lgTo k (dbl p) (n + 1) a
def lg (a : UInt8) : Nat := lgTo 255 1 0 a

theorem all_u8 {P : UInt8 → Prop} (h : ∀ n, n < 256 → P (UInt8.ofNat n)) (a : UInt8) : P a := by
  have h1 := h a.toNat a.toNat_lt
  rwa [UInt8.ofNat_toNat] at h1

def dblN (a : Nat) : Nat := if a.testBit 7 then (a <<< 1) ^^^ 285 else a <<< 1
theorem dblN_xor (a b : Nat) : dblN (a ^^^ b) = dblN a ^^^ dblN b := by
  unfold dblN
  rw [Nat.testBit_xor, Nat.shiftLeft_xor_distrib]
  generalize a <<< 1 = x
  generalize b <<< 1 = y
  cases a.testBit 7 <;> cases b.testBit 7 <;> simp
  · rw [Nat.xor_assoc]
  · rw [Nat.xor_assoc, Nat.xor_assoc, Nat.xor_comm y]
  · rw [Nat.xor_assoc, ← Nat.xor_assoc 285 y, Nat.xor_comm 285 y, Nat.xor_assoc y, Nat.xor_self, Nat.xor_zero]
theorem dbl_toNat (a : UInt8) : (dbl a).toNat = dblN a.toNat := by
  revert a
  apply all_u8
  decide +kernel
theorem dbl_xor (a b : UInt8) : dbl (a ^^^ b) = dbl a ^^^ dbl b := by
  apply UInt8.toNat_inj.1
  rw [dbl_toNat, UInt8.toNat_xor, UInt8.toNat_xor, dbl_toNat, dbl_toNat]
  exact dblN_xor _ _
theorem dbl_zero : dbl 0 = 0 := by decide

theorem xor_right_comm (a b c : UInt8) : a ^^^ b ^^^ c = a ^^^ c ^^^ b := by
  rw [UInt8.xor_assoc, UInt8.xor_comm b c, ← UInt8.xor_assoc]
theorem mulTo_acc (n : Nat) : ∀ a b p, mulTo n a b p = p ^^^ mulTo n a b 0 := by
  induction n with
  | zero => intro a b p; simp [mulTo]
  | succ n ih =>
    intro a b p
    simp only [mulTo]
    rw [ih, ih (p := if b &&& 1 = 0 then 0 else 0 ^^^ a)]
    by_cases h : b &&& 1 = 0
    · simp [h]
    · simp [h, UInt8.xor_assoc]
theorem mulTo_dbl (n : Nat) : ∀ a b p, mulTo n (dbl a) b (dbl p) = dbl (mulTo n a b p) := by
  induction n with
  | zero => intro a b p; rfl
  | succ n ih =>
    intro a b p
    simp only [mulTo]
    rw [← ih]
    by_cases h : b &&& 1 = 0
    · simp [h]
    · simp [h, dbl_xor]
theorem mulTo_add (n : Nat) : ∀ a a' b p p', mulTo n (a ^^^ a') b (p ^^^ p') = mulTo n a b p ^^^ mulTo n a' b p' := by
  induction n with
  | zero => intro a a' b p p'; rfl
  | succ n ih =>
    intro a a' b p p'
    simp only [mulTo]
    rw [dbl_xor, ← ih]
    by_cases h : b &&& 1 = 0
    · simp [h]
    · simp only [h, if_false]
      congr 1
      rw [UInt8.xor_assoc, UInt8.xor_assoc]
      congr 1
      rw [← UInt8.xor_assoc, ← UInt8.xor_assoc, UInt8.xor_comm p' a]
theorem mul_dbl (a b : UInt8) : mul (dbl a) b = dbl (mul a b) := by
  unfold mul
  rw [← mulTo_dbl, dbl_zero]
theorem mul_xor_left (a b c : UInt8) : mul (a ^^^ b) c = mul a c ^^^ mul b c := by
  unfold mul
  rw [← mulTo_add, UInt8.xor_zero]
theorem mul_zero_left (b : UInt8) : mul 0 b = 0 := by
  have h := mul_xor_left 0 0 b
  rw [UInt8.xor_self] at h
  rw [h, UInt8.xor_self]
theorem one_mul (b : UInt8) : mul 1 b = b := by
  revert b
  apply all_u8
  decide +kernel
theorem mul_zero (a : UInt8) : mul a 0 = 0 := by
  revert a
  apply all_u8
  decide +kernel

/-! powers of 2 -/
theorem ex_255 : ex 255 = 1 := by decide +kernel
theorem ex_add (m : Nat) (n : Nat) : mul (ex m) (ex n) = ex (m + n) := by
  induction m with
  | zero => simp [ex, one_mul]
  | succ m ih =>
    rw [Nat.add_right_comm]
    simp only [ex]
    rw [mul_dbl, ih]
theorem ex_period (n : Nat) : ex (n + 255) = ex n := by rw [Nat.add_comm, ← ex_add, ex_255, one_mul]
theorem ex_mul (k n : Nat) : ex (n + 255 * k) = ex n := by
  induction k with
  | zero => rfl
  | succ k ih => rw [Nat.mul_succ, ← Nat.add_assoc, ex_period, ih]
theorem ex_mod (n : Nat) : ex (n % 255) = ex n := by
  conv => rhs; rw [← Nat.mod_add_div n 255]
  rw [ex_mul]
theorem lg_lt : ∀ n, n < 256 → UInt8.ofNat n ≠ 0 → lg (UInt8.ofNat n) < 255 ∧ ex (lg (UInt8.ofNat n)) = UInt8.ofNat n := by decide +kernel
theorem lg_bd {a : UInt8} (h : a ≠ 0) : lg a < 255 := (all_u8 (P := fun a => a ≠ 0 → lg a < 255 ∧ ex (lg a) = a) lg_lt a h).1
theorem ex_lg {a : UInt8} (h : a ≠ 0) : ex (lg a) = a := (all_u8 (P := fun a => a ≠ 0 → lg a < 255 ∧ ex (lg a) = a) lg_lt a h).2
theorem lg_ex' : ∀ n, n < 255 → lg (ex n) = n := by decide +kernel
theorem lg_ex (n : Nat) : lg (ex n) = n % 255 := by
  rw [← ex_mod]
  exact lg_ex' _ (Nat.mod_lt _ (by decide))
theorem ex_ne' : ∀ n, n < 255 → ex n ≠ 0 := by decide +kernel
theorem ex_ne (n : Nat) : ex n ≠ 0 := by
  rw [← ex_mod]
  exact ex_ne' _ (Nat.mod_lt _ (by decide))
theorem ex_inj {m n : Nat} (h : ex m = ex n) : m % 255 = n % 255 := by rw [← lg_ex, ← lg_ex, h]

theorem mul_eq {a b : UInt8} (ha : a ≠ 0) (hb : b ≠ 0) : mul a b = ex (lg a + lg b) := by
  conv => lhs; rw [← ex_lg ha, ← ex_lg hb]
  exact ex_add _ _
theorem mul_comm (a b : UInt8) : mul a b = mul b a := by
  by_cases ha : a = 0
  · subst ha; rw [mul_zero_left, mul_zero]
  by_cases hb : b = 0
  · subst hb; rw [mul_zero_left, mul_zero]
  rw [mul_eq ha hb, mul_eq hb ha, Nat.add_comm]
theorem mul_ne {a b : UInt8} (ha : a ≠ 0) (hb : b ≠ 0) : mul a b ≠ 0 := by
  rw [mul_eq ha hb]; exact ex_ne _
theorem mul_eq_zero (a b : UInt8) : mul a b = 0 ↔ a = 0 ∨ b = 0 := by
  constructor
  · intro h
    by_cases ha : a = 0
    · exact .inl ha
    by_cases hb : b = 0
    · exact .inr hb
    exact absurd h (mul_ne ha hb)
  · rintro (h | h)
    · subst h; exact mul_zero_left _
    · subst h; exact mul_zero _
theorem lg_mul {a b : UInt8} (ha : a ≠ 0) (hb : b ≠ 0) : lg (mul a b) = (lg a + lg b) % 255 := by
  rw [mul_eq ha hb, lg_ex]
theorem mul_assoc (a b c : UInt8) : mul (mul a b) c = mul a (mul b c) := by
  by_cases ha : a = 0
  · subst ha; simp only [mul_zero_left]
  by_cases hb : b = 0
  · subst hb; simp only [mul_zero_left, mul_zero]
  by_cases hc : c = 0
  · subst hc; simp only [mul_zero]
  rw [mul_eq (mul_ne ha hb) hc, mul_eq ha (mul_ne hb hc), lg_mul ha hb, lg_mul hb hc]
  rw [← ex_mod, ← ex_mod (lg a + _)]
  congr 1
  omega
theorem mul_one (a : UInt8) : mul a 1 = a := by rw [mul_comm, one_mul]
theorem mul_xor (a b c : UInt8) : mul a (b ^^^ c) = mul a b ^^^ mul a c := by
  rw [mul_comm, mul_xor_left, mul_comm b, mul_comm c]
theorem mul_two (a : UInt8) : mul a 2 = dbl a := by
  have h : (2 : UInt8) = dbl 1 := by decide
  rw [mul_comm, h, mul_dbl, one_mul]

theorem add_comm (a b : UInt8) : add a b = add b a := UInt8.xor_comm _ _
theorem add_assoc (a b c : UInt8) : add (add a b) c = add a (add b c) := UInt8.xor_assoc _ _ _
theorem add_self (a : UInt8) : add a a = 0 := UInt8.xor_self
theorem add_zero (a : UInt8) : add a 0 = a := UInt8.xor_zero
theorem zero_add (a : UInt8) : add 0 a = a := UInt8.zero_xor
theorem add_left_comm (a b c : UInt8) : add a (add b c) = add b (add a c) := by rw [← add_assoc, add_comm a b, add_assoc]
theorem add_cancel (a b : UInt8) : add a (add a b) = b := by rw [← add_assoc, add_self, zero_add]
theorem add_eq_zero (a b : UInt8) : add a b = 0 ↔ a = b := by
  constructor
  · intro h
    have := add_cancel a b
    rw [h, add_zero] at this
    exact this
  · rintro rfl; exact add_self _
theorem mul_add (a b c : UInt8) : mul a (add b c) = add (mul a b) (mul a c) := mul_xor _ _ _
theorem add_mul (a b c : UInt8) : mul (add a b) c = add (mul a c) (mul b c) := mul_xor_left _ _ _
theorem mul_left_comm (a b c : UInt8) : mul a (mul b c) = mul b (mul a c) := by rw [← mul_assoc, mul_comm a b, mul_assoc]

/-- the inverse (0 of 0) -/
def inv (a : UInt8) : UInt8 := if a = 0 then 0 else ex (255 - lg a)
theorem inv_ne {a : UInt8} (h : a ≠ 0) : inv a ≠ 0 := by unfold inv; rw [if_neg h]; exact ex_ne _
theorem mul_inv {a : UInt8} (h : a ≠ 0) : mul a (inv a) = 1 := by
  unfold inv
  rw [if_neg h]
  have h1 := ex_add (lg a) (255 - lg a)
  have := lg_bd h
  rw [ex_lg h, show lg a + (255 - lg a) = 0 + 255 * 1 from by omega, ex_mul] at h1
  exact h1
theorem inv_mul {a : UInt8} (h : a ≠ 0) : mul (inv a) a = 1 := by rw [mul_comm, mul_inv h]
theorem inv_unique {a b : UInt8} (h : mul a b = 1) : b = inv a := by
  have ha : a ≠ 0 := by rintro rfl; rw [mul_zero_left] at h; exact absurd h (by decide)
  have := mul_assoc (inv a) a b
  rw [h, inv_mul ha, mul_one, one_mul] at this
  exact this
theorem inv_zero : inv 0 = 0 := rfl

/-- powers with a natural exponent -/
def npow (a : UInt8) : Nat → UInt8
  | 0 => 1
  | n + 1 => mul (npow a n) a
theorem npow_ex {a : UInt8} (h : a ≠ 0) (n : Nat) : npow a n = ex (lg a * n) := by
  induction n with
  | zero => rfl
  | succ n ih =>
    simp only [npow]
    have h1 := ex_add (lg a * n) (lg a)
    rw [ex_lg h] at h1
    rw [ih, h1, Nat.mul_succ]
/-- powers with an int exponent; of 0 with an exponent below 0: 0 -/
def pw (a : UInt8) (n : Int) : UInt8 := if n = 0 then 1 else if a = 0 then 0 else ex (lg a * (n % 255).toNat % 255)
theorem pw_ne {a : UInt8} (h : a ≠ 0) (n : Int) : pw a n = ex (lg a * (n % 255).toNat) := by
  unfold pw
  by_cases hn : n = 0
  · subst hn; rfl
  · rw [if_neg hn, if_neg h, ex_mod]

/-! the document's product: shifted sums, then the remainder -/
def redBit (p i : Nat) : Nat := if p.testBit i then p ^^^ (285 <<< (i - 8)) else p
def redN (p : Nat) : Nat := redBit (redBit (redBit (redBit (redBit (redBit (redBit p 14) 13) 12) 11) 10) 9) 8
theorem redBit_xor (p q i : Nat) : redBit (p ^^^ q) i = redBit p i ^^^ redBit q i := by
  unfold redBit
  rw [Nat.testBit_xor]
  generalize 285 <<< (i - 8) = c
  cases p.testBit i <;> cases q.testBit i <;> simp
  · rw [Nat.xor_assoc]
  · rw [Nat.xor_assoc, Nat.xor_assoc, Nat.xor_comm q c]
  · rw [Nat.xor_assoc, ← Nat.xor_assoc c q c, Nat.xor_comm c q, Nat.xor_assoc q c c, Nat.xor_self, Nat.xor_zero]
theorem redN_xor (p q : Nat) : redN (p ^^^ q) = redN p ^^^ redN q := by unfold redN; simp only [redBit_xor]
def sumTo (a b : Nat) : Nat → Nat
  | 0 => 0
  | n + 1 => if b.testBit n then sumTo a b n ^^^ (a <<< n) else sumTo a b n
def dblNs : Nat → Nat → Nat
  | 0, a => a
  | n + 1, a => dblN (dblNs n a)
theorem red_shift : ∀ a, a < 256 → ∀ i, i < 8 → redN (a <<< i) = dblNs i a := by decide +kernel
def dblSum (a b : Nat) : Nat → Nat
  | 0 => 0
  | n + 1 => if b.testBit n then dblSum a b n ^^^ dblNs n a else dblSum a b n
theorem red_sum (a b : Nat) (ha : a < 256) : ∀ n, n ≤ 8 → redN (sumTo a b n) = dblSum a b n
  | 0, _ => by show redN 0 = 0; decide
  | n + 1, h => by
    simp only [sumTo, dblSum]
    by_cases hb : b.testBit n = true
    · rw [if_pos hb, if_pos hb, redN_xor, red_sum a b ha n (by omega), red_shift a ha n (by omega)]
    · rw [if_neg hb, if_neg hb, red_sum a b ha n (by omega)]
def dbls : Nat → UInt8 → UInt8
  | 0, a => a
  | n + 1, a => dbl (dbls n a)
theorem dbls_toNat (n : Nat) (a : UInt8) : (dbls n a).toNat = dblNs n a.toNat := by
  induction n with
  | zero => rfl
  | succ n ih => simp only [dbls, dblNs, dbl_toNat, ih]
theorem dbls_succ (n : Nat) (a : UInt8) : dbls n (dbl a) = dbls (n + 1) a := by
  induction n with
  | zero => rfl
  | succ n ih => simp only [dbls] at ih ⊢; rw [ih]
def shs : Nat → UInt8 → UInt8
  | 0, b => b
  | n + 1, b => shs n b >>> 1
def sumD (a b : UInt8) : Nat → UInt8
  | 0 => 0
  | n + 1 => if b.toNat.testBit n then sumD a b n ^^^ dbls n a else sumD a b n
theorem shs_toNat (k : Nat) (b : UInt8) : (shs k b).toNat = b.toNat / 2 ^ k := by
  induction k with
  | zero => simp [shs]
  | succ k ih =>
    simp only [shs]
    rw [UInt8.toNat_shiftRight, ih]
    simp [Nat.shiftRight_eq_div_pow, Nat.div_div_eq_div_mul, Nat.pow_succ]
theorem shs_bit (k : Nat) (b : UInt8) : shs k b &&& 1 = 0 ↔ ¬ b.toNat.testBit k = true := by
  rw [← UInt8.toNat_inj, UInt8.toNat_and, shs_toNat, Nat.testBit_eq_decide_div_mod_eq]
  show (b.toNat / 2 ^ k) &&& 1 = 0 ↔ _
  rw [Nat.and_one_is_mod]
  simp
theorem mulTo_bits (a b : UInt8) (n : Nat) : ∀ k, mulTo n (dbls k a) (shs k b) (sumD a b k) = sumD a b (k + n) := by
  induction n with
  | zero => intro k; rfl
  | succ n ih =>
    intro k
    have h := ih (k + 1)
    rw [Nat.add_right_comm, Nat.add_assoc] at h
    rw [← h]
    simp only [mulTo]
    have e : (if shs k b &&& 1 = 0 then sumD a b k else sumD a b k ^^^ dbls k a) = sumD a b (k + 1) := by
      simp only [sumD]
      by_cases hb : b.toNat.testBit k = true
      · rw [if_pos hb, if_neg (fun h => (shs_bit k b).1 h hb)]
      · rw [if_neg hb, if_pos ((shs_bit k b).2 hb)]
    rw [e]
    rfl
theorem sumD_toNat (a b : UInt8) (k : Nat) : (sumD a b k).toNat = dblSum a.toNat b.toNat k := by
  induction k with
  | zero => rfl
  | succ k ih =>
    simp only [sumD, dblSum]
    by_cases hb : b.toNat.testBit k = true
    · rw [if_pos hb, if_pos hb, UInt8.toNat_xor, ih, dbls_toNat]
    · rw [if_neg hb, if_neg hb, ih]
theorem ref_mul (a b : UInt8) : redN (sumTo a.toNat b.toNat 8) = (mul a b).toNat := by
  rw [red_sum _ _ a.toNat_lt 8 (Nat.le_refl _), ← sumD_toNat]
  have h := mulTo_bits a b 8 0
  exact congrArg UInt8.toNat h.symm
theorem sumTo_lt (a b : Nat) (ha : a < 256) : ∀ n, n ≤ 8 → sumTo a b n < 2 ^ 15
  | 0, _ => by simp [sumTo]
  | n + 1, h => by
    have ih := sumTo_lt a b ha n (by omega)
    simp only [sumTo]
    have h1 : a <<< n < 2 ^ 15 := by
      rw [Nat.shiftLeft_eq]
      calc a * 2 ^ n ≤ 255 * 2 ^ 7 := Nat.mul_le_mul (by omega) (Nat.pow_le_pow_right (by omega) (by omega))
        _ < 2 ^ 15 := by decide
    by_cases hb : b.testBit n = true
    · rw [if_pos hb]; exact Nat.xor_lt_two_pow ih h1
    · rw [if_neg hb]; exact ih
theorem redBit_lt (p i : Nat) (hi : i ≤ 14) (hp : p < 2 ^ 15) : redBit p i < 2 ^ 15 := by
  unfold redBit
  by_cases hb : p.testBit i = true
  · rw [if_pos hb]
    refine Nat.xor_lt_two_pow hp ?_
    rw [Nat.shiftLeft_eq]
    calc 285 * 2 ^ (i - 8) ≤ 285 * 2 ^ 6 := Nat.mul_le_mul (Nat.le_refl _) (Nat.pow_le_pow_right (by omega) (by omega))
      _ < 2 ^ 15 := by decide
  · rw [if_neg hb]; exact hp
/-- what is left to reduce: the bits from i down to 8 -/
def redFrom : Nat → Nat → Nat
  | 0, p => p
  | n + 1, p => redFrom n (redBit p (n + 8))
theorem redFrom_all (p : Nat) : redFrom 7 p = redN p := rfl

/-! lists -/
/-- dst and c times src, place by place -/
def macL (dst : List UInt8) (c : UInt8) (src : List UInt8) : List UInt8 := List.zipWith (fun d s => add d (mul c s)) dst src
/-- the sum of the first i products -/
def dotTo (xs ys : List UInt8) : Nat → UInt8
  | 0 => 0
  | i + 1 => add (dotTo xs ys i) (mul (xs.getD i 0) (ys.getD i 0))
def dot (xs ys : List UInt8) : UInt8 := dotTo xs ys xs.length
end Go.Proofs.Ytaihgckcmcacfaa.Gf
namespace Go.Proofs.Ytaihgckcmcacfaa
open Go.RowKit
set_option linter.unusedVariables false
set_option linter.unusedSimpArgs false

theorem ret_u8 {a b : Int} (h : a = b) : Ending.returned (.int .u8 a) = .returned (.int .u8 b) := by rw [h]
theorem band_u8 (a b : UInt8) : bits .and .u8 (a.toNat : Int) (b.toNat : Int) = ((a &&& b).toNat : Int) := by
  rw [u8_and_nat _ _ a.toNat_lt b.toNat_lt, UInt8.toNat_and]
theorem bxor_u8 (a b : UInt8) : bits .xor .u8 (a.toNat : Int) (b.toNat : Int) = ((Gf.add a b).toNat : Int) := by
  unfold Gf.add
  rw [u8_xor_nat _ _ a.toNat_lt b.toNat_lt, UInt8.toNat_xor]
theorem toNat_zero (a : UInt8) : a.toNat = 0 ↔ a = 0 := UInt8.toNat_inj (b := 0)
theorem u8_eq_zero (a : UInt8) : ((a.toNat : Int) == 0) = decide (a = 0) := by
  rw [Bool.eq_iff_iff]; simp [toNat_zero]
theorem u8_shr1 (b : UInt8) : (b >>> 1).toNat = b.toNat / 2 := by
  rw [UInt8.toNat_shiftRight]; simp [Nat.shiftRight_eq_div_pow]
theorem double_yes : ∀ n, n < 256 → (bits BinOp.and IntKind.u8 ((UInt8.ofNat n).toNat : Int) 128 != 0) = true → bits BinOp.xor IntKind.u8 (((UInt8.ofNat n).toNat : Int) * 2 % 256) 29 = ((Gf.dbl (UInt8.ofNat n)).toNat : Int) := by decide +kernel
theorem double_no : ∀ n, n < 256 → (bits BinOp.and IntKind.u8 ((UInt8.ofNat n).toNat : Int) 128 != 0) = false → (((UInt8.ofNat n).toNat : Int) * 2 % 256) = ((Gf.dbl (UInt8.ofNat n)).toNat : Int) := by decide +kernel

set_option maxHeartbeats 400000 in
theorem double_calls (a : UInt8) (w : World) :
    Calls Try.prog 52 #[.int .u8 (a.toNat : Int)] w fun e w' => e = .returned (.int .u8 ((Gf.dbl a).toNat : Int)) ∧ w = w' := by
  go_enter Try.func52, Try.ntmps52
  go_wp2_with fail
  · go_ret
    exact ⟨ret_u8 (Gf.all_u8 (P := fun a => (bits BinOp.and IntKind.u8 (a.toNat : Int) 128 != 0) = true → bits BinOp.xor IntKind.u8 ((a.toNat : Int) * 2 % 256) 29 = ((Gf.dbl a).toNat : Int)) double_yes a ‹_›), rfl⟩
  · go_ret
    exact ⟨ret_u8 (Gf.all_u8 (P := fun a => (bits BinOp.and IntKind.u8 (a.toNat : Int) 128 != 0) = false → ((a.toNat : Int) * 2 % 256) = ((Gf.dbl a).toNat : Int)) double_no a ‹_›), rfl⟩

theorem shr_one_u8 (b : UInt8) : ((b >>> 1).toNat : Int) = (b.toNat : Int) / 2 := by
  rw [u8_shr1]; omega
theorem Gf.mulTo_zero (n : Nat) : ∀ a p, Gf.mulTo n a 0 p = p := by
  induction n with
  | zero => intro a p; rfl
  | succ n ih => intro a p; simp only [Gf.mulTo]; rw [if_pos (by decide)]; exact ih _ _
theorem and_one_u8 (b : UInt8) : (bits .and .u8 (b.toNat : Int) 1 != 0) = !decide (b &&& 1 = 0) := by
  have := band_u8 b 1
  rw [show ((1 : UInt8).toNat : Int) = 1 from rfl] at this
  rw [this]
  show (!(((b &&& 1).toNat : Int) == 0)) = _
  rw [u8_eq_zero]

end Go.Proofs.Ytaihgckcmcacfaa
namespace Go.Proofs.Ytaihgckcmcacfaa
open Go.RowKit
set_option linter.unusedVariables false
set_option linter.unusedSimpArgs false

set_option maxHeartbeats 400000 in
theorem mul_calls (a b : UInt8) (w : World) :
    Calls Try.prog 39 #[.int .u8 (a.toNat : Int), .int .u8 (b.toNat : Int)] w fun e w' => e = .returned (.int .u8 ((Gf.mul a b).toNat : Int)) ∧ w = w' := by
  go_enter Try.func39, Try.ntmps39
  go_wp2_with fail
  go_loop [0, 1, 5] (fun v0 v1 v5 => ∃ (n : Nat) (x y p : UInt8), v0 = .int .u8 (x.toNat : Int) ∧ v1 = .int .u8 (y.toNat : Int) ∧ v5 = .int .u8 (p.toNat : Int) ∧ Hid (Gf.mulTo n x y p = Gf.mul a b ∧ y.toNat < 2 ^ n)) (fun _ v1 _ => (intOf v1).toNat)
  case atStart => exact ⟨8, a, b, 0, rfl, rfl, rfl, rfl, b.toNat_lt⟩
  case round =>
    obtain ⟨n, x, y, p, rfl, rfl, rfl, H⟩ := hrel
    by_cases hy : y = 0
    · have hy1 : ((y.toNat : Int) != 0) = false := by show (!((y.toNat : Int) == 0)) = false; rw [u8_eq_zero, hy]; rfl
      have HY := Lib.hid hy
      clear hy
      go_wp2_with fail
      go_ret
      obtain ⟨H1, _⟩ := H.out
      rw [HY.out, Gf.mulTo_zero] at H1
      exact ⟨ret_u8 (by rw [H1]), rfl⟩
    · have hy1 : ((y.toNat : Int) != 0) = true := by show (!((y.toNat : Int) == 0)) = true; rw [u8_eq_zero, decide_eq_false hy]; rfl
      have hpos : 0 < y.toNat := Nat.pos_of_ne_zero (fun h => hy ((toNat_zero y).1 h))
      have hs := shr_one_u8 y
      obtain ⟨m, rfl⟩ : ∃ m, n = m + 1 := by
        cases n with
        | zero => exact absurd H.out.2 (by simp; omega)
        | succ m => exact ⟨m, rfl⟩
      have HS := Lib.hid hs
      clear hs
      by_cases h1 : y &&& 1 = 0
      · have hb : (bits .and .u8 (y.toNat : Int) 1 != 0) = false := by rw [and_one_u8, h1]; rfl
        have H1 := Lib.hid h1
        clear h1 hy
        go_wp2_with (go_at_call 52; refine (double_calls _ _).mono ?_; rintro e w' ⟨rfl, rfl⟩)
        go_round
        case rel =>
          refine ⟨m, Gf.dbl x, y >>> 1, p, rfl, by rw [HS.out], rfl, ?_, ?_⟩
          · have h := H.out.1
            simp only [Gf.mulTo, H1.out, if_true] at h
            exact h
          · have h := H.out.2
            rw [u8_shr1]
            omega
        case measure => simp [intOf]; omega
      · have hb : (bits .and .u8 (y.toNat : Int) 1 != 0) = true := by rw [and_one_u8, decide_eq_false h1]; rfl
        have H1 := Lib.hid h1
        clear h1 hy
        go_wp2_with (go_at_call 52; refine (double_calls _ _).mono ?_; rintro e w' ⟨rfl, rfl⟩)
        go_round
        case rel =>
          refine ⟨m, Gf.dbl x, y >>> 1, Gf.add p x, rfl, by rw [HS.out], by rw [bxor_u8], ?_, ?_⟩
          · have h := H.out.1
            simp only [Gf.mulTo] at h
            rw [if_neg H1.out] at h
            exact h
          · have h := H.out.2
            rw [u8_shr1]
            omega
        case measure => simp [intOf]; omega

end Go.Proofs.Ytaihgckcmcacfaa
namespace Go.Proofs.Ytaihgckcmcacfaa
open Go.RowKit Go.Proofs.YtaihgckcmcacfaaW.PrintWords
set_option linter.unusedVariables false
set_option linter.unusedSimpArgs false

def field_Mul.f (a b : Int) : Option Int := if (byteB a && byteB b) = true then some ((Gf.mul (toU a) (toU b)).toNat : Int) else none
theorem field_Mul.calls (a0 : Int) (a1 : Int) (r : Int) (w : World)  (h : field_Mul.f a0 a1 = some r) :
    Calls Try.prog 39 #[.int .u8 a0, .int .u8 a1] w fun e w' => e = .returned (.int .u8 r) ∧ Drawn0 w w' := by
  unfold field_Mul.f at h
  split at h
  · rename_i hi
    rw [Bool.and_eq_true] at hi
    obtain rfl := Option.some.inj h
    have hc := mul_calls (toU a0) (toU a1) w
    rw [toU_of hi.1, toU_of hi.2] at hc
    refine hc.mono ?_
    rintro e w' ⟨rfl, rfl⟩
    exact ⟨rfl, 0, rfl⟩
  · cases h
end Go.Proofs.Ytaihgckcmcacfaa
namespace Go.Proofs.Ytaihgckcmcacfaa
open Go.RowKit
set_option linter.unusedVariables false
set_option linter.unusedSimpArgs false

theorem ofInt_i64 (a : Nat) (ha : a < 9223372036854775808) : (BitVec.ofInt 64 (a : Int)).toNat = a := by
  rw [BitVec.ofInt_natCast, BitVec.toNat_ofNat]; exact Nat.mod_eq_of_lt (by omega)
theorem i64_and_nat (a b : Nat) (ha : a < 9223372036854775808) (hb : b < 9223372036854775808) : bits .and .i64 (a : Int) (b : Int) = ((a &&& b : Nat) : Int) := by
  have hx : a &&& b < 2 ^ 63 := Nat.and_lt_two_pow _ (by omega)
  show IntKind.i64.wrap ((BitVec.ofInt 64 (a : Int) &&& BitVec.ofInt 64 (b : Int)).toNat : Int) = _
  rw [BitVec.toNat_and, ofInt_i64 a ha, ofInt_i64 b hb, IntKind.wrap_i64]
  omega
theorem i64_xor_nat (a b : Nat) (ha : a < 9223372036854775808) (hb : b < 9223372036854775808) : bits .xor .i64 (a : Int) (b : Int) = ((a ^^^ b : Nat) : Int) := by
  have hx : a ^^^ b < 2 ^ 63 := Nat.xor_lt_two_pow (by omega) (by omega)
  show IntKind.i64.wrap ((BitVec.ofInt 64 (a : Int) ^^^ BitVec.ofInt 64 (b : Int)).toNat : Int) = _
  rw [BitVec.toNat_xor, ofInt_i64 a ha, ofInt_i64 b hb, IntKind.wrap_i64]
  omega
theorem testb_u8 (b : UInt8) (i : Nat) : (bits BinOp.and IntKind.u8 ((b.toNat : Int) / 2 ^ i) 1 == 1) = b.toNat.testBit i := by
  have e : ((b.toNat : Int) / 2 ^ i) = ((b.toNat / 2 ^ i : Nat) : Int) := by simp
  have hb : b.toNat / 2 ^ i < 256 := Nat.lt_of_le_of_lt (Nat.div_le_self _ _) b.toNat_lt
  rw [e, show (1 : Int) = ((1 : Nat) : Int) from rfl, u8_and_nat _ _ hb (by decide), Nat.and_one_is_mod, Nat.testBit_eq_decide_div_mod_eq, Bool.eq_iff_iff]
  simp
  omega
theorem testb_i64 (p i : Nat) (hp : p < 2 ^ 15) : (bits BinOp.and IntKind.i64 ((p : Int) / 2 ^ i) 1 == 1) = p.testBit i := by
  have e : ((p : Int) / 2 ^ i) = ((p / 2 ^ i : Nat) : Int) := by simp
  have hb : p / 2 ^ i < 2 ^ 15 := Nat.lt_of_le_of_lt (Nat.div_le_self _ _) hp
  rw [e, show (1 : Int) = ((1 : Nat) : Int) from rfl, i64_and_nat _ _ (by omega) (by decide), Nat.and_one_is_mod, Nat.testBit_eq_decide_div_mod_eq, Bool.eq_iff_iff]
  simp
  omega
theorem shl_i64 (a i : Nat) (ha : a < 512) (hi : i < 8) : wrap64 (wrap64 (a : Int) * 2 ^ i) = ((a <<< i : Nat) : Int) := by
  have h1 : wrap64 (a : Int) = a := by unfold wrap64; omega
  have h2 : a * 2 ^ i ≤ 512 * 2 ^ 7 := Nat.mul_le_mul (by omega) (Nat.pow_le_pow_right (by omega) (by omega))
  have e : (a : Int) * 2 ^ i = ((a * 2 ^ i : Nat) : Int) := by simp
  rw [h1, Nat.shiftLeft_eq, e]
  unfold wrap64
  omega
theorem i64_eq {a b : Int} (h : a = b) : Value.int .i64 a = .int .i64 b := by rw [h]

theorem ref_step1 (a b : UInt8) (i : Nat) (hi : i < 8) (h : (bits BinOp.and IntKind.u8 ((b.toNat : Int) / 2 ^ i) 1 == 1) = true) :
    bits BinOp.xor IntKind.i64 (Gf.sumTo a.toNat b.toNat i : Int) (wrap64 (wrap64 (a.toNat : Int) * 2 ^ i)) = (Gf.sumTo a.toNat b.toNat (i + 1) : Int) := by
  rw [testb_u8] at h
  have h1 := Gf.sumTo_lt a.toNat b.toNat a.toNat_lt i (by omega)
  have ha := a.toNat_lt
  have h2 : a.toNat <<< i < 2 ^ 16 := by
    rw [Nat.shiftLeft_eq]
    have : a.toNat * 2 ^ i ≤ 255 * 2 ^ 7 := Nat.mul_le_mul (by omega) (Nat.pow_le_pow_right (by omega) (by omega))
    omega
  rw [shl_i64 _ _ (by omega) hi, i64_xor_nat _ _ (by omega) (by omega)]
  simp only [Gf.sumTo, h, if_true]
theorem ref_step0 (a b : UInt8) (i : Nat) (h : (bits BinOp.and IntKind.u8 ((b.toNat : Int) / 2 ^ i) 1 == 1) = false) :
    (Gf.sumTo a.toNat b.toNat i : Int) = (Gf.sumTo a.toNat b.toNat (i + 1) : Int) := by
  rw [testb_u8] at h
  simp [Gf.sumTo, h]
theorem ref_red1 (p i : Nat) (hp : p < 2 ^ 15) (h8 : 8 ≤ i) (hi : i ≤ 14) (h : (bits BinOp.and IntKind.i64 ((p : Int) / 2 ^ i) 1 == 1) = true) :
    bits BinOp.xor IntKind.i64 (p : Int) (wrap64 (285 * 2 ^ (i - 8))) = (Gf.redBit p i : Int) := by
  rw [testb_i64 _ _ hp] at h
  have e := shl_i64 285 (i - 8) (by omega) (by omega)
  have e1 : wrap64 ((285 : Nat) : Int) = 285 := by unfold wrap64; omega
  rw [e1] at e
  have h2 : 285 <<< (i - 8) < 2 ^ 16 := by
    rw [Nat.shiftLeft_eq]
    have : 285 * 2 ^ (i - 8) ≤ 285 * 2 ^ 6 := Nat.mul_le_mul (Nat.le_refl _) (Nat.pow_le_pow_right (by omega) (by omega))
    omega
  rw [e, i64_xor_nat _ _ (by omega) (by omega)]
  simp only [Gf.redBit, h, if_true]
theorem ref_red0 (p i : Nat) (hp : p < 2 ^ 15) (h : (bits BinOp.and IntKind.i64 ((p : Int) / 2 ^ i) 1 == 1) = false) : (p : Int) = (Gf.redBit p i : Int) := by
  rw [testb_i64 _ _ hp] at h
  simp [Gf.redBit, h]

set_option maxHeartbeats 400000 in
theorem refMul_calls (a b : UInt8) (w : World) :
    Calls Try.prog 28 #[.int .u8 (a.toNat : Int), .int .u8 (b.toNat : Int)] w fun e w' => e = .returned (.int .u8 ((Gf.mul a b).toNat : Int)) ∧ w = w' := by
  go_enter Try.func28, Try.ntmps28
  go_wp2_with fail
  go_loop [5, 6] (fun v5 v6 => ∃ i : Nat, i ≤ 8 ∧ v5 = .int .i64 (Gf.sumTo a.toNat b.toNat i : Int) ∧ v6 = .int .i64 (i : Int)) (fun _ v6 => 8 - (intOf v6).toNat)
  case atStart => exact ⟨0, by omega, rfl, rfl⟩
  case round =>
    obtain ⟨i, hi, rfl, rfl⟩ := hrel
    by_cases hlt : i < 8
    · go_wp2_with fail
      · go_round
        case rel => exact ⟨i + 1, by omega, i64_eq (ref_step1 a b i hlt ‹_›), by go_num⟩
        case measure => simp [intOf]; omega
      · go_round
        case rel => exact ⟨i + 1, by omega, i64_eq (ref_step0 a b i ‹_›), by go_num⟩
        case measure => simp [intOf]; omega
    · obtain rfl : i = 8 := by omega
      have HL := Gf.sumTo_lt a.toNat b.toNat a.toNat_lt 8 (by omega)
      have HM := Lib.hid (Gf.ref_mul a b)
      generalize Gf.sumTo a.toNat b.toNat 8 = s at *
      go_wp2_with fail
      go_loop [5, 7] (fun v5 v7 => ∃ (p n : Nat), n ≤ 7 ∧ p < 2 ^ 15 ∧ v5 = .int .i64 (p : Int) ∧ v7 = .int .i64 ((n + 7 : Nat) : Int) ∧ Hid (Gf.redFrom n p = Gf.redN s)) (fun _ v7 => (intOf v7).toNat)
      case atStart => exact ⟨s, 7, by omega, HL, rfl, rfl, rfl⟩
      case round =>
        obtain ⟨p, n, hn, hp, rfl, rfl, H⟩ := hrel
        by_cases hlt : 1 ≤ n
        · obtain ⟨m, rfl⟩ : ∃ m, n = m + 1 := ⟨n - 1, by omega⟩
          have hm : m + 1 + 7 = m + 8 := by omega
          rw [hm]
          go_wp2_with fail
          · go_round
            case rel => exact ⟨Gf.redBit p (m + 8), m, by omega, Gf.redBit_lt _ _ (by omega) hp, i64_eq (ref_red1 p (m + 8) hp (by omega) (by omega) ‹_›), by go_num, H⟩
            case measure => simp [intOf]; omega
          · go_round
            case rel => exact ⟨Gf.redBit p (m + 8), m, by omega, Gf.redBit_lt _ _ (by omega) hp, i64_eq (ref_red0 p (m + 8) hp ‹_›), by go_num, H⟩
            case measure => simp [intOf]; omega
        · obtain rfl : n = 0 := by omega
          go_wp2_with fail
          go_ret
          have h := H.out
          rw [HM.out] at h
          simp only [Gf.redFrom] at h
          have hl := (Gf.mul a b).toNat_lt
          exact ⟨ret_u8 (by omega), rfl⟩

end Go.Proofs.Ytaihgckcmcacfaa
namespace Go.Proofs.Ytaihgckcmcacfaa
open Go.RowKit Go.Proofs.YtaihgckcmcacfaaW.PrintWords
set_option linter.unusedVariables false
set_option linter.unusedSimpArgs false

def recoupref01_Mul.f (a b : Int) : Option Int := if (byteB a && byteB b) = true then some ((Gf.mul (toU a) (toU b)).toNat : Int) else none
theorem recoupref01_Mul.calls (a0 : Int) (a1 : Int) (r : Int) (w : World)  (h : recoupref01_Mul.f a0 a1 = some r) :
    Calls Try.prog 28 #[.int .u8 a0, .int .u8 a1] w fun e w' => e = .returned (.int .u8 r) ∧ Drawn0 w w' := by
  unfold recoupref01_Mul.f at h
  split at h
  · rename_i hi
    rw [Bool.and_eq_true] at hi
    obtain rfl := Option.some.inj h
    have hc := refMul_calls (toU a0) (toU a1) w
    rw [toU_of hi.1, toU_of hi.2] at hc
    refine hc.mono ?_
    rintro e w' ⟨rfl, rfl⟩
    exact ⟨rfl, 0, rfl⟩
  · cases h
end Go.Proofs.Ytaihgckcmcacfaa
namespace Go.Proofs.Ytaihgckcmcacfaa
set_option linter.unusedVariables false
set_option linter.unusedSimpArgs false

/-- R rows of C entries, row by row -/
def gridD (R C : Nat) (f : Nat → Nat → UInt8) : List UInt8 := (List.range (R * C)).map fun p => f (p / C) (p % C)
theorem grid_length (R C : Nat) (f : Nat → Nat → UInt8) : (gridD R C f).length = R * C := by simp [gridD]
theorem place_lt {R C i j : Nat} (hi : i < R) (hj : j < C) : i * C + j < R * C := by
  have h : (i + 1) * C ≤ R * C := Nat.mul_le_mul_right C hi
  rw [Nat.add_mul] at h
  omega
theorem place_div {C i j : Nat} (hj : j < C) : (i * C + j) / C = i := by
  rw [Nat.add_comm, Nat.add_mul_div_right _ _ (by omega), Nat.div_eq_of_lt hj, Nat.zero_add]
theorem place_mod {C i j : Nat} (hj : j < C) : (i * C + j) % C = j := by
  rw [Nat.add_comm, Nat.add_mul_mod_self_right, Nat.mod_eq_of_lt hj]
theorem place_of {R C p : Nat} (hp : p < R * C) : p / C < R ∧ p % C < C ∧ p = p / C * C + p % C := by
  have hC : 0 < C := by
    rcases Nat.eq_zero_or_pos C with h | h
    · subst h; simp at hp
    · exact h
  refine ⟨(Nat.div_lt_iff_lt_mul hC).2 hp, Nat.mod_lt _ hC, ?_⟩
  have := Nat.div_add_mod p C
  rw [Nat.mul_comm] at this
  omega
theorem grid_get {R C i j : Nat} (f : Nat → Nat → UInt8) (hi : i < R) (hj : j < C) : (gridD R C f)[i * C + j]? = some (f i j) := by
  simp only [gridD, List.getElem?_map, List.getElem?_range (place_lt hi hj), Option.map_some, place_div hj, place_mod hj]
theorem grid_getD {R C i j : Nat} (f : Nat → Nat → UInt8) (hi : i < R) (hj : j < C) : (gridD R C f).getD (i * C + j) 0 = f i j := by
  rw [List.getD_eq_getElem?_getD, grid_get f hi hj]; rfl
theorem grid_congr {R C : Nat} {f g : Nat → Nat → UInt8} (h : ∀ i j, i < R → j < C → f i j = g i j) : gridD R C f = gridD R C g := by
  unfold gridD
  apply List.map_congr_left
  intro p hp
  obtain ⟨h1, h2, _⟩ := place_of (List.mem_range.1 hp)
  exact h _ _ h1 h2
theorem grid_ext {R C : Nat} {xs : List UInt8} {f : Nat → Nat → UInt8} (hl : xs.length = R * C) (h : ∀ i j, i < R → j < C → xs[i * C + j]? = some (f i j)) : xs = gridD R C f := by
  apply List.ext_getElem?
  intro p
  rcases Nat.lt_or_ge p (R * C) with hp | hp
  · obtain ⟨h1, h2, h3⟩ := place_of hp
    rw [h3, h _ _ h1 h2, grid_get f h1 h2]
  · rw [List.getElem?_eq_none (by omega), List.getElem?_eq_none (by rw [grid_length]; omega)]
theorem grid_of {R C : Nat} {xs : List UInt8} (hl : xs.length = R * C) : xs = gridD R C (fun i j => xs.getD (i * C + j) 0) := by
  refine grid_ext hl fun i j hi hj => ?_
  have := place_lt hi hj
  rw [List.getD_eq_getElem?_getD, List.getElem?_eq_getElem (by omega)]
  rfl
theorem grid_zero (R C : Nat) : List.replicate (R * C) 0 = gridD R C (fun _ _ => 0) := by
  unfold gridD
  rw [List.map_const', List.length_range]
theorem place_inj {C i j a b : Nat} (hj : j < C) (hb : b < C) (h : i * C + j = a * C + b) : i = a ∧ j = b :=
  ⟨by have h1 := congrArg (· / C) h; simpa only [place_div hj, place_div hb] using h1, by have h1 := congrArg (· % C) h; simpa only [place_mod hj, place_mod hb] using h1⟩
theorem grid_set {R C i j : Nat} (f : Nat → Nat → UInt8) (v : UInt8) (hi : i < R) (hj : j < C) : (gridD R C f).set (i * C + j) v = gridD R C (fun a b => if a = i ∧ b = j then v else f a b) := by
  refine grid_ext (by rw [List.length_set, grid_length]) fun a b ha hb => ?_
  rw [List.getElem?_set]
  by_cases h : i * C + j = a * C + b
  · obtain ⟨rfl, rfl⟩ := place_inj hj hb h
    rw [if_pos rfl, if_pos (by rw [grid_length]; exact place_lt hi hj), if_pos ⟨rfl, rfl⟩]
  · rw [if_neg h, grid_get f ha hb, if_neg (by rintro ⟨rfl, rfl⟩; exact h rfl)]
theorem grid_row {R C i : Nat} (f : Nat → Nat → UInt8) (hi : i < R) : ((gridD R C f).drop (i * C)).take C = (List.range C).map (f i) := by
  apply List.ext_getElem?
  intro j
  rw [List.getElem?_take]
  rcases Nat.lt_or_ge j C with hj | hj
  · rw [if_pos hj, List.getElem?_drop, grid_get f hi hj, List.getElem?_map, List.getElem?_range hj]; rfl
  · rw [if_neg (by omega), List.getElem?_eq_none (by simpa using hj)]
theorem grid_take {R C i j : Nat} (f : Nat → Nat → UInt8) (hi : i < R) (hj : j < C) : (gridD R C f).take (i * C + j) ++ [f i j] = (gridD R C f).take (i * C + j + 1) := by
  rw [List.take_add_one, grid_get f hi hj]; rfl

/-- filled row by row up to (i, j) -/
def fillT (R C : Nat) (f : Nat → Nat → UInt8) (i j : Nat) : List UInt8 := gridD R C (fun a b => if a < i ∨ (a = i ∧ b < j) then f a b else 0)
theorem fillT_start (R C : Nat) (f : Nat → Nat → UInt8) : List.replicate (R * C) 0 = fillT R C f 0 0 := by
  rw [grid_zero]
  exact grid_congr fun i j _ _ => (if_neg (by omega)).symm
theorem fillT_set {R C i j : Nat} (f : Nat → Nat → UInt8) (hi : i < R) (hj : j < C) : (fillT R C f i j).set (i * C + j) (f i j) = fillT R C f i (j + 1) := by
  unfold fillT
  rw [grid_set _ _ hi hj]
  refine grid_congr fun a b _ _ => ?_
  by_cases h : a = i ∧ b = j
  · rw [if_pos h, if_pos (by omega), h.1, h.2]
  · rw [if_neg h]
    by_cases h2 : a < i ∨ (a = i ∧ b < j)
    · rw [if_pos h2, if_pos (by omega)]
    · rw [if_neg h2, if_neg (by omega)]
theorem fillT_next (R C i : Nat) (f : Nat → Nat → UInt8) : fillT R C f i C = fillT R C f (i + 1) 0 := by
  refine grid_congr fun a b _ hb => ?_
  by_cases h : a < i ∨ (a = i ∧ b < C)
  · rw [if_pos h, if_pos (by omega)]
  · rw [if_neg h, if_neg (by omega)]
theorem fillT_end (R C : Nat) (f : Nat → Nat → UInt8) : fillT R C f R 0 = gridD R C f := grid_congr fun a b ha _ => if_pos (by omega)
theorem fillT_length (R C i j : Nat) (f : Nat → Nat → UInt8) : (fillT R C f i j).length = R * C := grid_length _ _ _
theorem fillT_at {R C i j : Nat} (f : Nat → Nat → UInt8) (hi : i < R) (hj : j < C) : (fillT R C f i j).set (i * C + j) 0 = fillT R C f i j := by
  unfold fillT
  rw [grid_set _ _ hi hj]
  refine grid_congr fun a b _ _ => ?_
  by_cases h : a = i ∧ b = j
  · rw [if_pos h, if_neg (by omega)]
  · rw [if_neg h]
/-- filled column by column up to (i, j): column j as far as row i -/
def fillC (R C : Nat) (f : Nat → Nat → UInt8) (j i : Nat) : List UInt8 := gridD R C (fun a b => if b < j ∨ (b = j ∧ a < i) then f a b else 0)
theorem fillC_start (R C : Nat) (f : Nat → Nat → UInt8) : List.replicate (R * C) 0 = fillC R C f 0 0 := by
  rw [grid_zero]
  exact grid_congr fun i j _ _ => (if_neg (by omega)).symm
theorem fillC_set {R C i j : Nat} (f : Nat → Nat → UInt8) (hi : i < R) (hj : j < C) : (fillC R C f j i).set (i * C + j) (f i j) = fillC R C f j (i + 1) := by
  unfold fillC
  rw [grid_set _ _ hi hj]
  refine grid_congr fun a b _ _ => ?_
  by_cases h : a = i ∧ b = j
  · rw [if_pos h, if_pos (by omega), h.1, h.2]
  · rw [if_neg h]
    by_cases h2 : b < j ∨ (b = j ∧ a < i)
    · rw [if_pos h2, if_pos (by omega)]
    · rw [if_neg h2, if_neg (by omega)]
theorem fillC_next (R C j : Nat) (f : Nat → Nat → UInt8) : fillC R C f j R = fillC R C f (j + 1) 0 := by
  refine grid_congr fun a b ha _ => ?_
  by_cases h : b < j ∨ (b = j ∧ a < R)
  · rw [if_pos h, if_pos (by omega)]
  · rw [if_neg h, if_neg (by omega)]
theorem fillC_end (R C : Nat) (f : Nat → Nat → UInt8) : fillC R C f C 0 = gridD R C f := grid_congr fun a b _ hb => if_pos (by omega)
theorem fillC_length (R C i j : Nat) (f : Nat → Nat → UInt8) : (fillC R C f i j).length = R * C := grid_length _ _ _

/-! sums -/
def sumF : Nat → (Nat → UInt8) → UInt8
  | 0, _ => 0
  | n + 1, f => Gf.add (sumF n f) (f n)
theorem sumF_congr {n : Nat} {f g : Nat → UInt8} (h : ∀ i, i < n → f i = g i) : sumF n f = sumF n g := by
  induction n with
  | zero => rfl
  | succ n ih => rw [sumF, sumF, ih (fun i hi => h i (by omega)), h n (by omega)]
theorem sumF_add (n : Nat) (f g : Nat → UInt8) : sumF n (fun i => Gf.add (f i) (g i)) = Gf.add (sumF n f) (sumF n g) := by
  induction n with
  | zero => exact (Gf.zero_add 0).symm
  | succ n ih => simp only [sumF, ih]; rw [Gf.add_assoc, Gf.add_assoc, Gf.add_left_comm (sumF n g)]
theorem sumF_zero (n : Nat) : sumF n (fun _ => 0) = 0 := by
  induction n with
  | zero => rfl
  | succ n ih => rw [sumF, ih]; rfl
theorem sumF_mul (n : Nat) (c : UInt8) (f : Nat → UInt8) : Gf.mul c (sumF n f) = sumF n (fun i => Gf.mul c (f i)) := by
  induction n with
  | zero => exact Gf.mul_zero c
  | succ n ih => rw [sumF, sumF, Gf.mul_add, ih]
theorem sumF_mul_right (n : Nat) (c : UInt8) (f : Nat → UInt8) : Gf.mul (sumF n f) c = sumF n (fun i => Gf.mul (f i) c) := by
  rw [Gf.mul_comm, sumF_mul]
  exact sumF_congr fun i _ => Gf.mul_comm _ _
theorem sumF_swap (m n : Nat) (f : Nat → Nat → UInt8) : sumF m (fun i => sumF n (fun j => f i j)) = sumF n (fun j => sumF m (fun i => f i j)) := by
  induction m with
  | zero => rw [sumF]; exact (sumF_zero n).symm
  | succ m ih => simp only [sumF]; rw [ih, ← sumF_add]
/-- only the entry k counts -/
theorem sumF_one {n k : Nat} (hk : k < n) {f : Nat → UInt8} (h : ∀ i, i < n → i ≠ k → f i = 0) : sumF n f = f k := by
  induction n with
  | zero => omega
  | succ n ih =>
    rw [sumF]
    by_cases e : k = n
    · subst e
      rw [sumF_congr (g := fun _ => 0) (fun i hi => h i (by omega) (by omega)), sumF_zero, Gf.zero_add]
    · rw [ih (by omega) (fun i hi hne => h i (by omega) hne), h n (by omega) (fun h => e h.symm), Gf.add_zero]
/-- a sum over m times n places -/
theorem sumF_split (n : Nat) (f : Nat → UInt8) : ∀ m, sumF (m * n) f = sumF m (fun i => sumF n (fun j => f (i * n + j)))
  | 0 => by rw [Nat.zero_mul]; rfl
  | m + 1 => by
    rw [sumF, ← sumF_split n f m, Nat.add_mul, Nat.one_mul]
    generalize m * n = k
    induction n with
    | zero => rw [sumF, Gf.add_zero]; rfl
    | succ n ih => rw [← Nat.add_assoc, sumF, sumF, ih, Gf.add_assoc]
theorem dotTo_sum (xs ys : List UInt8) : ∀ n, Gf.dotTo xs ys n = sumF n (fun k => Gf.mul (xs.getD k 0) (ys.getD k 0))
  | 0 => rfl
  | n + 1 => by rw [Gf.dotTo, sumF, dotTo_sum xs ys n]
theorem dot_sum {xs ys : List UInt8} {n : Nat} (h : xs.length = n) : Gf.dot xs ys = sumF n (fun k => Gf.mul (xs.getD k 0) (ys.getD k 0)) := by
  unfold Gf.dot; rw [h, dotTo_sum]
end Go.Proofs.Ytaihgckcmcacfaa
namespace Go.Proofs.Ytaihgckcmcacfaa
set_option linter.unusedVariables false
set_option linter.unusedSimpArgs false

/-- how many coefficients stay of the first n, without the noughts at their end -/
def trimN (xs : List UInt8) : Nat → Nat
  | 0 => 0
  | n + 1 => if xs.getD n 0 = 0 then trimN xs n else n + 1
def trimE (xs : List UInt8) : Nat := trimN xs xs.length
def trimL (xs : List UInt8) : List UInt8 := xs.take (trimE xs)
theorem trimN_le (xs : List UInt8) : ∀ n, trimN xs n ≤ n
  | 0 => Nat.le_refl _
  | n + 1 => by
    unfold trimN
    split
    · exact Nat.le_succ_of_le (trimN_le xs n)
    · exact Nat.le_refl _
theorem trimE_le (xs : List UInt8) : trimE xs ≤ xs.length := trimN_le xs _
theorem trimL_length (xs : List UInt8) : (trimL xs).length = trimE xs := by
  unfold trimL
  rw [List.length_take]
  have := trimE_le xs
  omega
theorem trimN_high (xs : List UInt8) : ∀ n i, trimN xs n ≤ i → i < n → xs.getD i 0 = 0
  | 0, _, _, h => by omega
  | n + 1, i, h1, h2 => by
    unfold trimN at h1
    split at h1
    · rename_i h0
      by_cases e : i = n
      · rw [e]; exact h0
      · exact trimN_high xs n i h1 (by omega)
    · omega
theorem getD_out (xs : List UInt8) (i : Nat) (h : xs.length ≤ i) : xs.getD i 0 = 0 := by
  rw [List.getD_eq_getElem?_getD, List.getElem?_eq_none h]; rfl
theorem trimE_high (xs : List UInt8) (i : Nat) (h : trimE xs ≤ i) : xs.getD i 0 = 0 := by
  rcases Nat.lt_or_ge i xs.length with h1 | h1
  · exact trimN_high xs _ i h h1
  · exact getD_out xs i h1
theorem trimN_top (xs : List UInt8) : ∀ n, 0 < trimN xs n → xs.getD (trimN xs n - 1) 0 ≠ 0
  | 0, h => by unfold trimN at h; omega
  | n + 1, h => by
    unfold trimN at h ⊢
    split
    · rename_i h0
      rw [if_pos h0] at h
      exact trimN_top xs n h
    · rename_i h0
      exact h0
theorem trimE_top (xs : List UInt8) (h : 0 < trimE xs) : xs.getD (trimE xs - 1) 0 ≠ 0 := trimN_top xs _ h
/-- what decides it: nothing from n on, and something at n - 1 -/
theorem trimE_of {xs : List UInt8} {n : Nat} (h1 : ∀ i, n ≤ i → xs.getD i 0 = 0) (h2 : 0 < n → xs.getD (n - 1) 0 ≠ 0) : trimE xs = n := by
  rcases Nat.lt_trichotomy (trimE xs) n with h | h | h
  · exact absurd (trimE_high xs (n - 1) (by omega)) (h2 (by omega))
  · exact h
  · exact absurd (h1 (trimE xs - 1) (by omega)) (trimE_top xs (by omega))
theorem trimL_getD (xs : List UInt8) (i : Nat) : (trimL xs).getD i 0 = xs.getD i 0 := by
  unfold trimL
  rw [List.getD_eq_getElem?_getD, List.getElem?_take]
  split
  · rw [List.getD_eq_getElem?_getD]
  · rw [trimE_high xs i (by omega)]; rfl
theorem list_ext0 {xs ys : List UInt8} (hl : xs.length = ys.length) (h : ∀ i, xs.getD i 0 = ys.getD i 0) : xs = ys := by
  apply List.ext_getElem hl
  intro i h1 h2
  have := h i
  rw [List.getD_eq_getElem?_getD, List.getD_eq_getElem?_getD, List.getElem?_eq_getElem h1, List.getElem?_eq_getElem h2] at this
  exact this
theorem trimE_congr {xs ys : List UInt8} (h : ∀ i, xs.getD i 0 = ys.getD i 0) : trimE xs = trimE ys :=
  trimE_of (fun i hi => by rw [h]; exact trimE_high ys i hi) (fun h0 => by rw [h]; exact trimE_top ys h0)
/-- two lists with the same coefficients are the same when trimmed -/
theorem trimL_congr {xs ys : List UInt8} (h : ∀ i, xs.getD i 0 = ys.getD i 0) : trimL xs = trimL ys :=
  list_ext0 (by rw [trimL_length, trimL_length, trimE_congr h]) (fun i => by rw [trimL_getD, trimL_getD]; exact h i)
theorem trimE_trimL (xs : List UInt8) : trimE (trimL xs) = trimE xs := trimE_congr (fun i => trimL_getD xs i)
theorem trimL_idem (xs : List UInt8) : trimL (trimL xs) = trimL xs := trimL_congr (fun i => trimL_getD xs i)
theorem trimL_self {xs : List UInt8} (h : trimE xs = xs.length) : trimL xs = xs := by
  unfold trimL
  rw [h, List.take_length]
theorem trimE_nil : trimE [] = 0 := rfl
theorem trimL_nil : trimL [] = [] := rfl
theorem trimN_step {xs : List UInt8} {k : Nat} (h : xs.getD k 0 = 0) : trimN xs (k + 1) = trimN xs k := by
  show (if xs.getD k 0 = 0 then trimN xs k else k + 1) = trimN xs k
  rw [if_pos h]
theorem trimN_stop {xs : List UInt8} {k : Nat} (h : xs.getD k 0 ≠ 0) : trimN xs (k + 1) = k + 1 := by
  show (if xs.getD k 0 = 0 then trimN xs k else k + 1) = k + 1
  rw [if_neg h]
end Go.Proofs.Ytaihgckcmcacfaa
namespace Go.Proofs.Ytaihgckcmcacfaa
open Go.RowKit
set_option linter.unusedVariables false
set_option linter.unusedSimpArgs false

theorem rd_trim {w : World} {B : Nat} {A : Option Addr} {xs : List UInt8} {n : Nat} (h : Rd w B A n (bVs xs)) : Rd w B A (trimE xs) (bVs (trimL xs)) := by
  have hl : xs.length = n := by have := h.len; rw [bVs_length] at this; exact this
  have h2 := h.take (k := trimE xs) (by have := trimE_le xs; omega)
  rw [bVs_take] at h2
  exact h2
set_option maxHeartbeats 800000 in
theorem trimmed_calls (A : Option Addr) (n cap : Nat) (xs : List UInt8) (w : World) (hr : Rd w w.heap.size A n (bVs xs)) (hcap : n ≤ cap) (hn : n ≤ 140737488355328) :
    Calls Try.prog 38 #[.slice A n cap] w fun e w' => e = .returned (.slice A (trimE xs) cap) ∧ w = w' := by
  have hl : xs.length = n := by have := hr.len; rw [bVs_length] at this; exact this
  have HL := Lib.hid (show trimE xs = trimN xs n by unfold trimE; rw [hl])
  clear hl
  go_enter Try.func38, Try.ntmps38
  go_wp2_with fail
  go_loop [3] (fun v3 => ∃ k : Nat, k ≤ n ∧ v3 = .int .i64 (k : Int) ∧ Hid (trimE xs = trimN xs k)) (fun v3 => (intOf v3).toNat)
  case atStart => exact ⟨n, Nat.le_refl _, rfl, HL⟩
  case round =>
    obtain ⟨k, hk, rfl, HK⟩ := hrel
    by_cases h0 : 0 < k
    · obtain ⟨j, rfl⟩ : ∃ j, k = j + 1 := ⟨k - 1, by omega⟩
      obtain ⟨g, o, rfl, hg, hcell⟩ := rd_get hr (k := j) (by omega)
      have d0 : decide ((0 : Int) < ((j + 1 : Nat) : Int)) = true := decide_eq_true (by omega)
      have e1 : IntKind.i64.wrap (((j + 1 : Nat) : Int) - 1) = (j : Int) := by rw [IntKind.wrap_i64]; omega
      have e2 : (((j + 1 : Nat) : Int) - 1) = (j : Int) := by omega
      have j0 : (0 : Int) ≤ (j : Int) := by omega
      obtain ⟨x, hx⟩ : ∃ x, x = xs.getD j 0 := ⟨_, rfl⟩
      rw [← hx] at hcell
      by_cases hz : x = 0
      · have HS := Lib.hid (show trimN xs (j + 1) = trimN xs j from trimN_step (by rw [← hx, hz]))
        subst hz
        clear hx
        go_wp2_with fail
        go_round
        case rel => exact ⟨j, by omega, by first | rfl | go_num, by rw [← HS.out]; exact HK.out⟩
        case measure => simp [intOf]
      · have HS := Lib.hid (show trimN xs (j + 1) = j + 1 from trimN_stop (by rw [← hx]; exact hz))
        have hq : ((x.toNat : Int) == 0) = false := by rw [u8_eq_zero]; simpa using hz
        clear hx hz
        go_wp2_with fail
        go_ret
        exact ⟨by rw [HK.out, HS.out]; rfl, rfl⟩
    · obtain rfl : k = 0 := by omega
      go_wp2_with fail
      go_ret
      exact ⟨by rw [HK.out]; rfl, rfl⟩
end Go.Proofs.Ytaihgckcmcacfaa
namespace Go.Proofs.Ytaihgckcmcacfaa
open Go.RowKit
set_option linter.unusedVariables false
set_option linter.unusedSimpArgs false

/-- v is a slice value of the call's own (nil, or made from block base on) that holds the bytes xs. -/
def OwnV (w : World) (base : Nat) (v : Value) (xs : List UInt8) : Prop := w.ownsRow base 5 1 v xs.length (bVs xs)
theorem OwnV.nil (w : World) (base : Nat) : OwnV w base (.slice none 0 0) [] := ⟨rfl, .inl ⟨rfl, rfl⟩⟩
theorem OwnV.slice {w : World} {base : Nat} {v : Value} {xs : List UInt8} (h : OwnV w base v xs) : ∃ A cap, v = .slice A xs.length cap ∧ OwnB w base A xs.length cap xs := by
  rcases h.2 with ⟨rfl, h0⟩ | ⟨g, cap, cur, rfl, hrest⟩
  · rw [h0]; exact ⟨none, 0, rfl, h0, by have := h; unfold OwnV at this; rw [h0] at this; exact this⟩
  · exact ⟨_, _, rfl, rfl, h⟩
theorem OwnV.drewN {w : World} {base : Nat} {v : Value} {xs : List UInt8} (h : OwnV w base v xs) (k : Nat) : OwnV (w.drewN k) base v xs := h
theorem OwnV.below {w w' : World} {base : Nat} {v : Value} {xs : List UInt8} (h : OwnV w base v xs) (hb : Below w.heap.size w w') : OwnV w' base v xs := by
  have hg : w.grownBy w' (some w.heap.size) := ⟨hb.os, hb.tape, hb.output, hb.size, fun k hk _ => hb.block k hk⟩
  refine World.ownsRow.kept h hg ?_
  rcases hv : v.ownBlock with _ | q
  · exact .inl rfl
  · refine .inr (fun e => ?_)
    have := (World.ownsRow.lt h q hv).2
    injection e with e
    omega
theorem OwnV.kept {w w' : World} {base : Nat} {v : Value} {xs : List UInt8} {row : Option Nat} (h : OwnV w base v xs) (hg : w.grownBy w' row) (hne : v.ownBlock = none ∨ v.ownBlock ≠ row) : OwnV w' base v xs := World.ownsRow.kept h hg hne

/-- 'out = append(out, y)', one byte, as the walk meets it behind the new one-cell block. -/
theorem wpList_append_byte {ops : Array Oper} {rest : List Oper} {o : Oper} {a : Act} {w0 : World} {Q : Exit → Act → World → Prop} (s x : Operand) (hgd : o.guard = none)
    (ho : o.op = .call { callee := .builtin .append, args := #[s, x], argTypes := #[22, 22] })
    (base : Nat) (v : Value) (xs : List UInt8) (y : UInt8) (hs : a.eval s = v) (hown : OwnV w0 base v xs) (hx : a.eval x = .slice (some ⟨w0.heap.size, 0, none⟩) 1 1)
    (hlen : xs.length + 1 ≤ 140737488355328) (hbase : base ≤ w0.heap.size)
    (h : ∀ v' w', OwnV w' base v' (xs ++ [y]) → Below base w0 w' → w0.grownBy w' v.ownBlock → wpList Try.prog ops Q rest (a.put o.dst v') w') :
    wpList Try.prog ops Q (o :: rest) a (w0.alloc (.cells #[.int .u8 (y.toNat : Int)] 5)) := by
  obtain ⟨i, hi, hz, hsz, hby⟩ := info_parts u8_info
  refine wpList_append_own _ hgd s x 22 ho base 5 i (.int .u8 0) 1 1 Try.underlying22 hi hz hsz hby rfl (by decide) v xs.length (bVs xs) hs (World.ownsRow.alloc hown _) ⟨w0.heap.size, 0, none⟩ 1 1 (bVs [y]) hx rfl ?_ ?_ ?_ ?_ ?_ ?_
  · intro j u hu
    have hj : j = 0 := by
      rcases Nat.lt_or_ge j (bVs [y]).length with hlt | hge
      · simp [bVs] at hlt; omega
      · rw [List.getElem?_eq_none hge] at hu; cases hu
    subst hj
    simp only [bVs, List.map_cons, List.map_nil, List.getElem?_cons_zero, Option.some.injEq] at hu
    subst hu
    simp [Addr.add]
  · exact fun u hu => bVs_one hu
  · simp only [maxLen]; omega
  · omega
  · simp; omega
  · intro v' w' hown' hg _
    refine h v' w' ?_ ?_ ?_
    · unfold OwnV
      rw [bVs_append, List.length_append]
      exact hown'
    · exact ((Below.refl base w0).alloc hbase _).grown hg (by simp; omega) (fun k hk => (hown.lt k hk).1)
    · exact ⟨hg.os, hg.tape, hg.output, Nat.le_trans (by simp) hg.size, fun k hk hne => (hg.block k (by simp; omega) hne).trans (Below.heap_alloc _ _ _ hk)⟩

/-- the same in a region that draws its order; gx: the new one-cell block -/
theorem step_append_byte {ops : Array Oper} {o : Oper} {a : Act} {W : World} {K : Act → World → Prop} {Q : Exit → Act → World → Prop} {E : Prop} (s x : Operand) (hgd : o.guard = none)
    (ho : o.op = .call { callee := .builtin .append, args := #[s, x], argTypes := #[22, 22] })
    (base gx : Nat) (v : Value) (xs : List UInt8) (y : UInt8) (hs : a.eval s = v) (hown : OwnV W base v xs) (hx : a.eval x = .slice (some ⟨gx, 0, none⟩) 1 1) (hc : W.cell? ⟨gx, 0, none⟩ = some (.int .u8 (y.toNat : Int)))
    (hlen : xs.length + 1 ≤ 140737488355328) (hbase : base ≤ W.heap.size)
    (h : ∀ v' w', OwnV w' base v' (xs ++ [y]) → Below base W w' → W.grownBy w' v.ownBlock → K (a.put o.dst v') w') :
    if Region.wanted o (yielded ops a.tmps) = true then Oper.wp Try.prog o a W K Q else E := by
  have hw : Region.wanted o (yielded ops a.tmps) = true := by simp [Region.wanted, hgd]
  rw [if_pos hw]
  obtain ⟨i, hi, hz, hsz, hby⟩ := info_parts u8_info
  refine wp_append_own _ s x 22 ho base 5 i (.int .u8 0) 1 1 Try.underlying22 hi hz hsz hby rfl (by decide) v xs.length (bVs xs) hs hown ⟨gx, 0, none⟩ 1 1 (bVs [y]) hx rfl ?_ ?_ ?_ ?_ hbase ?_
  · intro j u hu
    have hj : j = 0 := by
      rcases Nat.lt_or_ge j (bVs [y]).length with hlt | hge
      · simp [bVs] at hlt; omega
      · rw [List.getElem?_eq_none hge] at hu; cases hu
    subst hj
    simp only [bVs, List.map_cons, List.map_nil, List.getElem?_cons_zero, Option.some.injEq] at hu
    subst hu
    simpa [Addr.add] using hc
  · exact fun u hu => bVs_one hu
  · simp only [maxLen]; omega
  · omega
  · intro v' w' hown' hg _
    refine h v' w' ?_ ((Below.refl base W).grown hg hbase (fun k hk => (hown.lt k hk).1)) hg
    unfold OwnV
    rw [bVs_append, List.length_append]
    exact hown'

theorem run_append_nil_any (w : World) (base : Nat) (ty : TypeId) (v : Value) (xs : List UInt8) (hown : OwnV w base v xs) (c : Nat) :
    (Builtin.append_ #[22, 22] ty #[v, .slice none 0 c]).run Try.prog w = .ok v w := by
  obtain ⟨i, hi, hz, hsz, hby⟩ := info_parts u8_info
  have ht := Try.underlying22
  rcases hown.2 with ⟨rfl, h0⟩ | ⟨g, cap, cur, rfl, _, _, hnc, _⟩
  · simp [Builtin.append_, run_underlying ht, sizeOf, typeInfo, hi, Builtin.lenOf, Builtin.firstCells]
  · simp [Builtin.append_, run_underlying ht, sizeOf, typeInfo, hi, Builtin.lenOf, Builtin.firstCells, hnc, storeCells]
/-- 'append(v, ys...)', v the call's own, ys whatever list that reads. -/
theorem run_append_rd (w : World) (base : Nat) (ty : TypeId) (v : Value) (xs ys : List UInt8) (hown : OwnV w base v xs) (B : Nat) (A : Option Addr) (m c : Nat) (hr : Rd w B A m (bVs ys))
    (hlen : xs.length + m ≤ 140737488355328) (hbase : base ≤ w.heap.size) :
    ∃ v' w', (Builtin.append_ #[22, 22] ty #[v, .slice A m c]).run Try.prog w = .ok v' w' ∧ OwnV w' base v' (xs ++ ys) ∧ w.grownBy w' v.ownBlock ∧ (v'.ownBlock = v.ownBlock ∨ v'.ownBlock = some w.heap.size) := by
  have hm := hr.len
  rw [bVs_length] at hm
  rcases A with _ | ad
  · have h0 : m = 0 := by
      rcases Nat.eq_zero_or_pos m with h | h
      · exact h
      · obtain ⟨g, o, hA, _⟩ := hr.2 h; cases hA
    subst h0
    have hy : ys = [] := List.eq_nil_of_length_eq_zero hm
    subst hy
    exact ⟨v, w, run_append_nil_any w base ty v xs hown c, by rw [List.append_nil]; exact hown, World.grownBy.refl w _, .inl rfl⟩
  · obtain ⟨i, hi, hz, hsz, hby⟩ := info_parts u8_info
    obtain ⟨v', w', hrun, h2, h3, _, h5⟩ := run_append_own_at (P := Try.prog) w base 22 ty 5 i (.int .u8 0) 1 1 Try.underlying22 hi hz hsz hby rfl (by decide) v xs.length (bVs xs) hown ad m c (bVs ys) (by rw [bVs_length]; omega)
      (fun j u hu => by
        have hj : j < m := by
          rcases Nat.lt_or_ge j m with h | h
          · exact h
          · rw [List.getElem?_eq_none (by rw [bVs_length]; omega)] at hu; cases hu
        obtain ⟨g, o, hA, _, hc⟩ := hr.2 (by omega)
        injection hA with hA
        subst hA
        have := hc j u hu
        unfold Addr.add
        split
        · next h0 => subst h0; simpa using this
        · exact this)
      (fun u hu => bVs_one hu) (by simp only [maxLen]; omega) (by omega) hbase
    refine ⟨v', w', hrun, ?_, h3, h5⟩
    unfold OwnV
    rw [bVs_append, List.length_append, hm]
    exact h2
theorem wpList_append_rd {ops : Array Oper} {rest : List Oper} {o : Oper} {a : Act} {W : World} {Q : Exit → Act → World → Prop} (s x : Operand) (hgd : o.guard = none)
    (ho : o.op = .call { callee := .builtin .append, args := #[s, x], argTypes := #[22, 22] })
    (base : Nat) (v : Value) (xs ys : List UInt8) (hs : a.eval s = v) (hown : OwnV W base v xs) (B : Nat) (A : Option Addr) (m c : Nat) (hx : a.eval x = .slice A m c) (hr : Rd W B A m (bVs ys))
    (hlen : xs.length + m ≤ 140737488355328) (hbase : base ≤ W.heap.size)
    (h : ∀ v' w', OwnV w' base v' (xs ++ ys) → W.grownBy w' v.ownBlock → (v'.ownBlock = v.ownBlock ∨ v'.ownBlock = some W.heap.size) → wpList Try.prog ops Q rest (a.put o.dst v') w') : wpList Try.prog ops Q (o :: rest) a W := by
  obtain ⟨v', w', hrun, h1, h2, h3⟩ := run_append_rd W base o.type v xs ys hown B A m c hr hlen hbase
  refine wpList_plain hgd fun _ hK => ?_
  unfold Oper.wp execOp
  simp only [ho, resolve, invoke, builtin, Sem.run_bind, Sem.run_pure, Result.andThen_ok, List.map_toArray, List.map_cons, List.map_nil, hs, hx, hrun]
  exact hK _ _ (h v' w' h1 h2 h3)
/-- an empty list that was just made -/
theorem own_empty (w : World) (base : Nat) (hb : base ≤ w.heap.size) (t : TypeId) (ht : t = 5) : OwnV (w.alloc (.cells #[] t)) base (.slice (some ⟨w.heap.size, 0, none⟩) 0 0) [] := by
  subst ht
  exact ⟨rfl, .inr ⟨w.heap.size, 0, #[], rfl, hb, heap_alloc_new w _, Nat.le_refl _, Nat.zero_le _, rfl, rfl⟩⟩
theorem grown_below {B : Nat} {w w' : World} {row : Option Nat} (hg : w.grownBy w' row) (hB : B ≤ w.heap.size) (hr : ∀ k, row = some k → B ≤ k) : Below B w w' := (Below.refl B w).grown hg hB hr
theorem OwnV.base_le {w : World} {base : Nat} {v : Value} {xs : List UInt8} (h : OwnV w base v xs) : ∀ k, v.ownBlock = some k → base ≤ k ∧ k < w.heap.size := World.ownsRow.lt h

theorem OwnV.slice' {w : World} {base n : Nat} {v : Value} {xs : List UInt8} (h : OwnV w base v xs) (hn : xs.length = n) : ∃ A cap, v = .slice A n cap ∧ OwnB w base A n cap xs := by
  subst hn; exact h.slice
theorem grown_setCell {a w : World} {row : Option Nat} (h : a.grownBy w row) {p : Addr} (hp : some p.block = row ∨ a.heap.size ≤ p.block) (u : Value) : a.grownBy (w.setCell p u) row :=
  ⟨h.os, h.tape, h.output, by simpa using h.size, fun k hk hne => (Below.heap_setCell w p u k (by
    rintro rfl
    rcases hp with hp | hp
    · exact hne hp
    · omega)).trans (h.block k hk hne)⟩
theorem grown_alloc {a w : World} {row : Option Nat} (h : a.grownBy w row) (o : Obj) : a.grownBy (w.alloc o) row :=
  ⟨h.os, h.tape, h.output, Nat.le_trans h.size (by simp), fun k hk hne => (Below.heap_alloc w o k (Nat.lt_of_lt_of_le hk h.size)).trans (h.block k hk hne)⟩
theorem grown_drewN {a w : World} {row : Option Nat} (h : a.grownBy w row) (n : Nat) : a.grownBy (w.drewN n) row := ⟨h.os, h.tape, h.output, h.size, h.block⟩
theorem grown_below' {a w w' : World} {row : Option Nat} (h : a.grownBy w row) (hb : Below w.heap.size w w') : a.grownBy w' row :=
  ⟨hb.os.trans h.os, hb.tape.trans h.tape, hb.output.trans h.output, Nat.le_trans h.size hb.size, fun k hk hne => (hb.block k (Nat.lt_of_lt_of_le hk h.size)).trans (h.block k hk hne)⟩
theorem rd_new (w : World) (xs : List UInt8) (n : Nat) (hn : xs.length = n) (t : TypeId) : Rd (w.alloc (.cells (bVs xs).toArray t)) (w.heap.size + 1) (some ⟨w.heap.size, 0, none⟩) n (bVs xs) := by
  refine ⟨by rw [bVs_length, hn], fun _ => ⟨w.heap.size, 0, rfl, by omega, fun j u hu => ?_⟩⟩
  rw [Nat.zero_add, cell_of_row _ _ _ _ _ _ (heap_alloc_new w _), List.getElem?_toArray]
  exact hu
theorem OwnB.spoil {w w' : World} {base n cap : Nat} {A : Option Addr} {xs : List UInt8} {row : Option Nat} (h : OwnB w base A n cap xs) (hg : w.grownBy w' row) (hne : ∀ k, row = some k → k < base) : OwnB w' base A n cap xs := by
  refine h.keep fun g hA => ?_
  subst hA
  have := h.row g rfl
  refine hg.block g this.2 ?_
  intro e
  have := hne g e.symm
  omega
theorem Rd.spoil {w w' : World} {B n : Nat} {A : Option Addr} {xs : List Value} {row : Option Nat} (h : Rd w B A n xs) (hg : w.grownBy w' row) (hB : B ≤ w.heap.size) (hr : ∀ k, row = some k → B ≤ k) : Rd w' B A n xs :=
  h.keep fun k hk => hg.block k (by omega) (fun e => by have := hr k e.symm; omega)
end Go.Proofs.Ytaihgckcmcacfaa
namespace Go.Proofs.Ytaihgckcmcacfaa
open Go.RowKit
set_option linter.unusedVariables false
set_option linter.unusedSimpArgs false

set_option maxHeartbeats 400000 in
theorem sclone_own (A : Option Addr) (n cap : Nat) (xs : List UInt8) (w : World) (hr : Rd w w.heap.size A n (bVs xs)) (hn : n ≤ 140737488355328) :
    Calls Try.prog 37 #[.slice A n cap] w fun e w' => ∃ A' cap', e = .returned (.slice A' n cap') ∧ OwnB w' w.heap.size A' n cap' xs ∧ Below w.heap.size w w' := by
  cases A with
  | none =>
    have h0 : n = 0 := by
      rcases Nat.eq_zero_or_pos n with h | h
      · exact h
      · obtain ⟨g, o, h, _⟩ := hr.2 h; cases h
    subst h0
    have hx : xs = [] := by have := hr.len; rw [bVs_length] at this; exact List.eq_nil_of_length_eq_zero this
    subst hx
    have heq := fun w : World => Lib.run_eql_slice_nil (P := Try.prog) w 22 5 none 0 cap 0 0 Try.underlying22
    go_enter Try.func37, Try.ntmps37
    go_wp2_with fail
    go_ret
    exact ⟨none, 0, rfl, ⟨rfl, rfl, .inl ⟨rfl, rfl⟩⟩, Below.refl _ _⟩
  | some ad =>
    have heq := fun w : World => Lib.run_eql_slice_nil (P := Try.prog) w 22 5 (some ad) n cap 0 0 Try.underlying22
    go_enter Try.func37, Try.ntmps37
    go_wp2_with (at_builtin; refine wpList_append_rd (.tmp 5) (.tmp 6) rfl rfl w.heap.size _ [] xs rfl (own_empty w _ (Nat.le_refl _) _ rfl) w.heap.size (some ad) n cap rfl (hr.below ((Below.refl _ _).alloc (Nat.le_refl _) _) (Nat.le_refl _)) (by simpa using hn) (by simp) ?_; intro v1 w1 ho1 hg1 hat1)
    go_ret
    obtain ⟨A', cap', e, ho'⟩ := ho1.slice' (n := n) (by have := hr.len; rw [bVs_length] at this; simpa using this)
    exact ⟨A', cap', by rw [e]; rfl, by simpa using ho', ((Below.refl _ _).alloc (Nat.le_refl _) _).trans (grown_below hg1 (by simp) (fun k hk => Nat.le_of_eq (Option.some.inj hk)))⟩
end Go.Proofs.Ytaihgckcmcacfaa
namespace Go.Proofs.Ytaihgckcmcacfaa
open Go.RowKit Go.Proofs.YtaihgckcmcacfaaW.PrintWords
set_option linter.unusedVariables false
set_option linter.unusedSimpArgs false

theorem trim_calls (A : Option Addr) (n cap : Nat) (xs : List UInt8) (w : World) (hr : Rd w w.heap.size A n (bVs xs)) (hcap : n ≤ cap) (hn : n ≤ 140737488355328) :
    Calls Try.prog 14 #[.slice A n cap] w fun e w' => ∃ A' cap', e = .returned (.slice A' (trimE xs) cap') ∧ OwnB w' w.heap.size A' (trimE xs) cap' (trimL xs) ∧ Below w.heap.size w w' := by
  have hl : xs.length = n := by have := hr.len; rw [bVs_length] at this; exact this
  have hle := trimE_le xs
  have HT := Lib.hid (fun w h => trimmed_calls A n cap xs w h hcap hn)
  have HC := Lib.hid (fun w h => sclone_own A (trimE xs) cap (trimL xs) w h (by omega))
  have HR := Lib.hid hr
  clear hr
  go_enter Try.func14, Try.ntmps14
  go_wp2_with fail
  refine (HT.out _ HR.out).mono ?_
  rintro e w' ⟨rfl, rfl⟩
  go_wp2_with fail
  refine (HC.out _ (rd_trim HR.out)).mono ?_
  rintro e w' ⟨A', cap', rfl, ho, hb⟩
  go_wp2_with fail
  go_ret
  exact ⟨A', cap', rfl, ho, hb⟩
theorem degree_calls (A : Option Addr) (n cap : Nat) (xs : List UInt8) (w : World) (hr : Rd w w.heap.size A n (bVs xs)) (hcap : n ≤ cap) (hn : n ≤ 140737488355328) :
    Calls Try.prog 16 #[.slice A n cap] w fun e w' => e = .returned (.int .i64 ((trimE xs : Int) - 1)) ∧ w = w' := by
  have hl : xs.length = n := by have := hr.len; rw [bVs_length] at this; exact this
  have hle := trimE_le xs
  have hb : trimE xs ≤ 140737488355328 := by omega
  have HT := Lib.hid (trimmed_calls A n cap xs w hr hcap hn)
  go_enter Try.func16, Try.ntmps16
  go_wp2_with fail
  refine HT.out.mono ?_
  rintro e w' ⟨rfl, rfl⟩
  go_wp2_with fail
  go_ret
  exact ⟨rfl, rfl⟩
def poly_Trim.f (l : List Int) : Option (List Int) := if (inU l && decide (l.length ≤ 140737488355328)) = true then some (nI (trimL (l.map toU))) else none
theorem poly_Trim.calls (A0 : Option Addr) (c0 : Nat) (l0 : List Int) (r : List Int) (w : World) (hr0 : Kd.C (Kd.int .u8) w A0 l0.length l0) (hc0 : l0.length ≤ c0) (h : poly_Trim.f l0 = some r) :
    Calls Try.prog 14 #[.slice A0 l0.length c0] w fun e w' => ∃ v0_ : Value, e = .returned (v0_) ∧ Kd.R (Kd.int .u8) 5 w' w.heap.size (fun _ => True) v0_ r ∧ Below w.heap.size w w' := by
  unfold poly_Trim.f at h
  split at h
  · rename_i hi
    simp only [Bool.and_eq_true, decide_eq_true_eq] at hi
    obtain rfl := Option.some.inj h
    obtain ⟨xs, rfl⟩ := ints_of hi.1
    rw [nI_length] at hi hc0 ⊢
    rw [nI_toU]
    refine (trim_calls A0 xs.length c0 xs w (rd_of_C hr0) hc0 hi.2).mono ?_
    rintro e w' ⟨A', cap', rfl, ho, hb⟩
    exact ⟨_, rfl, R_of_own ho, hb⟩
  · cases h
def poly_Degree.f (l : List Int) : Option Int := if (inU l && decide (l.length ≤ 140737488355328)) = true then some ((trimE (l.map toU) : Int) - 1) else none
theorem poly_Degree.calls (A0 : Option Addr) (c0 : Nat) (l0 : List Int) (r : Int) (w : World) (hr0 : Kd.C (Kd.int .u8) w A0 l0.length l0) (hc0 : l0.length ≤ c0) (h : poly_Degree.f l0 = some r) :
    Calls Try.prog 16 #[.slice A0 l0.length c0] w fun e w' => e = .returned (.int .i64 r) ∧ Drawn0 w w' := by
  unfold poly_Degree.f at h
  split at h
  · rename_i hi
    simp only [Bool.and_eq_true, decide_eq_true_eq] at hi
    obtain rfl := Option.some.inj h
    obtain ⟨xs, rfl⟩ := ints_of hi.1
    rw [nI_length] at hi hc0 ⊢
    rw [nI_toU]
    refine (degree_calls A0 xs.length c0 xs w (rd_of_C hr0) hc0 hi.2).mono ?_
    rintro e w' ⟨rfl, rfl⟩
    exact ⟨rfl, 0, rfl⟩
  · cases h
end Go.Proofs.Ytaihgckcmcacfaa
namespace Go.Proofs.Ytaihgckcmcacfaa
set_option linter.unusedVariables false
set_option linter.unusedSimpArgs false

def pwN (x : UInt8) : Nat → UInt8
  | 0 => 1
  | n + 1 => Gf.mul (pwN x n) x
theorem pwN_add (x : UInt8) (m : Nat) : ∀ n, pwN x (m + n) = Gf.mul (pwN x m) (pwN x n)
  | 0 => (Gf.mul_one _).symm
  | n + 1 => by
    rw [← Nat.add_assoc, pwN, pwN_add x m n, pwN, Gf.mul_assoc]
def evN (f : Nat → UInt8) (x : UInt8) (n : Nat) : UInt8 := sumF n fun i => Gf.mul (f i) (pwN x i)
/-- the value of a polynomial -/
def ev (xs : List UInt8) (x : UInt8) : UInt8 := evN (fun i => xs.getD i 0) x xs.length
theorem evN_more {f : Nat → UInt8} {x : UInt8} {n : Nat} (h : ∀ i, n ≤ i → f i = 0) : ∀ m, evN f x (n + m) = evN f x n
  | 0 => rfl
  | m + 1 => by
    have ih := evN_more (x := x) h m
    unfold evN at ih ⊢
    rw [← Nat.add_assoc, sumF, ih, h (n + m) (by omega), Gf.mul_comm, Gf.mul_zero, Gf.add_zero]
theorem evN_len {f : Nat → UInt8} {x : UInt8} {n m : Nat} (h : ∀ i, n ≤ i → f i = 0) (hm : n ≤ m) : evN f x m = evN f x n := by
  obtain ⟨d, rfl⟩ : ∃ d, m = n + d := ⟨m - n, by omega⟩
  exact evN_more h d
theorem ev_evN (xs : List UInt8) (x : UInt8) {m : Nat} (h : xs.length ≤ m) : ev xs x = evN (fun i => xs.getD i 0) x m := (evN_len (fun i hi => getD_out xs i hi) h).symm
theorem ev_congr {xs ys : List UInt8} (x : UInt8) (h : ∀ i, xs.getD i 0 = ys.getD i 0) : ev xs x = ev ys x := by
  rw [ev_evN xs x (Nat.le_max_left xs.length ys.length), ev_evN ys x (Nat.le_max_right xs.length ys.length)]
  unfold evN
  exact sumF_congr fun i _ => by show Gf.mul (xs.getD i 0) _ = Gf.mul (ys.getD i 0) _; rw [h]
theorem ev_trim (xs : List UInt8) (x : UInt8) : ev (trimL xs) x = ev xs x := ev_congr x (fun i => trimL_getD xs i)
theorem sumF_shift (f : Nat → UInt8) : ∀ n, sumF (n + 1) f = Gf.add (f 0) (sumF n (fun i => f (i + 1)))
  | 0 => by rw [sumF, sumF, sumF, Gf.add_comm]
  | n + 1 => by rw [sumF, sumF_shift f n, sumF, Gf.add_assoc]
/-- from the top down -/
def hor (xs : List UInt8) (x : UInt8) : Nat → UInt8
  | 0 => 0
  | d + 1 => Gf.add (Gf.mul (hor xs x d) x) (xs.getD (xs.length - (d + 1)) 0)
theorem hor_sum (xs : List UInt8) (x : UInt8) : ∀ d, d ≤ xs.length → hor xs x d = sumF d (fun t => Gf.mul (xs.getD (xs.length - d + t) 0) (pwN x t))
  | 0, _ => rfl
  | d + 1, h => by
    rw [hor, hor_sum xs x d (by omega), sumF_shift, sumF_mul_right, Gf.add_comm]
    refine congr (congrArg Gf.add ?_) (sumF_congr fun t _ => ?_)
    · show _ = Gf.mul (xs.getD (xs.length - (d + 1) + 0) 0) 1
      rw [Gf.mul_one]
      rfl
    · show _ = Gf.mul (xs.getD (xs.length - (d + 1) + (t + 1)) 0) (Gf.mul (pwN x t) x)
      rw [← Gf.mul_assoc, show xs.length - (d + 1) + (t + 1) = xs.length - d + t by omega]
theorem hor_ev (xs : List UInt8) (x : UInt8) : hor xs x xs.length = ev xs x := by
  rw [hor_sum xs x _ (Nat.le_refl _)]
  unfold ev evN
  exact sumF_congr fun t _ => by rw [Nat.sub_self, Nat.zero_add]
end Go.Proofs.Ytaihgckcmcacfaa
namespace Go.Proofs.Ytaihgckcmcacfaa
open Go.RowKit Go.Proofs.YtaihgckcmcacfaaW.PrintWords
set_option linter.unusedVariables false
set_option linter.unusedSimpArgs false

theorem nI_set (xs : List UInt8) (i : Nat) (x : UInt8) : (nI xs).set i (x.toNat : Int) = nI (xs.set i x) := by simp [nI, List.map_set]
theorem nI_snoc (xs : List UInt8) (x : UInt8) : nI xs ++ [(x.toNat : Int)] = nI (xs ++ [x]) := by simp [nI]
theorem nI_app (xs ys : List UInt8) : nI xs ++ nI ys = nI (xs ++ ys) := by simp [nI]
theorem nI_nil : nI [] = [] := rfl
theorem nI_rep (n : Nat) : List.replicate n (0 : Int) = nI (List.replicate n 0) := by simp [nI]
theorem nI_take (xs : List UInt8) (n : Nat) : (nI xs).take n = nI (xs.take n) := by simp [nI, List.map_take]
theorem nI_drop (xs : List UInt8) (n : Nat) : (nI xs).drop n = nI (xs.drop n) := by simp [nI, List.map_drop]
theorem rd_nI (xs : List UInt8) (i : Nat) : rd (nI xs) (i : Int) = ((xs.getD i 0).toNat : Int) := by
  unfold rd nI
  rw [Int.toNat_natCast, List.getD_eq_getElem?_getD, List.getElem?_map, List.getD_eq_getElem?_getD]
  cases xs[i]? <;> simp
theorem w64 {e : Int} (h0 : -9223372036854775808 ≤ e) (h1 : e ≤ 9223372036854775807) : wrap64 e = e := by
  unfold wrap64
  omega
theorem w64_nat {n : Nat} (h : n ≤ 9223372036854775807) : wrap64 (n : Int) = (n : Int) := w64 (by omega) (by omega)
theorem w64_succ {i : Nat} (h : i ≤ 9223372036854775806) : wrap64 ((i : Int) + 1) = ((i + 1 : Nat) : Int) := by
  rw [w64 (by omega) (by omega)]; rfl
theorem w64_mul {i c : Nat} (h : i * c ≤ 9223372036854775807) : wrap64 ((i : Int) * (c : Int)) = ((i * c : Nat) : Int) := by
  rw [← Int.natCast_mul, w64 (by omega) (by omega)]
theorem w64_add {i c : Nat} (h : i + c ≤ 9223372036854775807) : wrap64 ((i : Int) + (c : Int)) = ((i + c : Nat) : Int) := by
  rw [← Int.natCast_add, w64 (by omega) (by omega)]
theorem w64_place {i c j : Nat} (h : i * c + j ≤ 9223372036854775807) : wrap64 (wrap64 ((i : Int) * (c : Int)) + (j : Int)) = ((i * c + j : Nat) : Int) := by
  rw [w64_mul (by omega), w64_add h]
theorem getD_set_same (xs : List UInt8) (p : Nat) (x : UInt8) (h : p < xs.length) : (xs.set p x).getD p 0 = x := by
  rw [List.getD_eq_getElem?_getD, List.getElem?_set]
  simp [h]
theorem add_xor (a b : UInt8) : Go.bits .xor .u8 (a.toNat : Int) (b.toNat : Int) = ((Gf.add a b).toNat : Int) := bxor_u8 a b
end Go.Proofs.Ytaihgckcmcacfaa
namespace Go.Proofs.Ytaihgckcmcacfaa
open Go.ChangeShapes Go.WideShapes Go.ChangeAt Go.RowKit

theorem own_knob : ownKnob Try.prog.godebug = none := by kernel_rfl
theorem laid_out : laidOutB Try.prog = true := by kernel_rfl
theorem u8_of {n : Int} (h : (Lit.int .u8 n).wf = true) : ∃ u : UInt8, n = (u.toNat : Int) := by
  have hb := bounds_u8 h
  refine ⟨UInt8.ofNat n.toNat, ?_⟩
  rw [UInt8.toNat_ofNat']
  omega
theorem u8s_of : ∀ {zs : List Int}, (∀ n ∈ zs, (Lit.int .u8 n).wf = true) → ∃ xs : List UInt8, zs = xs.map fun x => (x.toNat : Int)
  | [], _ => ⟨[], rfl⟩
  | z :: zs, h => by
    obtain ⟨u, hu⟩ := u8_of (h z (by simp))
    obtain ⟨xs, hx⟩ := u8s_of (zs := zs) (fun n hn => h n (by simp [hn]))
    exact ⟨u :: xs, by simp [hu, hx]⟩
/-- A list of bytes that came in: it reads; its size is within the reach. -/
theorem open_bytes {H : Type} {enc : TypeId × Value → H} {W : World} {d : DataW H} {p : List MemPlace} {a : Option Addr} {len cap : Nat}
    (h : DataW.Trod enc Try.prog W 0 (fun _ => true) true 22 (.slice a len cap) d p) :
    ∃ (xs : List UInt8), Rd W W.heap.size a len (bVs xs) ∧ len ≤ cap ∧ cap ≤ maxLen ∧ ((d = .nil ∧ cap = 0) ∨ ∃ es rs : List (DataW H), d = .slice es rs ∧ es.length + rs.length = cap) := by
  obtain ⟨fuel, hf⟩ := h
  have hlt := DataW.trod_lt fuel _ _ _ hf
  rcases open_ints Try.underlying22 Try.underlying5 (by kernel_rfl) hf with ⟨hcs, hx⟩ | ⟨x, l, c, zs, hcs, _, hl, hm, hz, hx, hcell, hwz⟩
  · simp [Value.cells] at hcs
    obtain ⟨rfl, rfl, rfl⟩ := hcs
    exact ⟨[], Rd.nil, Nat.le_refl _, Nat.zero_le _, .inl ⟨by simpa using congrArg Prod.fst hx, rfl⟩⟩
  · simp [Value.cells] at hcs
    obtain ⟨rfl, rfl, rfl⟩ := hcs
    simp only [if_true] at hz
    obtain ⟨xs, rfl⟩ := u8s_of hwz
    rw [List.length_map] at hz
    refine ⟨xs.take len, ⟨by simp [bVs]; omega, fun hn => ?_⟩, hl, hm, .inr ⟨_, _, by simpa using congrArg Prod.fst hx, by simp [lits]; omega⟩⟩
    obtain ⟨g, o, rfl, hc⟩ := ints_at hcell (by rw [List.length_map]; omega)
    refine ⟨g, o, rfl, ?_, fun j u hu => ?_⟩
    · have hp : p = MemPlace.row ⟨g, o, none⟩ ((xs.map fun x => (x.toNat : Int)).length) := by simpa using congrArg Prod.snd hx
      have := hlt (.cell g o) (by rw [hp]; simp [MemPlace.row]; omega)
      exact this
    · have hj : j < (bVs (xs.take len)).length := by
        rcases Nat.lt_or_ge j (bVs (xs.take len)).length with hlt | hge
        · exact hlt
        · rw [List.getElem?_eq_none hge] at hu; cases hu
      rw [bVs_length, List.length_take] at hj
      rw [hc j (by rw [List.length_map]; omega)]
      rw [← hu]
      have hx : (xs.map fun x => (x.toNat : Int)).getD j 0 = ((xs[j]'(by omega)).toNat : Int) := by simp [List.getD]; rw [List.getElem?_eq_getElem (by omega)]; rfl
      rw [hx, bVs_get _ _ (by rw [List.length_take]; omega), List.getElem_take]
theorem bytes_of_u8 : Try.prog.bytesOf 5 = 1 := by kernel_rfl
end Go.Proofs.Ytaihgckcmcacfaa
