/- What the functions compute that the law VerifyAll reaches, proved by walking them; conditions stand at each theorem. -/
import Derived.WalkKit
import Derived.WalkSpells
import Derived.WalkLawsBesides
import Derived.Lib.Hide
import Derived.Below
import Derived.Laws.Rows
import Derived.Laws.MakeOwn
import Derived.Laws.OwnMore
import Derived.Deep.Draws
import Derived.Laws.BitsAllLaws
import Derived.WalkSmall
import Derived.Laws.IdiomCopy
import Derived.OwnWalk
import Derived.RegionTactic
import Derived.Deep.AppendLies
import Derived.Maps.AppendAt
import Derived.Deep.RegionHeld3
import Derived.BigQuiet
import Derived.Deep.RegionHeld
import Derived.Tactics
import Derived.Tactics2
import Derived.Defers
import Derived.Recover
import Derived.Laws.Pointers
import Derived.Deep.WholeRow
import Derived.Laws.NewBlocks
import Derived.Deep.QuietTactic
import Derived.IntWalk
import Derived.Test.YthbjcafldbocpaaProg
import Derived.Test.YthbjcafldbocpaaCVerifyAllw1
namespace Go.Proofs.Ythbjcafldbocpaa
open Go.RowKit
set_option linter.unusedVariables false
set_option linter.unusedSimpArgs false

def bVs (xs : List UInt8) : List Value := xs.map fun x => .int .u8 (x.toNat : Int)
theorem bVs_length (xs : List UInt8) : (bVs xs).length = xs.length := by simp [bVs]
theorem bVs_get (xs : List UInt8) (i : Nat) (h : i < xs.length) : (bVs xs)[i]? = some (.int .u8 ((xs[i]).toNat : Int)) := by simp [bVs, h]
theorem bVs_append (xs ys : List UInt8) : bVs (xs ++ ys) = bVs xs ++ bVs ys := by simp [bVs]
theorem bVs_take (xs : List UInt8) (n : Nat) : (bVs xs).take n = bVs (xs.take n) := by simp [bVs, List.map_take]
theorem bVs_one {u : Value} {xs : List UInt8} (h : u ∈ bVs xs) : u.oneCell' = true := by
  simp only [bVs, List.mem_map] at h
  obtain ⟨x, _, rfl⟩ := h
  rfl

def Rd (w : World) (B : Nat) (A : Option Addr) (n : Nat) (xs : List Value) : Prop :=
  xs.length = n ∧ (0 < n → ∃ g o, A = some ⟨g, o, none⟩ ∧ g < B ∧ ∀ j u, xs[j]? = some u → w.cell? ⟨g, o + j, none⟩ = some u)
section
variable {w w' : World} {B B' n : Nat} {A : Option Addr} {xs : List Value}
theorem Rd.len (h : Rd w B A n xs) : xs.length = n := h.1
theorem Rd.nil : Rd w B A 0 [] := ⟨rfl, fun h => absurd h (by omega)⟩
theorem Rd.at_ (h : Rd w B A n xs) {k : Nat} (hk : k < n) : ∃ g o u, A = some ⟨g, o, none⟩ ∧ g < B ∧ xs[k]? = some u ∧ w.cell? ⟨g, o + k, none⟩ = some u := by
  obtain ⟨g, o, hA, hg, hc⟩ := h.2 (by omega)
  have hl : k < xs.length := by have := h.1; omega
  exact ⟨g, o, xs[k], hA, hg, List.getElem?_eq_getElem hl, hc k _ (List.getElem?_eq_getElem hl)⟩
theorem Rd.keep (h : Rd w B A n xs) (hk : ∀ k, k < B → w'.heap[k]? = w.heap[k]?) : Rd w' B A n xs :=
  ⟨h.1, fun hn => by
    obtain ⟨g, o, hA, hg, hc⟩ := h.2 hn
    exact ⟨g, o, hA, hg, fun j u hu => (World.cell?_of_block (hk g hg)).trans (hc j u hu)⟩⟩
theorem Rd.more (h : Rd w B A n xs) (hB : B ≤ B') : Rd w B' A n xs :=
  ⟨h.1, fun hn => by
    obtain ⟨g, o, hA, hg, hc⟩ := h.2 hn
    exact ⟨g, o, hA, by omega, hc⟩⟩
theorem Rd.below (h : Rd w B A n xs) (hb : Below B' w w') (hB : B ≤ B') : Rd w' B A n xs := h.keep fun k hk => hb.block k (by omega)
theorem Rd.go (h : Rd w w.heap.size A n xs) (hb : Below w.heap.size w w') : Rd w' w'.heap.size A n xs := (h.below hb (Nat.le_refl _)).more hb.size
theorem Rd.take (h : Rd w B A n xs) {k : Nat} (hk : k ≤ n) : Rd w B A k (xs.take k) := by
  refine ⟨by rw [List.length_take, h.1]; omega, fun hp => ?_⟩
  obtain ⟨g, o, hA, hg, hc⟩ := h.2 (by omega)
  refine ⟨g, o, hA, hg, fun j u hu => hc j u ?_⟩
  rw [List.getElem?_take] at hu
  split at hu
  · exact hu
  · cases hu
end

def Row (w : World) (g : Nat) (t : TypeId) (ys : List Value) : Prop := w.heap[g]? = some (.cells ys.toArray t (0, 0))
section
variable {w w' : World} {g : Nat} {t : TypeId} {ys : List Value}
theorem Row.lt (h : Row w g t ys) : g < w.heap.size := by
  rcases Nat.lt_or_ge g w.heap.size with hlt | hge
  · exact hlt
  · unfold Row at h; rw [Array.getElem?_eq_none hge] at h; cases h
theorem Row.cell (h : Row w g t ys) (i : Nat) : w.cell? ⟨g, i, none⟩ = ys[i]? := by
  rw [cell_of_row w g i _ t (0, 0) h, List.getElem?_toArray]
theorem Row.has (h : Row w g t ys) {i : Nat} (hi : i < ys.length) : ∃ old, w.cell? ⟨g, i, none⟩ = some old := ⟨ys[i], by rw [h.cell, List.getElem?_eq_getElem hi]⟩
theorem Row.frozen (h : Row w g t ys) (i : Nat) : w.frozen? ⟨g, i, none⟩ = false := frozen_of_row w g i _ t h
theorem Row.made (w : World) (z : Value) (n : Nat) (t : TypeId) : Row (w.alloc (.cells (madeCells #[z] n) t)) w.heap.size t (List.replicate n z) := by
  unfold Row
  rw [heap_alloc_new, ← toList_madeCells_one z n, Array.toArray_toList]
theorem Row.new (w : World) (cs : List Value) (t : TypeId) : Row (w.alloc (.cells cs.toArray t)) w.heap.size t cs := heap_alloc_new w _
theorem Row.three {a b c : Value} (h : Row w g t [a, b, c]) : w.cell? ⟨g, 0, none⟩ = some a ∧ w.cell? ⟨g, 1, none⟩ = some b ∧ w.cell? ⟨g, 2, none⟩ = some c ∧ w.frozen? ⟨g, 0, none⟩ = false ∧ w.frozen? ⟨g, 1, none⟩ = false ∧ w.frozen? ⟨g, 2, none⟩ = false :=
  ⟨h.cell 0, h.cell 1, h.cell 2, h.frozen 0, h.frozen 1, h.frozen 2⟩
theorem Row.of_block (h : Row w g t ys) (hb : w'.heap[g]? = w.heap[g]?) : Row w' g t ys := hb.trans h
theorem Row.alloc (h : Row w g t ys) (o : Obj) : Row (w.alloc o) g t ys := (Below.heap_alloc w o g h.lt).trans h
theorem Row.set (h : Row w g t ys) (i : Nat) (u : Value) : Row (w.setCell ⟨g, i, none⟩ u) g t (ys.set i u) := by
  unfold Row
  rw [heap_setCell_same w g i _ t u h, List.setIfInBounds_toArray]
theorem Row.far (h : Row w g t ys) {p : Addr} (hp : g ≠ p.block) (u : Value) : Row (w.setCell p u) g t ys := (Below.heap_setCell w p u g hp).trans h
theorem Row.below {B : Nat} (h : Row w g t ys) (hb : Below B w w') (hg : g < B) : Row w' g t ys := (hb.block g hg).trans h
theorem Row.drewN (h : Row w g t ys) (k : Nat) : Row (w.drewN k) g t ys := h
theorem Row.owns (h : Row w g t ys) {base n : Nat} (hb : base ≤ g) (hn : n ≤ ys.length) (hm : ys.length ≤ maxLen) : w.ownsRow base t 1 (.slice (some ⟨g, 0, none⟩) n ys.length) n (ys.take n) := by
  refine ⟨by rw [List.length_take]; omega, .inr ⟨g, ys.length, ys.toArray, rfl, hb, h, hn, hm, by simp, by simp⟩⟩
end
theorem below_drewN {B : Nat} {a w : World} (h : Below B a w) (n : Nat) : Below B a (w.drewN n) := ⟨h.os, h.tape, h.output, h.size, h.block⟩
theorem rd_of_own {w : World} {base : Nat} {t : TypeId} {A : Option Addr} {n cap : Nat} {xs : List Value} (h : w.ownsRow base t 1 (.slice A n cap) n xs) : Rd w w.heap.size A n xs := by
  refine ⟨by have := h.1; omega, fun hn => ?_⟩
  rcases h.2 with ⟨hv, h0⟩ | ⟨g, c, cur, hv, _, hh, _, _, _, _⟩
  · omega
  · simp only [Value.slice.injEq] at hv
    obtain ⟨rfl, _, rfl⟩ := hv
    refine ⟨g, 0, rfl, ?_, fun j u hu => ?_⟩
    · rcases Nat.lt_or_ge g w.heap.size with hlt | hge
      · exact hlt
      · rw [Array.getElem?_eq_none hge] at hh; cases hh
    · have hj : j < xs.length := by
        rcases Nat.lt_or_ge j xs.length with hlt | hge
        · exact hlt
        · rw [List.getElem?_eq_none hge] at hu; cases hu
      rw [Nat.zero_add, h.cellAt j (by have := h.1; omega)]
      exact hu
def OwnB (w : World) (base : Nat) (A : Option Addr) (n cap : Nat) (xs : List UInt8) : Prop := xs.length = n ∧ w.ownsRow base 5 1 (.slice A n cap) n (bVs xs)
theorem OwnB.rd {w : World} {base n cap : Nat} {A : Option Addr} {xs : List UInt8} (h : OwnB w base A n cap xs) : Rd w w.heap.size A n (bVs xs) := rd_of_own h.2
theorem OwnB.mono {w : World} {base base' n cap : Nat} {A : Option Addr} {xs : List UInt8} (h : OwnB w base A n cap xs) (hb : base' ≤ base) : OwnB w base' A n cap xs := by
  refine ⟨h.1, h.2.1, ?_⟩
  rcases h.2.2 with h' | ⟨g, c, cur, hv, hg, rest⟩
  · exact .inl h'
  · exact .inr ⟨g, c, cur, hv, by omega, rest⟩
theorem OwnB.keep {w w' : World} {base n cap : Nat} {A : Option Addr} {xs : List UInt8} (h : OwnB w base A n cap xs) (hb : ∀ g, A = some ⟨g, 0, none⟩ → w'.heap[g]? = w.heap[g]?) : OwnB w' base A n cap xs := by
  refine ⟨h.1, h.2.1, ?_⟩
  rcases h.2.2 with h' | ⟨g, c, cur, hv, hg, hh, rest⟩
  · exact .inl h'
  · simp only [Value.slice.injEq] at hv
    obtain ⟨rfl, _, rfl⟩ := hv
    exact .inr ⟨g, cap, cur, rfl, hg, (hb g rfl).trans hh, rest⟩
theorem OwnB.below {w w' : World} {base B n cap : Nat} {A : Option Addr} {xs : List UInt8} (h : OwnB w base A n cap xs) (hb : Below B w w') (hB : w.heap.size ≤ B) : OwnB w' base A n cap xs := by
  refine h.keep fun g hA => hb.block g ?_
  subst hA
  rcases h.2.2 with ⟨h', _⟩ | ⟨g', c, cur, hv, hg, hh, rest⟩
  · cases h'
  · simp only [Value.slice.injEq, Option.some.injEq, Addr.mk.injEq, and_true, true_and] at hv
    obtain ⟨rfl, _⟩ := hv
    rcases Nat.lt_or_ge g w.heap.size with hlt | hge
    · omega
    · rw [Array.getElem?_eq_none hge] at hh; cases hh
theorem Row.ownB {w : World} {g : Nat} {ys : List UInt8} (h : Row w g 5 (bVs ys)) {base n : Nat} (hb : base ≤ g) (hn : ys.length = n) (hm : n ≤ maxLen) : OwnB w base (some ⟨g, 0, none⟩) n n ys := by
  have h1 := h.owns (n := n) hb (by rw [bVs_length]; omega) (by rw [bVs_length]; omega)
  rw [bVs_length, hn, List.take_of_length_le (by rw [bVs_length]; omega)] at h1
  exact ⟨hn, h1⟩
theorem OwnB.far {w : World} {base n cap : Nat} {A : Option Addr} {xs : List UInt8} (h : OwnB w base A n cap xs) {p : Addr} (hp : p.block < base) (u : Value) : OwnB (w.setCell p u) base A n cap xs := by
  refine ⟨h.1, h.2.1, ?_⟩
  rcases h.2.2 with h' | ⟨g, c, cur, hv, hg, hh, rest⟩
  · exact .inl h'
  · exact .inr ⟨g, c, cur, hv, hg, (Below.heap_setCell w p u g (by omega)).trans hh, rest⟩
theorem below_set3 {B g : Nat} {a w : World} (h : Below B a w) (hg : B ≤ g) (x y z : Value) : Below B a (((w.setCell ⟨g, 0, none⟩ x).setCell ⟨g, 1, none⟩ y).setCell ⟨g, 2, none⟩ z) := ((h.setCell hg _).setCell hg _).setCell hg _
theorem Row.set3 {w : World} {g : Nat} {t : TypeId} {a b c : Value} (h : Row w g t [a, b, c]) (x y z : Value) : Row (((w.setCell ⟨g, 0, none⟩ x).setCell ⟨g, 1, none⟩ y).setCell ⟨g, 2, none⟩ z) g t [x, y, z] := ((h.set 0 x).set 1 y).set 2 z
theorem Row.far3 {w : World} {g g' : Nat} {t : TypeId} {ys : List Value} (h : Row w g t ys) (hg : g ≠ g') (x y z : Value) : Row (((w.setCell ⟨g', 0, none⟩ x).setCell ⟨g', 1, none⟩ y).setCell ⟨g', 2, none⟩ z) g t ys := ((h.far hg x).far hg y).far hg z
theorem row_made_bytes (w : World) (n : Nat) : Row (w.alloc (.cells (madeCells #[.int .u8 0] n) 5)) w.heap.size 5 (bVs (List.replicate n 0)) := by
  have h := Row.made w (.int .u8 0) n 5
  have e : bVs (List.replicate n 0) = List.replicate n (.int .u8 0) := by simp [bVs]
  rw [e]; exact h
theorem bVs_set (xs : List UInt8) (i : Nat) (x : UInt8) : (bVs xs).set i (.int .u8 (x.toNat : Int)) = bVs (xs.set i x) := by simp [bVs, List.map_set]
theorem rd_get {w : World} {B : Nat} {A : Option Addr} {n : Nat} {xs : List UInt8} (h : Rd w B A n (bVs xs)) {k : Nat} (hk : k < n) :
    ∃ g o, A = some ⟨g, o, none⟩ ∧ g < B ∧ w.cell? ⟨g, o + k, none⟩ = some (.int .u8 ((xs.getD k 0).toNat : Int)) := by
  obtain ⟨g, o, u, hA, hg, hu, hc⟩ := h.at_ hk
  have hl : k < xs.length := by have := h.len; rw [bVs_length] at this; omega
  rw [bVs_get xs k hl] at hu
  refine ⟨g, o, hA, hg, ?_⟩
  rw [hc, ← hu]
  simp [List.getD, hl]
theorem OwnB.row {w : World} {base n cap : Nat} {A : Option Addr} {xs : List UInt8} (h : OwnB w base A n cap xs) : ∀ k, (Value.slice A n cap).ownBlock = some k → base ≤ k ∧ k < w.heap.size := World.ownsRow.lt h.2
theorem OwnB.drewN {w : World} {base n cap : Nat} {A : Option Addr} {xs : List UInt8} (h : OwnB w base A n cap xs) (k : Nat) : OwnB (w.drewN k) base A n cap xs := h
theorem OwnB.at_ {w : World} {base n cap : Nat} {A : Option Addr} {xs : List UInt8} (h : OwnB w base A n cap xs) {i : Nat} (hi : i < n) :
    ∃ g, A = some ⟨g, 0, none⟩ ∧ base ≤ g ∧ g < w.heap.size ∧ w.cell? ⟨g, i, none⟩ = some (.int .u8 ((xs.getD i 0).toNat : Int)) ∧ w.frozen? ⟨g, i, none⟩ = false := by
  rcases h.2.2 with ⟨_, h0⟩ | ⟨g, c, cur, hv, hg, hh, hrest⟩
  · omega
  · simp only [Value.slice.injEq] at hv
    obtain ⟨rfl, _, rfl⟩ := hv
    have hlt : g < w.heap.size := by
      rcases Nat.lt_or_ge g w.heap.size with hlt | hge
      · exact hlt
      · rw [Array.getElem?_eq_none hge] at hh; cases hh
    have hl : i < xs.length := by have := h.1; omega
    refine ⟨g, rfl, hg, hlt, ?_, h.2.frozenAt i⟩
    rw [h.2.cellAt i (by omega), bVs_get xs i hl]
    simp [List.getD, hl]
theorem OwnB.store {w : World} {base n cap g : Nat} {xs : List UInt8} (h : OwnB w base (some ⟨g, 0, none⟩) n cap xs) (i : Nat) (x : UInt8) : OwnB (w.setCell ⟨g, i, none⟩ (.int .u8 (x.toNat : Int))) base (some ⟨g, 0, none⟩) n cap (xs.set i x) := by
  have h1 := (h.2.stored i (.int .u8 (x.toNat : Int))).1
  rw [bVs_set] at h1
  exact ⟨by rw [List.length_set]; exact h.1, h1⟩
theorem u8_info : (Try.prog.info? 5).map (fun i => (i.zero, i.size, i.bytes)) = some (some (.int .u8 0), 1, 1) := by kernel_rfl
theorem make_bytes (n : Nat) (hn : n ≤ 281474976710656) (w : World) :
    (Instr.makeSlice 35 (.int .i64 (n : Int)) (.int .i64 (n : Int))).run Try.prog w = .ok (.slice (some ⟨w.heap.size, 0, none⟩) n n) (w.alloc (.cells (madeCells #[.int .u8 0] n) 5)) := by
  obtain ⟨i, hi, hz, hs, hb⟩ := info_parts u8_info
  have h := run_make (P := Try.prog) w 35 5 i _ Try.underlying35 hi hz .i64 .i64 (n : Int) (n : Int) (by omega) (by omega) (by rw [hb]; omega) (by omega)
  rw [hs, Nat.mul_one, Int.toNat_natCast] at h
  exact h
end Go.Proofs.Ythbjcafldbocpaa
namespace Go.Proofs.Ythbjcafldbocpaa
open Go.RowKit Go.Proofs.YthbjcafldbocpaaW.PrintWords
set_option linter.unusedVariables false
set_option linter.unusedSimpArgs false

def nI (xs : List UInt8) : List Int := xs.map fun x => (x.toNat : Int)
def toU (a : Int) : UInt8 := UInt8.ofNat a.toNat
def byteB (a : Int) : Bool := decide (0 ≤ a) && decide (a < 256)
def inU (l : List Int) : Bool := l.all byteB
theorem nI_length (xs : List UInt8) : (nI xs).length = xs.length := by simp [nI]
theorem toU_nat (x : UInt8) : toU (x.toNat : Int) = x := by simp [toU]
theorem toU_of {a : Int} (h : byteB a = true) : ((toU a).toNat : Int) = a := by
  simp [byteB] at h
  unfold toU
  rw [UInt8.toNat_ofNat']
  omega
theorem byteB_nat (x : UInt8) : byteB (x.toNat : Int) = true := by
  have h := x.toNat_lt
  have h0 : decide ((0 : Int) ≤ (x.toNat : Int)) = true := decide_eq_true (by omega)
  have h1 : decide ((x.toNat : Int) < 256) = true := decide_eq_true (by omega)
  unfold byteB
  rw [h0, h1]; rfl
theorem inU_nI (xs : List UInt8) : inU (nI xs) = true := by
  unfold inU
  rw [List.all_eq_true]
  intro a ha
  obtain ⟨x, _, rfl⟩ := List.mem_map.1 ha
  exact byteB_nat x
theorem nI_of : ∀ {l : List Int}, inU l = true → nI (l.map toU) = l
  | [], _ => rfl
  | a :: l, h => by
    have h' : byteB a = true ∧ inU l = true := by
      unfold inU at h ⊢
      rw [List.all_cons, Bool.and_eq_true] at h
      exact h
    have h2 := nI_of (l := l) h'.2
    have h3 := toU_of h'.1
    show ((toU a).toNat : Int) :: nI (l.map toU) = a :: l
    rw [h3, h2]
theorem nI_toU : ∀ xs : List UInt8, (nI xs).map toU = xs
  | [] => rfl
  | x :: xs => by
    have h2 := nI_toU xs
    simp only [nI, List.map_cons] at h2 ⊢
    rw [toU_nat, h2]
theorem ints_of {l : List Int} (h : inU l = true) : ∃ xs : List UInt8, l = nI xs := ⟨_, (nI_of h).symm⟩
theorem nI_get (xs : List UInt8) (j : Nat) : (nI xs)[j]? = xs[j]?.map fun x => (x.toNat : Int) := by simp [nI]
theorem addr_add (g o j : Nat) : (⟨g, o, none⟩ : Addr).add j = ⟨g, o + j, none⟩ := by unfold Addr.add; split <;> simp_all
theorem one_drop {α : Type} (l : List α) (j : Nat) (h : j < l.length) : (l.drop j).take 1 = [l[j]] := by
  rw [List.drop_eq_getElem_cons h]
  rfl
theorem lt_of_cell {w : World} {g o : Nat} {u : Value} (h : w.cell? ⟨g, o, none⟩ = some u) : g < w.heap.size := by
  rcases Nat.lt_or_ge g w.heap.size with hlt | hge
  · exact hlt
  · simp only [World.cell?, Array.getElem?_eq_none hge] at h
    cases h
theorem spot_of_cell {w : World} {g o : Nat} {s : Option Nat} {u : Value} (h : w.cell? ⟨g, o, s⟩ = some u) : s = none := by
  cases s with
  | none => rfl
  | some s =>
    simp only [World.cell?] at h
    split at h
    · simp at h
    · cases h
theorem C_of_rd {w : World} {B : Nat} {A : Option Addr} {xs : List UInt8} (h : Rd w B A xs.length (bVs xs)) (hm : xs.length ≤ 9223372036854775807) : Kd.C (Kd.int .u8) w A (nI xs).length (nI xs) := by
  refine ⟨rfl, by rw [nI_length]; exact hm, fun hn => ?_⟩
  rw [nI_length] at hn
  obtain ⟨g, o, rfl, hg, hc⟩ := h.2 hn
  refine ⟨_, rfl, fun j p hp => ⟨[.int .u8 p], rfl, rfl, fun i u hu => ?_⟩⟩
  have hj : j < xs.length := by
    rcases Nat.lt_or_ge j xs.length with hlt | hge
    · exact hlt
    · rw [List.getElem?_eq_none (by rw [nI_length]; exact hge)] at hp; cases hp
  rw [nI_get, List.getElem?_eq_getElem hj] at hp
  simp at hp
  subst hp
  cases i with
  | zero =>
    simp at hu
    subst hu
    have e5 : (Kd.int .u8).sz = 1 := rfl
    rw [e5, Nat.mul_one, Nat.add_zero, addr_add]
    exact hc j _ (bVs_get xs j hj)
  | succ i => simp at hu
theorem reps_bytes (R : Int → List Value → Prop) (hR : ∀ x : UInt8, R (x.toNat : Int) [.int .u8 (x.toNat : Int)]) (xs : List UInt8) : Reps R 1 (nI xs) (bVs xs) := by
  refine ⟨by rw [bVs_length, nI_length, Nat.mul_one], fun j p hp => ?_⟩
  have hj : j < xs.length := by
    rcases Nat.lt_or_ge j xs.length with hlt | hge
    · exact hlt
    · rw [List.getElem?_eq_none (by rw [nI_length]; exact hge)] at hp; cases hp
  rw [nI_get, List.getElem?_eq_getElem hj] at hp
  simp at hp
  subst hp
  have e : ((bVs xs).drop (j * 1)).take 1 = [.int .u8 ((xs[j]).toNat : Int)] := by
    rw [Nat.mul_one, one_drop _ _ (by rw [bVs_length]; exact hj)]
    simp [bVs]
  rw [e]
  exact hR _
theorem R_of_own {w : World} {base n cap : Nat} {A : Option Addr} {xs : List UInt8} (h : OwnB w base A n cap xs) : Kd.R (Kd.int .u8) 5 w base (fun _ => True) (.slice A n cap) (nI xs) := by
  refine ⟨fun _ _ => trivial, bVs xs, ?_, reps_bytes _ (fun x => rfl) xs⟩
  have e : (nI xs).length = n := by rw [nI_length]; exact h.1
  rw [e]
  exact h.2
def Apart (A1 A2 : Option Addr) : Prop := ∀ g, A1 = some ⟨g, 0, none⟩ → A2 ≠ some ⟨g, 0, none⟩
theorem Apart.symm {A1 A2 : Option Addr} (h : Apart A1 A2) : Apart A2 A1 := fun g h1 h2 => h g h2 h1
theorem own_of_R {w : World} {base : Nat} {v : Value} {l : List Int} (h : Kd.R (Kd.int .u8) 5 w base (fun _ => True) v l) (hl : inU l = true) : ∃ A cap, v = .slice A l.length cap ∧ l.length ≤ cap ∧ OwnB w base A l.length cap (l.map toU) := by
  obtain ⟨A, c, rfl, hc, _⟩ := Kd.R_reads h
  obtain ⟨_, inner, ho, hr⟩ := h
  obtain ⟨xs, rfl⟩ := ints_of hl
  have e : inner = bVs xs := by
    have hlen : inner.length = xs.length := by have := hr.1; rw [nI_length] at this; have e5 : (Kd.int .u8).sz = 1 := rfl; rw [e5] at this; omega
    apply List.ext_getElem (by rw [hlen, bVs_length])
    intro j h1 h2
    have hj : j < xs.length := by omega
    have hp := hr.2 j ((xs[j]).toNat : Int) (by rw [nI_get, List.getElem?_eq_getElem hj]; rfl)
    have e5 : (Kd.int .u8).sz = 1 := rfl
    rw [e5, Nat.mul_one, one_drop _ _ h1] at hp
    have hp' : [inner[j]] = [.int .u8 ((xs[j]).toNat : Int)] := hp
    simp at hp'
    rw [hp']
    simp [bVs]
  subst e
  refine ⟨A, c, rfl, hc, ?_, ?_⟩
  · rw [nI_toU, nI_length]
  · rw [nI_toU]; exact ho
end Go.Proofs.Ythbjcafldbocpaa
namespace Go.Proofs.Ythbjcafldbocpaa.Gf

def dbl (a : UInt8) : UInt8 := if a &&& 128 = 0 then a <<< 1 else (a <<< 1) ^^^ 29
def add (a b : UInt8) : UInt8 := a ^^^ b
def mulTo : Nat → UInt8 → UInt8 → UInt8 → UInt8
  | 0, _, _, p => p
  | n + 1, a, b, p => mulTo n (dbl a) (b >>> 1) (if b &&& 1 = 0 then p else p ^^^ a)
def mul (a b : UInt8) : UInt8 := mulTo 8 a b 0
def ex : Nat → UInt8
  | 0 => 1
  | n + 1 => dbl (ex n)
def lgTo : Nat → UInt8 → Nat → UInt8 → Nat
  | 0, _, n, _ => n
  | k + 1, p, n, a => if p = a then n else lgTo k (dbl p) (n + 1) a
def lg (a : UInt8) : Nat := lgTo 255 1 0 a

theorem all_u8 {P : UInt8 → Prop} (h : ∀ n, n < 256 → P (UInt8.ofNat n)) (a : UInt8) : P a := by
  have h1 := h a.toNat a.toNat_lt
  rwa [UInt8.ofNat_toNat] at h1

def dblN (a : Nat) : Nat := if a.testBit 7 then (a <<< 1) ^^^ 285 else a <<< 1
theorem dblN_xor (a b : Nat) : dblN (a ^^^ b) = dblN a ^^^ dblN b := by
  unfold dblN
  rw [Nat.testBit_xor, Nat.shiftLeft_xor_distrib]
  generalize a <<< 1 = x
  generalize b <<< 1 = y
  cases a.testBit 7 <;> cases b.testBit 7 <;> simp
  · rw [Nat.xor_assoc]
  · rw [Nat.xor_assoc, Nat.xor_assoc, Nat.xor_comm y]
  · rw [Nat.xor_assoc, ← Nat.xor_assoc 285 y, Nat.xor_comm 285 y, Nat.xor_assoc y, Nat.xor_self, Nat.xor_zero]
theorem dbl_toNat (a : UInt8) : (dbl a).toNat = dblN a.toNat := by
  revert a
  apply all_u8
  decide +kernel
theorem dbl_xor (a b : UInt8) : dbl (a ^^^ b) = dbl a ^^^ dbl b := by
  apply UInt8.toNat_inj.1
  rw [dbl_toNat, UInt8.toNat_xor, UInt8.toNat_xor, dbl_toNat, dbl_toNat]
  exact dblN_xor _ _
theorem dbl_zero : dbl 0 = 0 := by decide

theorem mulTo_dbl (n : Nat) : ∀ a b p, mulTo n (dbl a) b (dbl p) = dbl (mulTo n a b p) := by
  induction n with
  | zero => intro a b p; rfl
  | succ n ih =>
    intro a b p
    simp only [mulTo]
    rw [← ih]
    by_cases h : b &&& 1 = 0
    · simp [h]
    · simp [h, dbl_xor]
theorem mulTo_add (n : Nat) : ∀ a a' b p p', mulTo n (a ^^^ a') b (p ^^^ p') = mulTo n a b p ^^^ mulTo n a' b p' := by
  induction n with
  | zero => intro a a' b p p'; rfl
  | succ n ih =>
    intro a a' b p p'
    simp only [mulTo]
    rw [dbl_xor, ← ih]
    by_cases h : b &&& 1 = 0
    · simp [h]
    · simp only [h, if_false]
      congr 1
      rw [UInt8.xor_assoc, UInt8.xor_assoc]
      congr 1
      rw [← UInt8.xor_assoc, ← UInt8.xor_assoc, UInt8.xor_comm p' a]
theorem mul_dbl (a b : UInt8) : mul (dbl a) b = dbl (mul a b) := by
  unfold mul
  rw [← mulTo_dbl, dbl_zero]
theorem mul_xor_left (a b c : UInt8) : mul (a ^^^ b) c = mul a c ^^^ mul b c := by
  unfold mul
  rw [← mulTo_add, UInt8.xor_zero]
theorem mul_zero_left (b : UInt8) : mul 0 b = 0 := by
  have h := mul_xor_left 0 0 b
  rw [UInt8.xor_self] at h
  rw [h, UInt8.xor_self]
theorem one_mul (b : UInt8) : mul 1 b = b := by
  revert b
  apply all_u8
  decide +kernel
theorem mul_zero (a : UInt8) : mul a 0 = 0 := by
  revert a
  apply all_u8
  decide +kernel

/-! powers of 2 -/
theorem ex_255 : ex 255 = 1 := by decide +kernel
theorem ex_add (m : Nat) (n : Nat) : mul (ex m) (ex n) = ex (m + n) := by
  induction m with
  | zero => simp [ex, one_mul]
  | succ m ih =>
    rw [Nat.add_right_comm]
    simp only [ex]
    rw [mul_dbl, ih]
theorem ex_period (n : Nat) : ex (n + 255) = ex n := by rw [Nat.add_comm, ← ex_add, ex_255, one_mul]
theorem ex_mul (k n : Nat) : ex (n + 255 * k) = ex n := by
  induction k with
  | zero => rfl
  | succ k ih => rw [Nat.mul_succ, ← Nat.add_assoc, ex_period, ih]
theorem ex_mod (n : Nat) : ex (n % 255) = ex n := by
  conv => rhs; rw [← Nat.mod_add_div n 255]
  rw [ex_mul]
theorem lg_lt : ∀ n, n < 256 → UInt8.ofNat n ≠ 0 → lg (UInt8.ofNat n) < 255 ∧ ex (lg (UInt8.ofNat n)) = UInt8.ofNat n := by decide +kernel
theorem lg_bd {a : UInt8} (h : a ≠ 0) : lg a < 255 := (all_u8 (P := fun a => a ≠ 0 → lg a < 255 ∧ ex (lg a) = a) lg_lt a h).1
theorem ex_lg {a : UInt8} (h : a ≠ 0) : ex (lg a) = a := (all_u8 (P := fun a => a ≠ 0 → lg a < 255 ∧ ex (lg a) = a) lg_lt a h).2
theorem lg_ex' : ∀ n, n < 255 → lg (ex n) = n := by decide +kernel
theorem lg_ex (n : Nat) : lg (ex n) = n % 255 := by
  rw [← ex_mod]
  exact lg_ex' _ (Nat.mod_lt _ (by decide))
theorem ex_ne' : ∀ n, n < 255 → ex n ≠ 0 := by decide +kernel
theorem ex_ne (n : Nat) : ex n ≠ 0 := by
  rw [← ex_mod]
  exact ex_ne' _ (Nat.mod_lt _ (by decide))
theorem ex_inj {m n : Nat} (h : ex m = ex n) : m % 255 = n % 255 := by rw [← lg_ex, ← lg_ex, h]

theorem mul_eq {a b : UInt8} (ha : a ≠ 0) (hb : b ≠ 0) : mul a b = ex (lg a + lg b) := by
  conv => lhs; rw [← ex_lg ha, ← ex_lg hb]
  exact ex_add _ _
theorem mul_comm (a b : UInt8) : mul a b = mul b a := by
  by_cases ha : a = 0
  · subst ha; rw [mul_zero_left, mul_zero]
  by_cases hb : b = 0
  · subst hb; rw [mul_zero_left, mul_zero]
  rw [mul_eq ha hb, mul_eq hb ha, Nat.add_comm]
theorem mul_ne {a b : UInt8} (ha : a ≠ 0) (hb : b ≠ 0) : mul a b ≠ 0 := by
  rw [mul_eq ha hb]; exact ex_ne _
theorem lg_mul {a b : UInt8} (ha : a ≠ 0) (hb : b ≠ 0) : lg (mul a b) = (lg a + lg b) % 255 := by
  rw [mul_eq ha hb, lg_ex]
theorem mul_assoc (a b c : UInt8) : mul (mul a b) c = mul a (mul b c) := by
  by_cases ha : a = 0
  · subst ha; simp only [mul_zero_left]
  by_cases hb : b = 0
  · subst hb; simp only [mul_zero_left, mul_zero]
  by_cases hc : c = 0
  · subst hc; simp only [mul_zero]
  rw [mul_eq (mul_ne ha hb) hc, mul_eq ha (mul_ne hb hc), lg_mul ha hb, lg_mul hb hc]
  rw [← ex_mod, ← ex_mod (lg a + _)]
  congr 1
  omega
theorem mul_one (a : UInt8) : mul a 1 = a := by rw [mul_comm, one_mul]
theorem mul_xor (a b c : UInt8) : mul a (b ^^^ c) = mul a b ^^^ mul a c := by
  rw [mul_comm, mul_xor_left, mul_comm b, mul_comm c]
theorem add_comm (a b : UInt8) : add a b = add b a := UInt8.xor_comm _ _
theorem add_assoc (a b c : UInt8) : add (add a b) c = add a (add b c) := UInt8.xor_assoc _ _ _
theorem add_zero (a : UInt8) : add a 0 = a := UInt8.xor_zero
theorem zero_add (a : UInt8) : add 0 a = a := UInt8.zero_xor
theorem add_left_comm (a b c : UInt8) : add a (add b c) = add b (add a c) := by rw [← add_assoc, add_comm a b, add_assoc]
theorem mul_add (a b c : UInt8) : mul a (add b c) = add (mul a b) (mul a c) := mul_xor _ _ _
theorem add_mul (a b c : UInt8) : mul (add a b) c = add (mul a c) (mul b c) := mul_xor_left _ _ _
/-! the document's product: shifted sums, then the remainder -/
def redBit (p i : Nat) : Nat := if p.testBit i then p ^^^ (285 <<< (i - 8)) else p
def redN (p : Nat) : Nat := redBit (redBit (redBit (redBit (redBit (redBit (redBit p 14) 13) 12) 11) 10) 9) 8
theorem redBit_xor (p q i : Nat) : redBit (p ^^^ q) i = redBit p i ^^^ redBit q i := by
  unfold redBit
  rw [Nat.testBit_xor]
  generalize 285 <<< (i - 8) = c
  cases p.testBit i <;> cases q.testBit i <;> simp
  · rw [Nat.xor_assoc]
  · rw [Nat.xor_assoc, Nat.xor_assoc, Nat.xor_comm q c]
  · rw [Nat.xor_assoc, ← Nat.xor_assoc c q c, Nat.xor_comm c q, Nat.xor_assoc q c c, Nat.xor_self, Nat.xor_zero]
theorem redN_xor (p q : Nat) : redN (p ^^^ q) = redN p ^^^ redN q := by unfold redN; simp only [redBit_xor]
def sumTo (a b : Nat) : Nat → Nat
  | 0 => 0
  | n + 1 => if b.testBit n then sumTo a b n ^^^ (a <<< n) else sumTo a b n
def dblNs : Nat → Nat → Nat
  | 0, a => a
  | n + 1, a => dblN (dblNs n a)
theorem red_shift : ∀ a, a < 256 → ∀ i, i < 8 → redN (a <<< i) = dblNs i a := by decide +kernel
def dblSum (a b : Nat) : Nat → Nat
  | 0 => 0
  | n + 1 => if b.testBit n then dblSum a b n ^^^ dblNs n a else dblSum a b n
theorem red_sum (a b : Nat) (ha : a < 256) : ∀ n, n ≤ 8 → redN (sumTo a b n) = dblSum a b n
  | 0, _ => by show redN 0 = 0; decide
  | n + 1, h => by
    simp only [sumTo, dblSum]
    by_cases hb : b.testBit n = true
    · rw [if_pos hb, if_pos hb, redN_xor, red_sum a b ha n (by omega), red_shift a ha n (by omega)]
    · rw [if_neg hb, if_neg hb, red_sum a b ha n (by omega)]
def dbls : Nat → UInt8 → UInt8
  | 0, a => a
  | n + 1, a => dbl (dbls n a)
theorem dbls_toNat (n : Nat) (a : UInt8) : (dbls n a).toNat = dblNs n a.toNat := by
  induction n with
  | zero => rfl
  | succ n ih => simp only [dbls, dblNs, dbl_toNat, ih]
def shs : Nat → UInt8 → UInt8
  | 0, b => b
  | n + 1, b => shs n b >>> 1
def sumD (a b : UInt8) : Nat → UInt8
  | 0 => 0
  | n + 1 => if b.toNat.testBit n then sumD a b n ^^^ dbls n a else sumD a b n
theorem shs_toNat (k : Nat) (b : UInt8) : (shs k b).toNat = b.toNat / 2 ^ k := by
  induction k with
  | zero => simp [shs]
  | succ k ih =>
    simp only [shs]
    rw [UInt8.toNat_shiftRight, ih]
    simp [Nat.shiftRight_eq_div_pow, Nat.div_div_eq_div_mul, Nat.pow_succ]
theorem shs_bit (k : Nat) (b : UInt8) : shs k b &&& 1 = 0 ↔ ¬ b.toNat.testBit k = true := by
  rw [← UInt8.toNat_inj, UInt8.toNat_and, shs_toNat, Nat.testBit_eq_decide_div_mod_eq]
  show (b.toNat / 2 ^ k) &&& 1 = 0 ↔ _
  rw [Nat.and_one_is_mod]
  simp
theorem mulTo_bits (a b : UInt8) (n : Nat) : ∀ k, mulTo n (dbls k a) (shs k b) (sumD a b k) = sumD a b (k + n) := by
  induction n with
  | zero => intro k; rfl
  | succ n ih =>
    intro k
    have h := ih (k + 1)
    rw [Nat.add_right_comm, Nat.add_assoc] at h
    rw [← h]
    simp only [mulTo]
    have e : (if shs k b &&& 1 = 0 then sumD a b k else sumD a b k ^^^ dbls k a) = sumD a b (k + 1) := by
      simp only [sumD]
      by_cases hb : b.toNat.testBit k = true
      · rw [if_pos hb, if_neg (fun h => (shs_bit k b).1 h hb)]
      · rw [if_neg hb, if_pos ((shs_bit k b).2 hb)]
    rw [e]
    rfl
theorem sumD_toNat (a b : UInt8) (k : Nat) : (sumD a b k).toNat = dblSum a.toNat b.toNat k := by
  induction k with
  | zero => rfl
  | succ k ih =>
    simp only [sumD, dblSum]
    by_cases hb : b.toNat.testBit k = true
    · rw [if_pos hb, if_pos hb, UInt8.toNat_xor, ih, dbls_toNat]
    · rw [if_neg hb, if_neg hb, ih]
theorem ref_mul (a b : UInt8) : redN (sumTo a.toNat b.toNat 8) = (mul a b).toNat := by
  rw [red_sum _ _ a.toNat_lt 8 (Nat.le_refl _), ← sumD_toNat]
  have h := mulTo_bits a b 8 0
  exact congrArg UInt8.toNat h.symm
theorem sumTo_lt (a b : Nat) (ha : a < 256) : ∀ n, n ≤ 8 → sumTo a b n < 2 ^ 15
  | 0, _ => by simp [sumTo]
  | n + 1, h => by
    have ih := sumTo_lt a b ha n (by omega)
    simp only [sumTo]
    have h1 : a <<< n < 2 ^ 15 := by
      rw [Nat.shiftLeft_eq]
      calc a * 2 ^ n ≤ 255 * 2 ^ 7 := Nat.mul_le_mul (by omega) (Nat.pow_le_pow_right (by omega) (by omega))
        _ < 2 ^ 15 := by decide
    by_cases hb : b.testBit n = true
    · rw [if_pos hb]; exact Nat.xor_lt_two_pow ih h1
    · rw [if_neg hb]; exact ih
theorem redBit_lt (p i : Nat) (hi : i ≤ 14) (hp : p < 2 ^ 15) : redBit p i < 2 ^ 15 := by
  unfold redBit
  by_cases hb : p.testBit i = true
  · rw [if_pos hb]
    refine Nat.xor_lt_two_pow hp ?_
    rw [Nat.shiftLeft_eq]
    calc 285 * 2 ^ (i - 8) ≤ 285 * 2 ^ 6 := Nat.mul_le_mul (Nat.le_refl _) (Nat.pow_le_pow_right (by omega) (by omega))
      _ < 2 ^ 15 := by decide
  · rw [if_neg hb]; exact hp
def redFrom : Nat → Nat → Nat
  | 0, p => p
  | n + 1, p => redFrom n (redBit p (n + 8))
/-! lists -/
def macL (dst : List UInt8) (c : UInt8) (src : List UInt8) : List UInt8 := List.zipWith (fun d s => add d (mul c s)) dst src
def dotTo (xs ys : List UInt8) : Nat → UInt8
  | 0 => 0
  | i + 1 => add (dotTo xs ys i) (mul (xs.getD i 0) (ys.getD i 0))
def dot (xs ys : List UInt8) : UInt8 := dotTo xs ys xs.length
end Go.Proofs.Ythbjcafldbocpaa.Gf
namespace Go.Proofs.Ythbjcafldbocpaa
open Go.RowKit
set_option linter.unusedVariables false
set_option linter.unusedSimpArgs false

theorem ret_u8 {a b : Int} (h : a = b) : Ending.returned (.int .u8 a) = .returned (.int .u8 b) := by rw [h]
theorem bxor_u8 (a b : UInt8) : bits .xor .u8 (a.toNat : Int) (b.toNat : Int) = ((Gf.add a b).toNat : Int) := by
  unfold Gf.add
  rw [u8_xor_nat _ _ a.toNat_lt b.toNat_lt, UInt8.toNat_xor]
theorem toNat_zero (a : UInt8) : a.toNat = 0 ↔ a = 0 := UInt8.toNat_inj (b := 0)
theorem u8_eq_zero (a : UInt8) : ((a.toNat : Int) == 0) = decide (a = 0) := by
  rw [Bool.eq_iff_iff]; simp [toNat_zero]
theorem double_yes : ∀ n, n < 256 → (bits BinOp.and IntKind.u8 ((UInt8.ofNat n).toNat : Int) 128 != 0) = true → bits BinOp.xor IntKind.u8 (((UInt8.ofNat n).toNat : Int) * 2 % 256) 29 = ((Gf.dbl (UInt8.ofNat n)).toNat : Int) := by decide +kernel
theorem double_no : ∀ n, n < 256 → (bits BinOp.and IntKind.u8 ((UInt8.ofNat n).toNat : Int) 128 != 0) = false → (((UInt8.ofNat n).toNat : Int) * 2 % 256) = ((Gf.dbl (UInt8.ofNat n)).toNat : Int) := by decide +kernel

set_option maxHeartbeats 400000 in
theorem double_calls (a : UInt8) (w : World) :
    Calls Try.prog 78 #[.int .u8 (a.toNat : Int)] w fun e w' => e = .returned (.int .u8 ((Gf.dbl a).toNat : Int)) ∧ w = w' := by
  go_enter Try.func78, Try.ntmps78
  go_wp2_with fail
  · go_ret
    exact ⟨ret_u8 (Gf.all_u8 (P := fun a => (bits BinOp.and IntKind.u8 (a.toNat : Int) 128 != 0) = true → bits BinOp.xor IntKind.u8 ((a.toNat : Int) * 2 % 256) 29 = ((Gf.dbl a).toNat : Int)) double_yes a ‹_›), rfl⟩
  · go_ret
    exact ⟨ret_u8 (Gf.all_u8 (P := fun a => (bits BinOp.and IntKind.u8 (a.toNat : Int) 128 != 0) = false → ((a.toNat : Int) * 2 % 256) = ((Gf.dbl a).toNat : Int)) double_no a ‹_›), rfl⟩

end Go.Proofs.Ythbjcafldbocpaa
namespace Go.Proofs.Ythbjcafldbocpaa
open Go.RowKit
set_option linter.unusedVariables false
set_option linter.unusedSimpArgs false

theorem ofInt_i64 (a : Nat) (ha : a < 9223372036854775808) : (BitVec.ofInt 64 (a : Int)).toNat = a := by
  rw [BitVec.ofInt_natCast, BitVec.toNat_ofNat]; exact Nat.mod_eq_of_lt (by omega)
theorem i64_and_nat (a b : Nat) (ha : a < 9223372036854775808) (hb : b < 9223372036854775808) : bits .and .i64 (a : Int) (b : Int) = ((a &&& b : Nat) : Int) := by
  have hx : a &&& b < 2 ^ 63 := Nat.and_lt_two_pow _ (by omega)
  show IntKind.i64.wrap ((BitVec.ofInt 64 (a : Int) &&& BitVec.ofInt 64 (b : Int)).toNat : Int) = _
  rw [BitVec.toNat_and, ofInt_i64 a ha, ofInt_i64 b hb, IntKind.wrap_i64]
  omega
theorem i64_xor_nat (a b : Nat) (ha : a < 9223372036854775808) (hb : b < 9223372036854775808) : bits .xor .i64 (a : Int) (b : Int) = ((a ^^^ b : Nat) : Int) := by
  have hx : a ^^^ b < 2 ^ 63 := Nat.xor_lt_two_pow (by omega) (by omega)
  show IntKind.i64.wrap ((BitVec.ofInt 64 (a : Int) ^^^ BitVec.ofInt 64 (b : Int)).toNat : Int) = _
  rw [BitVec.toNat_xor, ofInt_i64 a ha, ofInt_i64 b hb, IntKind.wrap_i64]
  omega
theorem testb_u8 (b : UInt8) (i : Nat) : (bits BinOp.and IntKind.u8 ((b.toNat : Int) / 2 ^ i) 1 == 1) = b.toNat.testBit i := by
  have e : ((b.toNat : Int) / 2 ^ i) = ((b.toNat / 2 ^ i : Nat) : Int) := by simp
  have hb : b.toNat / 2 ^ i < 256 := Nat.lt_of_le_of_lt (Nat.div_le_self _ _) b.toNat_lt
  rw [e, show (1 : Int) = ((1 : Nat) : Int) from rfl, u8_and_nat _ _ hb (by decide), Nat.and_one_is_mod, Nat.testBit_eq_decide_div_mod_eq, Bool.eq_iff_iff]
  simp
  omega
theorem testb_i64 (p i : Nat) (hp : p < 2 ^ 15) : (bits BinOp.and IntKind.i64 ((p : Int) / 2 ^ i) 1 == 1) = p.testBit i := by
  have e : ((p : Int) / 2 ^ i) = ((p / 2 ^ i : Nat) : Int) := by simp
  have hb : p / 2 ^ i < 2 ^ 15 := Nat.lt_of_le_of_lt (Nat.div_le_self _ _) hp
  rw [e, show (1 : Int) = ((1 : Nat) : Int) from rfl, i64_and_nat _ _ (by omega) (by decide), Nat.and_one_is_mod, Nat.testBit_eq_decide_div_mod_eq, Bool.eq_iff_iff]
  simp
  omega
theorem shl_i64 (a i : Nat) (ha : a < 512) (hi : i < 8) : wrap64 (wrap64 (a : Int) * 2 ^ i) = ((a <<< i : Nat) : Int) := by
  have h1 : wrap64 (a : Int) = a := by unfold wrap64; omega
  have h2 : a * 2 ^ i ≤ 512 * 2 ^ 7 := Nat.mul_le_mul (by omega) (Nat.pow_le_pow_right (by omega) (by omega))
  have e : (a : Int) * 2 ^ i = ((a * 2 ^ i : Nat) : Int) := by simp
  rw [h1, Nat.shiftLeft_eq, e]
  unfold wrap64
  omega
theorem i64_eq {a b : Int} (h : a = b) : Value.int .i64 a = .int .i64 b := by rw [h]

theorem ref_step1 (a b : UInt8) (i : Nat) (hi : i < 8) (h : (bits BinOp.and IntKind.u8 ((b.toNat : Int) / 2 ^ i) 1 == 1) = true) :
    bits BinOp.xor IntKind.i64 (Gf.sumTo a.toNat b.toNat i : Int) (wrap64 (wrap64 (a.toNat : Int) * 2 ^ i)) = (Gf.sumTo a.toNat b.toNat (i + 1) : Int) := by
  rw [testb_u8] at h
  have h1 := Gf.sumTo_lt a.toNat b.toNat a.toNat_lt i (by omega)
  have ha := a.toNat_lt
  have h2 : a.toNat <<< i < 2 ^ 16 := by
    rw [Nat.shiftLeft_eq]
    have : a.toNat * 2 ^ i ≤ 255 * 2 ^ 7 := Nat.mul_le_mul (by omega) (Nat.pow_le_pow_right (by omega) (by omega))
    omega
  rw [shl_i64 _ _ (by omega) hi, i64_xor_nat _ _ (by omega) (by omega)]
  simp only [Gf.sumTo, h, if_true]
theorem ref_step0 (a b : UInt8) (i : Nat) (h : (bits BinOp.and IntKind.u8 ((b.toNat : Int) / 2 ^ i) 1 == 1) = false) :
    (Gf.sumTo a.toNat b.toNat i : Int) = (Gf.sumTo a.toNat b.toNat (i + 1) : Int) := by
  rw [testb_u8] at h
  simp [Gf.sumTo, h]
theorem ref_red1 (p i : Nat) (hp : p < 2 ^ 15) (h8 : 8 ≤ i) (hi : i ≤ 14) (h : (bits BinOp.and IntKind.i64 ((p : Int) / 2 ^ i) 1 == 1) = true) :
    bits BinOp.xor IntKind.i64 (p : Int) (wrap64 (285 * 2 ^ (i - 8))) = (Gf.redBit p i : Int) := by
  rw [testb_i64 _ _ hp] at h
  have e := shl_i64 285 (i - 8) (by omega) (by omega)
  have e1 : wrap64 ((285 : Nat) : Int) = 285 := by unfold wrap64; omega
  rw [e1] at e
  have h2 : 285 <<< (i - 8) < 2 ^ 16 := by
    rw [Nat.shiftLeft_eq]
    have : 285 * 2 ^ (i - 8) ≤ 285 * 2 ^ 6 := Nat.mul_le_mul (Nat.le_refl _) (Nat.pow_le_pow_right (by omega) (by omega))
    omega
  rw [e, i64_xor_nat _ _ (by omega) (by omega)]
  simp only [Gf.redBit, h, if_true]
theorem ref_red0 (p i : Nat) (hp : p < 2 ^ 15) (h : (bits BinOp.and IntKind.i64 ((p : Int) / 2 ^ i) 1 == 1) = false) : (p : Int) = (Gf.redBit p i : Int) := by
  rw [testb_i64 _ _ hp] at h
  simp [Gf.redBit, h]

set_option maxHeartbeats 400000 in
theorem refMul_calls (a b : UInt8) (w : World) :
    Calls Try.prog 47 #[.int .u8 (a.toNat : Int), .int .u8 (b.toNat : Int)] w fun e w' => e = .returned (.int .u8 ((Gf.mul a b).toNat : Int)) ∧ w = w' := by
  go_enter Try.func47, Try.ntmps47
  go_wp2_with fail
  go_loop [5, 6] (fun v5 v6 => ∃ i : Nat, i ≤ 8 ∧ v5 = .int .i64 (Gf.sumTo a.toNat b.toNat i : Int) ∧ v6 = .int .i64 (i : Int)) (fun _ v6 => 8 - (intOf v6).toNat)
  case atStart => exact ⟨0, by omega, rfl, rfl⟩
  case round =>
    obtain ⟨i, hi, rfl, rfl⟩ := hrel
    by_cases hlt : i < 8
    · go_wp2_with fail
      · go_round
        case rel => exact ⟨i + 1, by omega, i64_eq (ref_step1 a b i hlt ‹_›), by go_num⟩
        case measure => simp [intOf]; omega
      · go_round
        case rel => exact ⟨i + 1, by omega, i64_eq (ref_step0 a b i ‹_›), by go_num⟩
        case measure => simp [intOf]; omega
    · obtain rfl : i = 8 := by omega
      have HL := Gf.sumTo_lt a.toNat b.toNat a.toNat_lt 8 (by omega)
      have HM := Lib.hid (Gf.ref_mul a b)
      generalize Gf.sumTo a.toNat b.toNat 8 = s at *
      go_wp2_with fail
      go_loop [5, 7] (fun v5 v7 => ∃ (p n : Nat), n ≤ 7 ∧ p < 2 ^ 15 ∧ v5 = .int .i64 (p : Int) ∧ v7 = .int .i64 ((n + 7 : Nat) : Int) ∧ Hid (Gf.redFrom n p = Gf.redN s)) (fun _ v7 => (intOf v7).toNat)
      case atStart => exact ⟨s, 7, by omega, HL, rfl, rfl, rfl⟩
      case round =>
        obtain ⟨p, n, hn, hp, rfl, rfl, H⟩ := hrel
        by_cases hlt : 1 ≤ n
        · obtain ⟨m, rfl⟩ : ∃ m, n = m + 1 := ⟨n - 1, by omega⟩
          have hm : m + 1 + 7 = m + 8 := by omega
          rw [hm]
          go_wp2_with fail
          · go_round
            case rel => exact ⟨Gf.redBit p (m + 8), m, by omega, Gf.redBit_lt _ _ (by omega) hp, i64_eq (ref_red1 p (m + 8) hp (by omega) (by omega) ‹_›), by go_num, H⟩
            case measure => simp [intOf]; omega
          · go_round
            case rel => exact ⟨Gf.redBit p (m + 8), m, by omega, Gf.redBit_lt _ _ (by omega) hp, i64_eq (ref_red0 p (m + 8) hp ‹_›), by go_num, H⟩
            case measure => simp [intOf]; omega
        · obtain rfl : n = 0 := by omega
          go_wp2_with fail
          go_ret
          have h := H.out
          rw [HM.out] at h
          simp only [Gf.redFrom] at h
          have hl := (Gf.mul a b).toNat_lt
          exact ⟨ret_u8 (by omega), rfl⟩

end Go.Proofs.Ythbjcafldbocpaa
namespace Go.Proofs.Ythbjcafldbocpaa
open Go.RowKit Go.Proofs.YthbjcafldbocpaaW.PrintWords
set_option linter.unusedVariables false
set_option linter.unusedSimpArgs false

def recoupref01_Mul.f (a b : Int) : Option Int := if (byteB a && byteB b) = true then some ((Gf.mul (toU a) (toU b)).toNat : Int) else none
theorem recoupref01_Mul.calls (a0 : Int) (a1 : Int) (r : Int) (w : World)  (h : recoupref01_Mul.f a0 a1 = some r) :
    Calls Try.prog 47 #[.int .u8 a0, .int .u8 a1] w fun e w' => e = .returned (.int .u8 r) ∧ Drawn0 w w' := by
  unfold recoupref01_Mul.f at h
  split at h
  · rename_i hi
    rw [Bool.and_eq_true] at hi
    obtain rfl := Option.some.inj h
    have hc := refMul_calls (toU a0) (toU a1) w
    rw [toU_of hi.1, toU_of hi.2] at hc
    refine hc.mono ?_
    rintro e w' ⟨rfl, rfl⟩
    exact ⟨rfl, 0, rfl⟩
  · cases h
end Go.Proofs.Ythbjcafldbocpaa
namespace Go.Proofs.Ythbjcafldbocpaa
open Go.RowKit
set_option linter.unusedVariables false
set_option linter.unusedSimpArgs false

def giveUp : List PanicEntry := [{ v := .iface 125 (.agg #[]), recovered := false }]
theorem need_yes (w : World) : Calls Try.prog 66 #[.bool true] w fun e w' => e = .returned (.tuple #[]) ∧ w' = w := by
  go_enter Try.func66, Try.ntmps66
  go_wp2_with fail
  go_end0
  exact ⟨rfl, rfl⟩
theorem need_no (w : World) : Calls Try.prog 66 #[.bool false] w fun e w' => e = .panicked giveUp ∧ w' = w := by
  go_enter Try.func66, Try.ntmps66
  go_wp2_with fail
  first | exact ⟨rfl, rfl⟩ | simp [bodyPost, giveUp]
end Go.Proofs.Ythbjcafldbocpaa
namespace Go.Proofs.Ythbjcafldbocpaa
open Go.RowKit
set_option linter.unusedVariables false
set_option linter.unusedSimpArgs false

theorem reg_yes (gk gr gs r nr : Nat) (w : World) (c1 : w.cell? ⟨gk, 1, none⟩ = some (.int .i64 (nr : Int))) (c6 : w.cell? ⟨gk, 6, none⟩ = some (.slice (some ⟨gr, 0, none⟩) nr nr)) (c7 : w.cell? ⟨gk, 7, none⟩ = some (.slice (some ⟨gs, 0, none⟩) nr nr))
    (hr : r < nr) (hs : w.cell? ⟨gs, r, none⟩ = some (.bool true)) :
    Calls Try.prog 76 #[.pointer (some ⟨gk, 0, none⟩), .int .i64 (r : Int)] w fun e w' => e = .returned (.pointer (some ⟨gr, r * 64, none⟩)) ∧ w' = w := by
  have h1 : decide ((r : Int) < (nr : Int)) = true := decide_eq_true (by omega)
  go_enter Try.func76, Try.ntmps76
  go_wp2_with fail
  refine (need_yes _).mono ?_
  rintro e w' ⟨rfl, rfl⟩
  go_wp2_with fail
  go_ret
  exact ⟨rfl, rfl⟩
theorem reg_unset (gk gs r nr : Nat) (w : World) (c1 : w.cell? ⟨gk, 1, none⟩ = some (.int .i64 (nr : Int))) (c7 : w.cell? ⟨gk, 7, none⟩ = some (.slice (some ⟨gs, 0, none⟩) nr nr))
    (hr : r < nr) (hs : w.cell? ⟨gs, r, none⟩ = some (.bool false)) :
    Calls Try.prog 76 #[.pointer (some ⟨gk, 0, none⟩), .int .i64 (r : Int)] w fun e w' => e = .panicked giveUp ∧ w' = w := by
  have h1 : decide ((r : Int) < (nr : Int)) = true := decide_eq_true (by omega)
  go_enter Try.func76, Try.ntmps76
  go_wp2_with fail
  refine (need_no _).mono ?_
  rintro e w' ⟨rfl, rfl⟩
  go_wp2_with fail
  exact ⟨rfl, rfl, rfl⟩
theorem reg_far (gk gs r nr : Nat) (w : World) (c1 : w.cell? ⟨gk, 1, none⟩ = some (.int .i64 (nr : Int))) (hr : nr ≤ r) :
    Calls Try.prog 76 #[.pointer (some ⟨gk, 0, none⟩), .int .i64 (r : Int)] w fun e w' => e = .panicked giveUp ∧ w' = w := by
  have h1 : decide ((r : Int) < (nr : Int)) = false := decide_eq_false (by omega)
  go_enter Try.func76, Try.ntmps76
  go_wp2_with fail
  refine (need_no _).mono ?_
  rintro e w' ⟨rfl, rfl⟩
  go_wp2_with fail
  exact ⟨rfl, rfl, rfl⟩
end Go.Proofs.Ythbjcafldbocpaa
namespace Go.Proofs.Ythbjcafldbocpaa
open Go.RowKit
set_option linter.unusedVariables false
set_option linter.unusedSimpArgs false

def layAt (ys : List Value) (o : Nat) (vs : List Value) : List Value := ys.take o ++ vs ++ ys.drop (o + vs.length)
theorem layAt_length (ys : List Value) (o : Nat) (vs : List Value) (h : o + vs.length ≤ ys.length) : (layAt ys o vs).length = ys.length := by
  simp [layAt]; omega
theorem Row.lay {w : World} {g : Nat} {t : TypeId} {ys : List Value} (h : Row w g t ys) (o : Nat) (vs : List Value) (ho : o + vs.length ≤ ys.length) : Row (w.setCells g o vs) g t (layAt ys o vs) := by
  obtain ⟨cur, h1, h2, h3⟩ := Go.Proofs.YthbjcafldbocpaaW.PrintWords.setCells_row vs o w ys.toArray h (by simpa using ho)
  unfold Row
  rw [h1, show cur = (layAt ys o vs).toArray from Array.toList_inj.1 (by simpa [layAt] using h3)]
theorem Row.farLay {w : World} {g b : Nat} {t : TypeId} {ys : List Value} (h : Row w g t ys) (hne : g ≠ b) (o : Nat) (vs : List Value) : Row (w.setCells b o vs) g t ys :=
  (Go.Proofs.YthbjcafldbocpaaW.PrintWords.setCells_far vs o g hne).trans h

structure Chg3 (B a b c : Nat) (w w' : World) : Prop where
  os : w'.os = w.os
  tape : w'.tape = w.tape
  output : w'.output = w.output
  size : w.heap.size ≤ w'.heap.size
  block : ∀ k, k < B → k ≠ a → k ≠ b → k ≠ c → w'.heap[k]? = w.heap[k]?
theorem Chg3.of_below {B a b c : Nat} {w w' : World} (h : Below B w w') : Chg3 B a b c w w' := ⟨h.os, h.tape, h.output, h.size, fun k hk _ _ _ => h.block k hk⟩
theorem Chg3.trans {B a b c : Nat} {w w' w'' : World} (h : Chg3 B a b c w w') (h' : Chg3 B a b c w' w'') : Chg3 B a b c w w'' :=
  ⟨h'.os.trans h.os, h'.tape.trans h.tape, h'.output.trans h.output, Nat.le_trans h.size h'.size, fun k hk x y z => (h'.block k hk x y z).trans (h.block k hk x y z)⟩
theorem Chg3.set {B a b c : Nat} {w w' : World} (h : Chg3 B a b c w w') {g : Nat} (hg : g = a ∨ g = b ∨ g = c ∨ B ≤ g) (i : Nat) (v : Value) : Chg3 B a b c w (w'.setCell ⟨g, i, none⟩ v) :=
  ⟨h.os, h.tape, h.output, by simpa [World.setCell] using h.size, fun k hk x y z => (Below.heap_setCell w' ⟨g, i, none⟩ v k (by rintro rfl; omega)).trans (h.block k hk x y z)⟩
theorem Chg3.lay {B a b c : Nat} {w w' : World} (h : Chg3 B a b c w w') {g : Nat} (hg : g = a ∨ g = b ∨ g = c ∨ B ≤ g) (o : Nat) (vs : List Value) : Chg3 B a b c w (w'.setCells g o vs) := by
  obtain ⟨h1, h2, h3, h4⟩ := Go.Proofs.YthbjcafldbocpaaW.PrintWords.setCells_same g vs o w'
  exact ⟨h1.trans h.os, h2.trans h.tape, h3.trans h.output, by rw [h4]; exact h.size, fun k hk x y z => (Go.Proofs.YthbjcafldbocpaaW.PrintWords.setCells_far vs o k (by rintro rfl; omega)).trans (h.block k hk x y z)⟩
theorem Chg3.drewN {B a b c : Nat} {w w' : World} (h : Chg3 B a b c w w') (n : Nat) : Chg3 B a b c w (w'.drewN n) := ⟨h.os, h.tape, h.output, h.size, h.block⟩
theorem Chg3.row {B a b c : Nat} {w w' : World} (h : Chg3 B a b c w w') {g : Nat} {t : TypeId} {ys : List Value} (hr : Row w g t ys) (hg : g < B) (x : g ≠ a) (y : g ≠ b) (z : g ≠ c) : Row w' g t ys := (h.block g hg x y z).trans hr
end Go.Proofs.Ythbjcafldbocpaa
namespace Go.Proofs.Ythbjcafldbocpaa
open Go.RowKit
set_option linter.unusedVariables false
set_option linter.unusedSimpArgs false

structure VS where
  regs : List (Option (List UInt8))
  outs : List (Option (List UInt8))
  loads : Nat
def unitR (n s : Nat) : List UInt8 := (List.replicate n 0).set s 1
def vStep (nr no reads n : Nat) (st : VS) (k D S : Nat) (C : UInt8) : Option VS :=
  if k = 1 then if D < nr then some { st with regs := st.regs.set D (some (List.replicate n 0)) } else none
  else if k = 2 then if D < nr ∧ S < n ∧ reads.testBit S = true then some { st with regs := st.regs.set D (some (unitR n S)), loads := st.loads ||| 1 <<< S } else none
  else if k = 3 then if D = S then none else match st.regs.getD D none, st.regs.getD S none with
    | some d, some s => some { st with regs := st.regs.set D (some (Gf.macL d C s)) }
    | _, _ => none
  else if k = 4 then match st.regs.getD S none with
    | some s => if D < no ∧ st.outs.getD D none = none then some { st with outs := st.outs.set D (some s) } else none
    | none => none
  else some st
structure VS.Ok (st : VS) (nr no n : Nat) : Prop where
  lr : st.regs.length = nr
  lo : st.outs.length = no
  wr : ∀ i l, st.regs.getD i none = some l → l.length = n
  wo : ∀ i l, st.outs.getD i none = some l → l.length = n
theorem set_getD' {α : Type} (l : List α) (i j : Nat) (x d : α) : (l.set i x).getD j d = if i = j ∧ i < l.length then x else l.getD j d := by
  simp only [List.getD_eq_getElem?_getD, List.getElem?_set]
  by_cases h : i = j
  · subst h
    by_cases h' : i < l.length
    · simp [h']
    · simp [h', List.getElem?_eq_none (Nat.le_of_not_lt h')]
  · simp [h]
theorem unitR_length (n s : Nat) : (unitR n s).length = n := by simp [unitR]
theorem macL_length {d s : List UInt8} (C : UInt8) (h : d.length = s.length) : (Gf.macL d C s).length = d.length := by simp [Gf.macL, h]
theorem VS.Ok.set {st : VS} {nr no n : Nat} (h : st.Ok nr no n) (D : Nat) (l : List UInt8) (hl : l.length = n) (ld : Nat) : VS.Ok { st with regs := st.regs.set D (some l), loads := ld } nr no n := by
  refine ⟨by simp [h.lr], h.lo, fun i x hx => ?_, h.wo⟩
  simp only [set_getD'] at hx
  split at hx
  · injection hx with hx; rw [← hx]; exact hl
  · exact h.wr i x hx
theorem vStep_ok {nr no reads n : Nat} {st st' : VS} {k D S : Nat} {C : UInt8} (h : st.Ok nr no n) (hs : vStep nr no reads n st k D S C = some st') : st'.Ok nr no n := by
  unfold vStep at hs
  split at hs
  · split at hs
    · injection hs with hs; subst hs; exact h.set D _ (by simp) st.loads
    · cases hs
  split at hs
  · split at hs
    · injection hs with hs; subst hs; exact h.set D _ (unitR_length _ _) _
    · cases hs
  split at hs
  · split at hs
    · cases hs
    · split at hs
      · rename_i d s hd hs'
        injection hs with hs; subst hs; exact h.set D _ (by rw [macL_length C ((h.wr _ _ hd).trans (h.wr _ _ hs').symm)]; exact h.wr _ _ hd) st.loads
      · cases hs
  split at hs
  · split at hs
    · rename_i s hs'
      split at hs
      · injection hs with hs; subst hs
        refine ⟨h.lr, by simp [h.lo], h.wr, fun i x hx => ?_⟩
        simp only [set_getD'] at hx
        split at hx
        · injection hx with hx; rw [← hx]; exact h.wr _ _ hs'
        · exact h.wo i x hx
      · cases hs
    · cases hs
  · injection hs with hs; subst hs; exact h

/-! the rows in memory: each in sixty-four cells -/
def pad (o : Option (List UInt8)) : List UInt8 := match o with
  | some l => l ++ List.replicate (64 - l.length) 0
  | none => List.replicate 64 0
def flatR (rs : List (Option (List UInt8))) : List UInt8 := (rs.map pad).flatten
def Short (rs : List (Option (List UInt8))) : Prop := ∀ o ∈ rs, ∀ l, o = some l → l.length ≤ 64
theorem pad_length {o : Option (List UInt8)} (h : ∀ l, o = some l → l.length ≤ 64) : (pad o).length = 64 := by
  cases o with
  | none => simp [pad]
  | some l => have := h l rfl; simp [pad]; omega
theorem flatR_length {rs : List (Option (List UInt8))} (h : Short rs) : (flatR rs).length = rs.length * 64 := by
  induction rs with
  | nil => rfl
  | cons o rs ih =>
    have h1 := pad_length (h o (by simp))
    have h2 := ih (fun o ho => h o (by simp [ho]))
    show ((pad o) ++ flatR rs).length = _
    rw [List.length_append, h1, h2, List.length_cons]; omega
theorem flatR_set {rs : List (Option (List UInt8))} (h : Short rs) (D : Nat) (hD : D < rs.length) (o : Option (List UInt8)) (ho : ∀ l, o = some l → l.length ≤ 64) : flatR (rs.set D o) = (flatR rs).take (D * 64) ++ pad o ++ (flatR rs).drop (D * 64 + 64) := by
  induction rs generalizing D with
  | nil => simp at hD
  | cons a rs ih =>
    have h1 := pad_length (h a (by simp))
    cases D with
    | zero =>
      show pad o ++ flatR rs = (pad a ++ flatR rs).take (0 * 64) ++ pad o ++ (pad a ++ flatR rs).drop (0 * 64 + 64)
      rw [List.drop_append, List.drop_eq_nil_of_le (by omega), h1]; simp
    | succ D =>
      have h2 := ih (fun o ho => h o (by simp [ho])) D (by simpa using hD)
      show pad a ++ flatR (rs.set D o) = (pad a ++ flatR rs).take ((D + 1) * 64) ++ pad o ++ (pad a ++ flatR rs).drop ((D + 1) * 64 + 64)
      rw [h2, List.take_append, List.take_of_length_le (l := pad a) (by omega), List.drop_append, List.drop_eq_nil_of_le (show (pad a).length ≤ (D + 1) * 64 + 64 by omega), h1, show (D + 1) * 64 - 64 = D * 64 by omega, show (D + 1) * 64 + 64 - 64 = D * 64 + 64 by omega]
      simp
theorem layAt_pad {rs : List (Option (List UInt8))} (h : Short rs) (D : Nat) (hD : D < rs.length) (o : Option (List UInt8)) (ho : ∀ l, o = some l → l.length ≤ 64) : layAt (bVs (flatR rs)) (D * 64) (bVs (pad o)) = bVs (flatR (rs.set D o)) := by
  rw [flatR_set h D hD o ho, layAt, bVs_append, bVs_append, bVs_length, pad_length ho, bVs_take]
  simp [bVs, List.map_drop]
theorem flatR_drop {rs : List (Option (List UInt8))} (h : Short rs) (D : Nat) (hD : D < rs.length) : ((flatR rs).drop (D * 64)).take 64 = pad (rs.getD D none) := by
  have hp : ∀ l, rs.getD D none = some l → l.length ≤ 64 := by
    intro l hl
    rw [List.getD_eq_getElem?_getD, List.getElem?_eq_getElem hD] at hl
    exact h _ (List.getElem_mem hD) l hl
  have e := flatR_set h D hD (rs.getD D none) hp
  rw [show rs.set D (rs.getD D none) = rs by rw [List.getD_eq_getElem?_getD, List.getElem?_eq_getElem hD]; simp] at e
  have hl := flatR_length h
  have h64 := pad_length hp
  conv => lhs; rw [e]
  have l1 : (List.take (D * 64) (flatR rs)).length = D * 64 := by rw [List.length_take, hl]; omega
  rw [List.append_assoc, List.drop_append, List.drop_eq_nil_of_le (by omega), l1, Nat.sub_self, List.drop_zero, List.nil_append, List.take_append, List.take_of_length_le (by omega), h64]
  simp
theorem Short.of_ok {st : VS} {nr no n : Nat} (h : st.Ok nr no n) (hn : n ≤ 64) : Short st.regs := by
  intro o ho l hl
  obtain ⟨i, hi, rfl⟩ := List.getElem_of_mem ho
  have := h.wr i l (by rw [List.getD_eq_getElem?_getD, List.getElem?_eq_getElem hi]; exact hl)
  omega
theorem Short.of_ok' {st : VS} {nr no n : Nat} (h : st.Ok nr no n) (hn : n ≤ 64) : Short st.outs := by
  intro o ho l hl
  obtain ⟨i, hi, rfl⟩ := List.getElem_of_mem ho
  have := h.wo i l (by rw [List.getD_eq_getElem?_getD, List.getElem?_eq_getElem hi]; exact hl)
  omega
theorem pad_zero (n : Nat) (hn : n ≤ 64) : pad (some (List.replicate n 0)) = List.replicate 64 0 := by
  simp [pad, show n + (64 - n) = 64 by omega]
theorem pad_mac (d s : List UInt8) (C : UInt8) (h : d.length = s.length) (hl : d.length ≤ 64) : pad (some (Gf.macL d C s)) = Gf.macL (pad (some d)) C (pad (some s)) := by
  simp only [pad, Gf.macL]
  rw [List.zipWith_append h, h]
  congr 1
  rw [List.length_zipWith, h, Nat.min_self]
  have : Gf.add 0 (Gf.mul C 0) = 0 := by rw [Gf.mul_zero, Gf.add_zero]
  simp [List.zipWith_replicate, this]
theorem pad_unit (n s : Nat) (hn : n ≤ 64) (hs : s < n) : pad (some (unitR n s)) = (List.replicate 64 0).set s 1 := by
  simp only [pad, unitR_length]
  unfold unitR
  rw [← List.set_append_left _ _ (by simpa using hs)]
  simp [show n + (64 - n) = 64 by omega]
end Go.Proofs.Ythbjcafldbocpaa
namespace Go.Proofs.Ythbjcafldbocpaa
open Go.RowKit
set_option linter.unusedVariables false
set_option linter.unusedSimpArgs false

def OwnV (w : World) (base : Nat) (v : Value) (xs : List UInt8) : Prop := w.ownsRow base 5 1 v xs.length (bVs xs)
theorem OwnV.nil (w : World) (base : Nat) : OwnV w base (.slice none 0 0) [] := ⟨rfl, .inl ⟨rfl, rfl⟩⟩
theorem OwnV.slice {w : World} {base : Nat} {v : Value} {xs : List UInt8} (h : OwnV w base v xs) : ∃ A cap, v = .slice A xs.length cap ∧ OwnB w base A xs.length cap xs := by
  rcases h.2 with ⟨rfl, h0⟩ | ⟨g, cap, cur, rfl, hrest⟩
  · rw [h0]; exact ⟨none, 0, rfl, h0, by have := h; unfold OwnV at this; rw [h0] at this; exact this⟩
  · exact ⟨_, _, rfl, rfl, h⟩
theorem OwnV.drewN {w : World} {base : Nat} {v : Value} {xs : List UInt8} (h : OwnV w base v xs) (k : Nat) : OwnV (w.drewN k) base v xs := h
theorem OwnV.below {w w' : World} {base : Nat} {v : Value} {xs : List UInt8} (h : OwnV w base v xs) (hb : Below w.heap.size w w') : OwnV w' base v xs := by
  have hg : w.grownBy w' (some w.heap.size) := ⟨hb.os, hb.tape, hb.output, hb.size, fun k hk _ => hb.block k hk⟩
  refine World.ownsRow.kept h hg ?_
  rcases hv : v.ownBlock with _ | q
  · exact .inl rfl
  · refine .inr (fun e => ?_)
    have := (World.ownsRow.lt h q hv).2
    injection e with e
    omega
theorem OwnV.kept {w w' : World} {base : Nat} {v : Value} {xs : List UInt8} {row : Option Nat} (h : OwnV w base v xs) (hg : w.grownBy w' row) (hne : v.ownBlock = none ∨ v.ownBlock ≠ row) : OwnV w' base v xs := World.ownsRow.kept h hg hne

theorem wpList_append_byte {ops : Array Oper} {rest : List Oper} {o : Oper} {a : Act} {w0 : World} {Q : Exit → Act → World → Prop} (s x : Operand) (hgd : o.guard = none)
    (ho : o.op = .call { callee := .builtin .append, args := #[s, x], argTypes := #[35, 35] })
    (base : Nat) (v : Value) (xs : List UInt8) (y : UInt8) (hs : a.eval s = v) (hown : OwnV w0 base v xs) (hx : a.eval x = .slice (some ⟨w0.heap.size, 0, none⟩) 1 1)
    (hlen : xs.length + 1 ≤ 140737488355328) (hbase : base ≤ w0.heap.size)
    (h : ∀ v' w', OwnV w' base v' (xs ++ [y]) → Below base w0 w' → w0.grownBy w' v.ownBlock → wpList Try.prog ops Q rest (a.put o.dst v') w') :
    wpList Try.prog ops Q (o :: rest) a (w0.alloc (.cells #[.int .u8 (y.toNat : Int)] 5)) := by
  obtain ⟨i, hi, hz, hsz, hby⟩ := info_parts u8_info
  refine wpList_append_own _ hgd s x 35 ho base 5 i (.int .u8 0) 1 1 Try.underlying35 hi hz hsz hby rfl (by decide) v xs.length (bVs xs) hs (World.ownsRow.alloc hown _) ⟨w0.heap.size, 0, none⟩ 1 1 (bVs [y]) hx rfl ?_ ?_ ?_ ?_ ?_ ?_
  · intro j u hu
    have hj : j = 0 := by
      rcases Nat.lt_or_ge j (bVs [y]).length with hlt | hge
      · simp [bVs] at hlt; omega
      · rw [List.getElem?_eq_none hge] at hu; cases hu
    subst hj
    simp only [bVs, List.map_cons, List.map_nil, List.getElem?_cons_zero, Option.some.injEq] at hu
    subst hu
    simp [Addr.add]
  · exact fun u hu => bVs_one hu
  · simp only [maxLen]; omega
  · omega
  · simp; omega
  · intro v' w' hown' hg _
    refine h v' w' ?_ ?_ ?_
    · unfold OwnV
      rw [bVs_append, List.length_append]
      exact hown'
    · exact ((Below.refl base w0).alloc hbase _).grown hg (by simp; omega) (fun k hk => (hown.lt k hk).1)
    · exact ⟨hg.os, hg.tape, hg.output, Nat.le_trans (by simp) hg.size, fun k hk hne => (hg.block k (by simp; omega) hne).trans (Below.heap_alloc _ _ _ hk)⟩

theorem step_append_byte {ops : Array Oper} {o : Oper} {a : Act} {W : World} {K : Act → World → Prop} {Q : Exit → Act → World → Prop} {E : Prop} (s x : Operand) (hgd : o.guard = none)
    (ho : o.op = .call { callee := .builtin .append, args := #[s, x], argTypes := #[35, 35] })
    (base gx : Nat) (v : Value) (xs : List UInt8) (y : UInt8) (hs : a.eval s = v) (hown : OwnV W base v xs) (hx : a.eval x = .slice (some ⟨gx, 0, none⟩) 1 1) (hc : W.cell? ⟨gx, 0, none⟩ = some (.int .u8 (y.toNat : Int)))
    (hlen : xs.length + 1 ≤ 140737488355328) (hbase : base ≤ W.heap.size)
    (h : ∀ v' w', OwnV w' base v' (xs ++ [y]) → Below base W w' → W.grownBy w' v.ownBlock → K (a.put o.dst v') w') :
    if Region.wanted o (yielded ops a.tmps) = true then Oper.wp Try.prog o a W K Q else E := by
  have hw : Region.wanted o (yielded ops a.tmps) = true := by simp [Region.wanted, hgd]
  rw [if_pos hw]
  obtain ⟨i, hi, hz, hsz, hby⟩ := info_parts u8_info
  refine wp_append_own _ s x 35 ho base 5 i (.int .u8 0) 1 1 Try.underlying35 hi hz hsz hby rfl (by decide) v xs.length (bVs xs) hs hown ⟨gx, 0, none⟩ 1 1 (bVs [y]) hx rfl ?_ ?_ ?_ ?_ hbase ?_
  · intro j u hu
    have hj : j = 0 := by
      rcases Nat.lt_or_ge j (bVs [y]).length with hlt | hge
      · simp [bVs] at hlt; omega
      · rw [List.getElem?_eq_none hge] at hu; cases hu
    subst hj
    simp only [bVs, List.map_cons, List.map_nil, List.getElem?_cons_zero, Option.some.injEq] at hu
    subst hu
    simpa [Addr.add] using hc
  · exact fun u hu => bVs_one hu
  · simp only [maxLen]; omega
  · omega
  · intro v' w' hown' hg _
    refine h v' w' ?_ ((Below.refl base W).grown hg hbase (fun k hk => (hown.lt k hk).1)) hg
    unfold OwnV
    rw [bVs_append, List.length_append]
    exact hown'

theorem run_append_nil_any (w : World) (base : Nat) (ty : TypeId) (v : Value) (xs : List UInt8) (hown : OwnV w base v xs) (c : Nat) :
    (Builtin.append_ #[35, 35] ty #[v, .slice none 0 c]).run Try.prog w = .ok v w := by
  obtain ⟨i, hi, hz, hsz, hby⟩ := info_parts u8_info
  have ht := Try.underlying35
  rcases hown.2 with ⟨rfl, h0⟩ | ⟨g, cap, cur, rfl, _, _, hnc, _⟩
  · simp [Builtin.append_, run_underlying ht, sizeOf, typeInfo, hi, Builtin.lenOf, Builtin.firstCells]
  · simp [Builtin.append_, run_underlying ht, sizeOf, typeInfo, hi, Builtin.lenOf, Builtin.firstCells, hnc, storeCells]
set_option maxRecDepth 100000 in
theorem run_append_rd (w : World) (base : Nat) (ty : TypeId) (v : Value) (xs ys : List UInt8) (hown : OwnV w base v xs) (B : Nat) (A : Option Addr) (m c : Nat) (hr : Rd w B A m (bVs ys))
    (hlen : xs.length + m ≤ 140737488355328) (hbase : base ≤ w.heap.size) :
    ∃ v' w', (Builtin.append_ #[35, 35] ty #[v, .slice A m c]).run Try.prog w = .ok v' w' ∧ OwnV w' base v' (xs ++ ys) ∧ w.grownBy w' v.ownBlock ∧ (v'.ownBlock = v.ownBlock ∨ v'.ownBlock = some w.heap.size) := by
  have hm := hr.len
  rw [bVs_length] at hm
  rcases A with _ | ad
  · have h0 : m = 0 := by
      rcases Nat.eq_zero_or_pos m with h | h
      · exact h
      · obtain ⟨g, o, hA, _⟩ := hr.2 h; cases hA
    subst h0
    have hy : ys = [] := List.eq_nil_of_length_eq_zero hm
    subst hy
    exact ⟨v, w, run_append_nil_any w base ty v xs hown c, by rw [List.append_nil]; exact hown, World.grownBy.refl w _, .inl rfl⟩
  · obtain ⟨i, hi, hz, hsz, hby⟩ := info_parts u8_info
    obtain ⟨v', w', hrun, h2, h3, _, h5⟩ := run_append_own_at (P := Try.prog) w base 35 ty 5 i (.int .u8 0) 1 1 Try.underlying35 hi hz hsz hby rfl (by decide) v xs.length (bVs xs) hown ad m c (bVs ys) (by rw [bVs_length]; omega)
      (fun j u hu => by
        have hj : j < m := by
          rcases Nat.lt_or_ge j m with h | h
          · exact h
          · rw [List.getElem?_eq_none (by rw [bVs_length]; omega)] at hu; cases hu
        obtain ⟨g, o, hA, _, hc⟩ := hr.2 (by omega)
        injection hA with hA
        subst hA
        have := hc j u hu
        unfold Addr.add
        split
        · next h0 => subst h0; simpa using this
        · exact this)
      (fun u hu => bVs_one hu) (by simp only [maxLen]; omega) (by omega) hbase
    refine ⟨v', w', hrun, ?_, h3, h5⟩
    unfold OwnV
    rw [bVs_append, List.length_append, hm]
    exact h2
theorem wpList_append_rd {ops : Array Oper} {rest : List Oper} {o : Oper} {a : Act} {W : World} {Q : Exit → Act → World → Prop} (s x : Operand) (hgd : o.guard = none)
    (ho : o.op = .call { callee := .builtin .append, args := #[s, x], argTypes := #[35, 35] })
    (base : Nat) (v : Value) (xs ys : List UInt8) (hs : a.eval s = v) (hown : OwnV W base v xs) (B : Nat) (A : Option Addr) (m c : Nat) (hx : a.eval x = .slice A m c) (hr : Rd W B A m (bVs ys))
    (hlen : xs.length + m ≤ 140737488355328) (hbase : base ≤ W.heap.size)
    (h : ∀ v' w', OwnV w' base v' (xs ++ ys) → W.grownBy w' v.ownBlock → (v'.ownBlock = v.ownBlock ∨ v'.ownBlock = some W.heap.size) → wpList Try.prog ops Q rest (a.put o.dst v') w') : wpList Try.prog ops Q (o :: rest) a W := by
  obtain ⟨v', w', hrun, h1, h2, h3⟩ := run_append_rd W base o.type v xs ys hown B A m c hr hlen hbase
  refine wpList_plain hgd fun _ hK => ?_
  unfold Oper.wp execOp
  simp only [ho, resolve, invoke, builtin, Sem.run_bind, Sem.run_pure, Result.andThen_ok, List.map_toArray, List.map_cons, List.map_nil, hs, hx, hrun]
  exact hK _ _ (h v' w' h1 h2 h3)
theorem own_empty (w : World) (base : Nat) (hb : base ≤ w.heap.size) (t : TypeId) (ht : t = 5) : OwnV (w.alloc (.cells #[] t)) base (.slice (some ⟨w.heap.size, 0, none⟩) 0 0) [] := by
  subst ht
  exact ⟨rfl, .inr ⟨w.heap.size, 0, #[], rfl, hb, heap_alloc_new w _, Nat.le_refl _, Nat.zero_le _, rfl, rfl⟩⟩
theorem grown_below {B : Nat} {w w' : World} {row : Option Nat} (hg : w.grownBy w' row) (hB : B ≤ w.heap.size) (hr : ∀ k, row = some k → B ≤ k) : Below B w w' := (Below.refl B w).grown hg hB hr
theorem OwnV.slice' {w : World} {base n : Nat} {v : Value} {xs : List UInt8} (h : OwnV w base v xs) (hn : xs.length = n) : ∃ A cap, v = .slice A n cap ∧ OwnB w base A n cap xs := by
  subst hn; exact h.slice
theorem grown_setCell {a w : World} {row : Option Nat} (h : a.grownBy w row) {p : Addr} (hp : some p.block = row ∨ a.heap.size ≤ p.block) (u : Value) : a.grownBy (w.setCell p u) row :=
  ⟨h.os, h.tape, h.output, by simpa using h.size, fun k hk hne => (Below.heap_setCell w p u k (by
    rintro rfl
    rcases hp with hp | hp
    · exact hne hp
    · omega)).trans (h.block k hk hne)⟩
end Go.Proofs.Ythbjcafldbocpaa
namespace Go.Proofs.Ythbjcafldbocpaa
open Go.RowKit
set_option linter.unusedVariables false
set_option linter.unusedSimpArgs false

def RdT (w : World) (A : Option Addr) (xs : List UInt8) : Prop :=
  0 < xs.length → ∃ g o cells, A = some ⟨g, o, none⟩ ∧ w.heap[g]? = some (Obj.cells cells 5 (0, 0)) ∧ ∀ j, j < xs.length → cells[o + j]? = some (.int .u8 ((xs.getD j 0).toNat : Int))
section
variable {w w' : World} {A : Option Addr} {xs : List UInt8}
theorem heap_lt {w : World} {g : Nat} {o : Obj} (h : w.heap[g]? = some o) : g < w.heap.size := by
  rcases Nat.lt_or_ge g w.heap.size with hlt | hge
  · exact hlt
  · rw [Array.getElem?_eq_none hge] at h; cases h
theorem RdT.nil (w : World) (A : Option Addr) : RdT w A [] := fun h => absurd h (by simp)
theorem RdT.rd (h : RdT w A xs) : Rd w w.heap.size A xs.length (bVs xs) := by
  refine ⟨bVs_length xs, fun hn => ?_⟩
  obtain ⟨g, o, cells, rfl, hb, hc⟩ := h hn
  refine ⟨g, o, rfl, heap_lt hb, fun j u hu => ?_⟩
  have hj : j < xs.length := by
    rcases Nat.lt_or_ge j xs.length with hlt | hge
    · exact hlt
    · rw [List.getElem?_eq_none (by rw [bVs_length]; exact hge)] at hu; cases hu
  rw [cell_of_row w g (o + j) cells 5 (0, 0) hb, hc j hj, ← hu, bVs_get xs j hj]
  simp [List.getD, hj]
theorem RdT.keep (h : RdT w A xs) (hk : ∀ (g : Nat) (cells : Array Value), w.heap[g]? = some (Obj.cells cells 5 (0, 0)) → w'.heap[g]? = w.heap[g]?) : RdT w' A xs := by
  intro hn
  obtain ⟨g, o, cells, e, hb, hc⟩ := h hn
  exact ⟨g, o, cells, e, (hk g cells hb).trans hb, hc⟩
theorem RdT.below (h : RdT w A xs) (hb : Below w.heap.size w w') : RdT w' A xs := h.keep fun g cells hg => hb.block g (heap_lt hg)
theorem RdT.grown (h : RdT w A xs) {g' : Nat} (hg : w.grownBy w' (some g')) {t : TypeId} {ys : List Value} (hr : Row w g' t ys) (ht : t ≠ 5) : RdT w' A xs :=
  h.keep fun g cells hb => hg.block g (heap_lt hb) (by
    intro e
    injection e with e
    subst e
    unfold Row at hr
    rw [hb] at hr
    injection hr with hr
    injection hr with _ e2
    exact ht e2.symm)
theorem RdT.set (h : RdT w A xs) {p : Addr} {t : TypeId} {ys : List Value} (hr : Row w p.block t ys) (ht : t ≠ 5) (u : Value) : RdT (w.setCell p u) A xs :=
  h.keep fun g cells hb => Below.heap_setCell w p u g (by
    rintro rfl
    unfold Row at hr
    rw [hb] at hr
    injection hr with hr
    injection hr with _ e2
    exact ht e2.symm)
theorem RdT.of_own {base n cap : Nat} (h : OwnB w base A n cap xs) : RdT w A xs := by
  intro hn
  rcases h.2.2 with ⟨_, h0⟩ | ⟨g, c, cur, hv, hg, hh, h1, h2, h3, h4⟩
  · have := h.1; omega
  · simp only [Value.slice.injEq] at hv
    obtain ⟨rfl, _, _⟩ := hv
    refine ⟨g, 0, cur, rfl, hh, fun j hj => ?_⟩
    have e : (bVs xs)[j]? = some (.int .u8 ((xs[j]).toNat : Int)) := bVs_get xs j hj
    rw [Nat.zero_add]
    have h5 : cur[j]? = (bVs xs)[j]? := by
      rw [← h4, List.getElem?_take, if_pos (by have := h.1; omega), Array.getElem?_toList]
    rw [h5, e]
    simp [List.getD, hj]
end
def Lst (w : World) (A : Option Addr) (n c : Nat) (L : List (List UInt8)) : Prop :=
  L.length = n ∧ (∀ i, i < n → (L.getD i []).length = c) ∧ (0 < n → ∃ g lv, A = some ⟨g, 0, none⟩ ∧ Row w g 35 lv ∧ n ≤ lv.length ∧ ∀ i, i < n → ∃ Ai ci, lv[i]? = some (.slice Ai c ci) ∧ c ≤ ci ∧ RdT w Ai (L.getD i []))
section
variable {w w' : World} {A : Option Addr} {n c : Nat} {L : List (List UInt8)}
theorem Lst.at_ (h : Lst w A n c L) {i : Nat} (hi : i < n) : ∃ g Ai ci, A = some ⟨g, 0, none⟩ ∧ g < w.heap.size ∧ w.cell? ⟨g, i, none⟩ = some (.slice Ai c ci) ∧ w.frozen? ⟨g, i, none⟩ = false ∧ c ≤ ci ∧ RdT w Ai (L.getD i []) := by
  obtain ⟨g, lv, e, hr, hl, hc⟩ := h.2.2 (by omega)
  obtain ⟨Ai, ci, h1, h2, h3⟩ := hc i hi
  exact ⟨g, Ai, ci, e, hr.lt, by rw [hr.cell, h1], hr.frozen i, h2, h3⟩
theorem Lst.row (h : Lst w A n c L) (hn : 0 < n) : ∃ g lv, A = some ⟨g, 0, none⟩ ∧ Row w g 35 lv := by
  obtain ⟨g, lv, e, hr, _⟩ := h.2.2 hn
  exact ⟨g, lv, e, hr⟩
theorem Lst.keep (h : Lst w A n c L) (h1 : ∀ (g : Nat) (cells : Array Value), w.heap[g]? = some (Obj.cells cells 5 (0, 0)) → w'.heap[g]? = w.heap[g]?) (h2 : ∀ g : Nat, A = some ⟨g, 0, none⟩ → w'.heap[g]? = w.heap[g]?) : Lst w' A n c L := by
  refine ⟨h.1, h.2.1, fun hn => ?_⟩
  obtain ⟨g, lv, e, hr, hl, hc⟩ := h.2.2 hn
  refine ⟨g, lv, e, hr.of_block (h2 g e), hl, fun i hi => ?_⟩
  obtain ⟨Ai, ci, q1, q2, q3⟩ := hc i hi
  exact ⟨Ai, ci, q1, q2, q3.keep h1⟩
theorem Lst.below (h : Lst w A n c L) (hb : Below w.heap.size w w') : Lst w' A n c L := by
  refine ⟨h.1, h.2.1, fun hn => ?_⟩
  obtain ⟨g, lv, e, hr, hl, hc⟩ := h.2.2 hn
  refine ⟨g, lv, e, hr.below hb hr.lt, hl, fun i hi => ?_⟩
  obtain ⟨Ai, ci, q1, q2, q3⟩ := hc i hi
  exact ⟨Ai, ci, q1, q2, q3.below hb⟩
theorem Lst.drewN (h : Lst w A n c L) (k : Nat) : Lst (w.drewN k) A n c L := h
theorem Lst.drew (h : Lst w A n c L) : Lst w.drew A n c L := h
theorem Lst.far (h : Lst w A n c L) {p : Addr} {t : TypeId} {ys : List Value} (hr : Row w p.block t ys) (ht : t ≠ 5) (hA : A ≠ some ⟨p.block, 0, none⟩) (u : Value) : Lst (w.setCell p u) A n c L := by
  refine h.keep (fun g cells hb => Below.heap_setCell w p u g ?_) (fun g e => Below.heap_setCell w p u g ?_)
  · rintro rfl
    unfold Row at hr
    rw [hb] at hr
    injection hr with hr
    injection hr with _ e2
    exact ht e2.symm
  · rintro rfl
    exact hA e
theorem Lst.grown (h : Lst w A n c L) {g' : Nat} (hg : w.grownBy w' (some g')) {t : TypeId} {ys : List Value} (hr : Row w g' t ys) (ht : t ≠ 5) (hA : A ≠ some ⟨g', 0, none⟩) : Lst w' A n c L := by
  refine ⟨h.1, h.2.1, fun hn => ?_⟩
  obtain ⟨g, lv, e, hr2, hl, hc⟩ := h.2.2 hn
  refine ⟨g, lv, e, hr2.of_block (hg.block g hr2.lt (fun e2 => by injection e2 with e2; subst e2; exact hA e)), hl, fun i hi => ?_⟩
  obtain ⟨Ai, ci, q1, q2, q3⟩ := hc i hi
  exact ⟨Ai, ci, q1, q2, q3.grown hg hr ht⟩
theorem set_getD {L : List (List UInt8)} {i j : Nat} {x : List UInt8} (h : i < L.length) : (L.set i x).getD j [] = if j = i then x else L.getD j [] := by
  rw [List.getD_eq_getElem?_getD, List.getD_eq_getElem?_getD, List.getElem?_set]
  by_cases e : i = j
  · rw [if_pos e, if_pos h, if_pos e.symm]; rfl
  · rw [if_neg e, if_neg (fun h2 => e h2.symm)]
theorem Lst.store (h : Lst w A n c L) {i : Nat} (hi : i < n) {g : Nat} (hA : A = some ⟨g, 0, none⟩) {A' : Option Addr} {c' : Nat} {x : List UInt8} (hx : x.length = c) (hc' : c ≤ c') (hr : RdT w A' x) : Lst (w.setCell ⟨g, i, none⟩ (.slice A' c c')) A n c (L.set i x) := by
  obtain ⟨g2, lv, e, hrow, hl, hc⟩ := h.2.2 (by omega)
  rw [hA] at e
  simp only [Option.some.injEq, Addr.mk.injEq, and_true] at e
  subst e
  have hne : (35 : TypeId) ≠ 5 := by decide
  refine ⟨by rw [List.length_set]; exact h.1, fun j hj => ?_, fun _ => ⟨g, lv.set i (.slice A' c c'), hA, hrow.set i _, by rw [List.length_set]; exact hl, fun j hj => ?_⟩⟩
  · rw [set_getD (by rw [h.1]; exact hi)]
    split
    · exact hx
    · exact h.2.1 j hj
  · rw [set_getD (by rw [h.1]; exact hi), List.getElem?_set]
    by_cases e : i = j
    · rw [if_pos e, if_pos (by omega), if_pos e.symm]
      exact ⟨A', c', rfl, hc', hr.set hrow hne _⟩
    · obtain ⟨Ai, ci, q1, q2, q3⟩ := hc j hj
      rw [if_neg e, if_neg (fun h2 => e h2.symm)]
      exact ⟨Ai, ci, q1, q2, q3.set hrow hne _⟩
end
end Go.Proofs.Ythbjcafldbocpaa
namespace Go.Proofs.Ythbjcafldbocpaa
open Go.RowKit
set_option linter.unusedVariables false
set_option linter.unusedSimpArgs false

def lkV (AS : Option Addr) (nS cS : Nat) (nr no reads n at_ gr gs go gd loads : Nat) : List Value :=
  [.slice AS nS cS, .int .i64 (nr : Int), .int .i64 (no : Int), .int .u64 (reads : Int), .int .i64 (n : Int), .int .i64 (at_ : Int), .slice (some ⟨gr, 0, none⟩) nr nr, .slice (some ⟨gs, 0, none⟩) nr nr, .slice (some ⟨go, 0, none⟩) no no, .slice (some ⟨gd, 0, none⟩) no no, .int .u64 (loads : Int)]
def bolVs (bs : List Bool) : List Value := bs.map .bool
theorem zs_one : ∀ v ∈ ([.int .u8 0, .int .u8 0, .int .u8 0, .int .u8 0, .int .u8 0, .int .u8 0, .int .u8 0, .int .u8 0, .int .u8 0, .int .u8 0, .int .u8 0, .int .u8 0, .int .u8 0, .int .u8 0, .int .u8 0, .int .u8 0, .int .u8 0, .int .u8 0, .int .u8 0, .int .u8 0, .int .u8 0, .int .u8 0, .int .u8 0, .int .u8 0, .int .u8 0, .int .u8 0, .int .u8 0, .int .u8 0, .int .u8 0, .int .u8 0, .int .u8 0, .int .u8 0, .int .u8 0, .int .u8 0, .int .u8 0, .int .u8 0, .int .u8 0, .int .u8 0, .int .u8 0, .int .u8 0, .int .u8 0, .int .u8 0, .int .u8 0, .int .u8 0, .int .u8 0, .int .u8 0, .int .u8 0, .int .u8 0, .int .u8 0, .int .u8 0, .int .u8 0, .int .u8 0, .int .u8 0, .int .u8 0, .int .u8 0, .int .u8 0, .int .u8 0, .int .u8 0, .int .u8 0, .int .u8 0, .int .u8 0, .int .u8 0, .int .u8 0, .int .u8 0] : List Value), v.oneCell' = true := by
  intro v hv
  have : v ∈ List.replicate 64 (Value.int .u8 0) := hv
  rw [List.eq_of_mem_replicate this]
  rfl
theorem zs_info : (Try.prog.info? 87).map (·.size) = some ([.int .u8 0, .int .u8 0, .int .u8 0, .int .u8 0, .int .u8 0, .int .u8 0, .int .u8 0, .int .u8 0, .int .u8 0, .int .u8 0, .int .u8 0, .int .u8 0, .int .u8 0, .int .u8 0, .int .u8 0, .int .u8 0, .int .u8 0, .int .u8 0, .int .u8 0, .int .u8 0, .int .u8 0, .int .u8 0, .int .u8 0, .int .u8 0, .int .u8 0, .int .u8 0, .int .u8 0, .int .u8 0, .int .u8 0, .int .u8 0, .int .u8 0, .int .u8 0, .int .u8 0, .int .u8 0, .int .u8 0, .int .u8 0, .int .u8 0, .int .u8 0, .int .u8 0, .int .u8 0, .int .u8 0, .int .u8 0, .int .u8 0, .int .u8 0, .int .u8 0, .int .u8 0, .int .u8 0, .int .u8 0, .int .u8 0, .int .u8 0, .int .u8 0, .int .u8 0, .int .u8 0, .int .u8 0, .int .u8 0, .int .u8 0, .int .u8 0, .int .u8 0, .int .u8 0, .int .u8 0, .int .u8 0, .int .u8 0, .int .u8 0, .int .u8 0] : List Value).length := by kernel_rfl
theorem sc_keep {W : World} {gk gr b2 o n i j : Nat} {v1 v2 : Value} (h : W.cell? ⟨gk, i, none⟩ = some v1 ∧ W.cell? ⟨b2, j, none⟩ = some v2 ∧ W.there gr o n) (n2 : gr ≠ gk) (e3 : b2 ≠ gr) (o' : Nat) (vs : List Value) :
    (W.setCells gr o' vs).cell? ⟨gk, i, none⟩ = some v1 ∧ (W.setCells gr o' vs).cell? ⟨b2, j, none⟩ = some v2 ∧ (W.setCells gr o' vs).there gr o n :=
  ⟨(World.cell?_setCells_out gr vs o' W ⟨gk, i, none⟩ (fun h => absurd h.symm n2)).trans h.1, (World.cell?_setCells_out gr vs o' W ⟨b2, j, none⟩ (fun h => absurd h e3)).trans h.2.1, World.there_setCells h.2.2 _ _ _⟩
set_option maxHeartbeats 4000000 in
set_option maxRecDepth 100000 in
theorem step_clear (gk gr gs go gd nr no reads n at_ loads nS cS : Nat) (AS : Option Addr) (D S : Nat) (C : UInt8) (bs : List Bool) (rs : List Value) (w : World)
    (hk : Row w gk 82 (lkV AS nS cS nr no reads n at_ gr gs go gd loads)) (hb : Row w gs 4 (bolVs bs)) (hr : Row w gr 87 rs) (lb : bs.length = nr) (lr : rs.length = nr * 64) (hD : D < nr) (n1 : gs ≠ gk) (n2 : gr ≠ gk) (n3 : gr ≠ gs) :
    Calls Try.prog 64 #[.pointer (some ⟨gk, 0, none⟩), .agg #[.int .u8 1, .int .i64 (D : Int), .int .i64 (S : Int), .int .u8 (C.toNat : Int)]] w fun e w' => e = .returned (.tuple #[]) ∧ Row w' gk 82 (lkV AS nS cS nr no reads n at_ gr gs go gd loads) ∧ Row w' gs 4 (bolVs (bs.set D true)) ∧ Row w' gr 87 (layAt rs (D * 64) (List.replicate 64 (.int .u8 0))) ∧ Chg3 w.heap.size gs gr gr w w' := by
  have h1 : decide ((D : Int) < (nr : Int)) = true := decide_eq_true (by omega)
  go_enter Try.func64, Try.ntmps64
  go_wp2_with fail
  obtain ⟨w1, hw1⟩ : ∃ w1, w1 = w.alloc (.cells #[.int .u8 1, .int .i64 (D : Int), .int .i64 (S : Int), .int .u8 (C.toNat : Int)] 59) := ⟨_, rfl⟩
  have q : Below w.heap.size w w1 := by rw [hw1]; exact (Below.refl _ _).alloc (Nat.le_refl _) _
  have hx : Row w1 w.heap.size 59 [.int .u8 1, .int .i64 (D : Int), .int .i64 (S : Int), .int .u8 (C.toNat : Int)] := by rw [hw1]; exact Row.new w _ _
  have hk1 := hk.below q hk.lt
  have hb1 := hb.below q hb.lt
  have hr1 := hr.below q hr.lt
  rw [← hw1]
  clear hw1
  have x0 : w1.cell? ⟨w.heap.size, 0, none⟩ = some (.int .u8 1) := hx.cell 0
  have x1 : w1.cell? ⟨w.heap.size, 1, none⟩ = some (.int .i64 (D : Int)) := hx.cell 1
  have c1 : w1.cell? ⟨gk, 1, none⟩ = some (.int .i64 (nr : Int)) := hk1.cell 1
  have c6 : w1.cell? ⟨gk, 6, none⟩ = some (.slice (some ⟨gr, 0, none⟩) nr nr) := hk1.cell 6
  have c7 : w1.cell? ⟨gk, 7, none⟩ = some (.slice (some ⟨gs, 0, none⟩) nr nr) := hk1.cell 7
  have i0 : (0 : Int) ≤ (D : Int) := by omega
  have i1 : (D : Int) < (nr : Int) := by omega
  have e1 : gs ≠ w.heap.size := by have := hb.lt; omega
  have e2 : gk ≠ w.heap.size := by have := hk.lt; omega
  obtain ⟨ob, ho⟩ : ∃ ob, w1.cell? ⟨gs, D, none⟩ = some ob := hb1.has (by simp [bolVs, lb]; omega)
  have hf : w1.frozen? ⟨gs, D, none⟩ = false := hb1.frozen D
  go_quiet (exact Calls.quiet_of_same (need_yes _))
  go_wp2_with fail
  go_region_held3 (fun x => x.cell? ⟨gk, 7, none⟩ = some (.slice (some ⟨gs, 0, none⟩) nr nr) ∧ x.cell? ⟨w.heap.size, 1, none⟩ = some (.int .i64 (D : Int))) (go_keep) (fail)
  obtain ⟨w2, hw2⟩ : ∃ w2, w2 = (w1.drewN (nq + 1)).setCell ⟨gs, D, none⟩ (.bool true) := ⟨_, rfl⟩
  have hk2 := (hk1.drewN (nq + 1)).far (p := ⟨gs, D, none⟩) (Ne.symm n1) (.bool true)
  rw [← hw2] at hk2
  have hb2 := (hb1.drewN (nq + 1)).set D (.bool true)
  rw [← hw2] at hb2
  have hr2 := (hr1.drewN (nq + 1)).far (p := ⟨gs, D, none⟩) n3 (.bool true)
  rw [← hw2] at hr2
  have hx2 := (hx.drewN (nq + 1)).far (p := ⟨gs, D, none⟩) (Ne.symm e1) (.bool true)
  rw [← hw2] at hx2
  have q2 : w.heap.size ≤ w2.heap.size := by have := hx2.lt; omega
  have hch2 : Chg3 w.heap.size gs gr gr w w2 := by rw [hw2]; exact ((Chg3.of_below q).drewN _).set (Or.inl rfl) _ _
  rw [← hw2]
  clear hw2 x0 x1 c1 c6 c7 ho hf
  have x0 : w2.cell? ⟨w.heap.size, 0, none⟩ = some (.int .u8 1) := hx2.cell 0
  have x1 : w2.cell? ⟨w.heap.size, 1, none⟩ = some (.int .i64 (D : Int)) := hx2.cell 1
  have c6 : w2.cell? ⟨gk, 6, none⟩ = some (.slice (some ⟨gr, 0, none⟩) nr nr) := hk2.cell 6
  have hth : w2.there gr (D * 64) 64 := fun j hj => ⟨by rw [hr2.cell, List.getElem?_eq_getElem (by omega)]; rfl, hr2.frozen _⟩
  go_wp2_with fail
  have e3 : w.heap.size ≠ gr := by have := hr.lt; omega
  have d6 : w2.drew.cell? ⟨gk, 6, none⟩ = some (.slice (some ⟨gr, 0, none⟩) nr nr) := c6
  have dx : w2.drew.cell? ⟨w.heap.size, 1, none⟩ = some (.int .i64 (D : Int)) := x1
  have dth : w2.drew.there gr (D * 64) 64 := hth
  have z1 := zs_one
  have z2 := zs_info
  have z3 : Try.prog.underlying 87 = some (.array 64 5) := by kernel_rfl
  go_region_held3 (fun x => x.cell? ⟨gk, 6, none⟩ = some (.slice (some ⟨gr, 0, none⟩) nr nr) ∧ x.cell? ⟨w.heap.size, 1, none⟩ = some (.int .i64 (D : Int)) ∧ x.there gr (D * 64) 64) (first | (with_reducible exact sc_keep ⟨d6, dx, dth⟩ n2 e3 _ _) | (with_reducible exact ⟨d6, dx, dth⟩) | (with_reducible exact ⟨c6, x1, hth⟩)) (fail)
  obtain ⟨vs, hvs⟩ : ∃ vs : List Value, vs = [.int .u8 0, .int .u8 0, .int .u8 0, .int .u8 0, .int .u8 0, .int .u8 0, .int .u8 0, .int .u8 0, .int .u8 0, .int .u8 0, .int .u8 0, .int .u8 0, .int .u8 0, .int .u8 0, .int .u8 0, .int .u8 0, .int .u8 0, .int .u8 0, .int .u8 0, .int .u8 0, .int .u8 0, .int .u8 0, .int .u8 0, .int .u8 0, .int .u8 0, .int .u8 0, .int .u8 0, .int .u8 0, .int .u8 0, .int .u8 0, .int .u8 0, .int .u8 0, .int .u8 0, .int .u8 0, .int .u8 0, .int .u8 0, .int .u8 0, .int .u8 0, .int .u8 0, .int .u8 0, .int .u8 0, .int .u8 0, .int .u8 0, .int .u8 0, .int .u8 0, .int .u8 0, .int .u8 0, .int .u8 0, .int .u8 0, .int .u8 0, .int .u8 0, .int .u8 0, .int .u8 0, .int .u8 0, .int .u8 0, .int .u8 0, .int .u8 0, .int .u8 0, .int .u8 0, .int .u8 0, .int .u8 0, .int .u8 0, .int .u8 0, .int .u8 0] := ⟨_, rfl⟩
  obtain ⟨w3, hw3⟩ : ∃ w3, w3 = w2.drew.setCells gr (D * 64) vs := ⟨_, rfl⟩
  have y0 : w3.cell? ⟨w.heap.size, 0, none⟩ = some (.int .u8 1) := by rw [hw3, World.cell?_setCells_out gr vs _ _ _ (fun h => absurd h e3)]; exact x0
  have lvs : vs.length = 64 := by rw [hvs]; rfl
  have evs : vs = List.replicate 64 (.int .u8 0) := by rw [hvs]; rfl
  have hk3 := (hk2.drewN 1).farLay (Ne.symm n2) (D * 64) vs
  have hb3 := (hb2.drewN 1).farLay (Ne.symm n3) (D * 64) vs
  have hr3 := (hr2.drewN 1).lay (D * 64) vs (by rw [lvs, lr]; omega)
  have hch3 := (hch2.drewN 1).lay (g := gr) (Or.inr (Or.inl rfl)) (D * 64) vs
  have ew3 : (w2.drewN 1).setCells gr (D * 64) vs = w3 := by rw [hw3]; rfl
  rw [ew3] at hk3 hb3 hr3 hch3
  rw [← hvs, ← hw3]
  clear hw3 hvs ew3 z1 z2 z3 d6 dx dth hth c6 x0 x1
  go_wp2_with fail
  go_end0
  exact ⟨rfl, hk3, by rw [bolVs, List.map_set]; exact hb3, evs ▸ hr3, hch3⟩
end Go.Proofs.Ythbjcafldbocpaa
namespace Go.Proofs.Ythbjcafldbocpaa
open Go.RowKit
set_option linter.unusedVariables false
set_option linter.unusedSimpArgs false
set_option maxRecDepth 100000 in
theorem step_far (gk gr gs go gd nr no reads n at_ loads nS cS : Nat) (AS : Option Addr) (D S : Nat) (C : UInt8) (w : World)
    (hk : Row w gk 82 (lkV AS nS cS nr no reads n at_ gr gs go gd loads)) (hD : nr ≤ D) :
    Calls Try.prog 64 #[.pointer (some ⟨gk, 0, none⟩), .agg #[.int .u8 1, .int .i64 (D : Int), .int .i64 (S : Int), .int .u8 (C.toNat : Int)]] w fun e w' => e = .panicked giveUp ∧ Below w.heap.size w w' := by
  have h1 : decide ((D : Int) < (nr : Int)) = false := decide_eq_false (by omega)
  have h2 : decide (D < nr) = false := decide_eq_false (by omega)
  go_enter Try.func64, Try.ntmps64
  go_wp2_with fail
  obtain ⟨w1, hw1⟩ : ∃ w1, w1 = w.alloc (.cells #[.int .u8 1, .int .i64 (D : Int), .int .i64 (S : Int), .int .u8 (C.toNat : Int)] 59) := ⟨_, rfl⟩
  have q : Below w.heap.size w w1 := by rw [hw1]; exact (Below.refl _ _).alloc (Nat.le_refl _) _
  have hx : Row w1 w.heap.size 59 [.int .u8 1, .int .i64 (D : Int), .int .i64 (S : Int), .int .u8 (C.toNat : Int)] := by rw [hw1]; exact Row.new w _ _
  have hk1 := hk.below q hk.lt
  rw [← hw1]
  clear hw1
  have x0 : w1.cell? ⟨w.heap.size, 0, none⟩ = some (.int .u8 1) := hx.cell 0
  have x1 : w1.cell? ⟨w.heap.size, 1, none⟩ = some (.int .i64 (D : Int)) := hx.cell 1
  have c1 : w1.cell? ⟨gk, 1, none⟩ = some (.int .i64 (nr : Int)) := hk1.cell 1
  refine wp_region_held_drew (S := (fun x => x.cell? ⟨gk, 1, none⟩ = some (.int .i64 (nr : Int)) ∧ x.cell? ⟨w.heap.size, 1, none⟩ = some (.int .i64 (D : Int)))) (by kernel_rfl) ⟨c1, x1⟩ (fun hHeld => ?_)
  refine wpAnyH_take (i := 0) (v := ?_) rfl (by kernel_rfl) (by kernel_rfl) (by kernel_rfl) (fun _ _ _ h => h) (Or.inl ⟨by rfl, ?_⟩) (by assumption) ?_
  rotate_left
  · (intro w hSw; (try dsimp only at hSw); go_simp; (try with_reducible rfl))
  try simp only [Act.put, List.setIfInBounds_toArray, List.set_cons_zero, List.set_cons_succ]
  refine wpAnyH_take (i := 1) (v := ?_) rfl (by kernel_rfl) (by kernel_rfl) (by kernel_rfl) (fun _ _ _ h => h) (Or.inl ⟨by rfl, ?_⟩) (by assumption) ?_
  rotate_left
  · (intro w hSw; (try dsimp only at hSw); go_simp; (try with_reducible rfl))
  try simp only [Act.put, List.setIfInBounds_toArray, List.set_cons_zero, List.set_cons_succ]
  refine wpAnyH_take (i := 2) (v := ?_) rfl (by kernel_rfl) (by kernel_rfl) (by kernel_rfl) (fun _ _ _ h => h) (Or.inl ⟨by rfl, ?_⟩) (by assumption) ?_
  rotate_left
  · (intro w hSw; (try dsimp only at hSw); go_simp; (try with_reducible rfl))
  try simp only [Act.put, List.setIfInBounds_toArray, List.set_cons_zero, List.set_cons_succ]
  refine wpAnyH_take (i := 3) (v := ?_) rfl (by kernel_rfl) (by kernel_rfl) (by kernel_rfl) (fun _ _ _ h => h) (Or.inl ⟨by rfl, ?_⟩) (by assumption) ?_
  rotate_left
  · (intro w hSw; (try dsimp only at hSw); go_simp; (try with_reducible rfl))
  try simp only [Act.put, List.setIfInBounds_toArray, List.set_cons_zero, List.set_cons_succ]
  refine wpAnyH_take (i := 4) (v := ?_) rfl (by kernel_rfl) (by kernel_rfl) (by kernel_rfl) (fun _ _ _ h => h) (Or.inl ⟨by rfl, ?_⟩) (by assumption) ?_
  rotate_left
  · (intro w hSw; (try dsimp only at hSw); go_simp; (try with_reducible rfl))
  try simp only [Act.put, List.setIfInBounds_toArray, List.set_cons_zero, List.set_cons_succ]
  refine wpAnyH_take (i := 5) (v := ?_) rfl (by kernel_rfl) (by kernel_rfl) (by kernel_rfl) (fun _ _ _ h => h) (Or.inl ⟨by rfl, ?_⟩) (by assumption) ?_
  rotate_left
  · (intro w hSw; (try dsimp only at hSw); go_simp; (try with_reducible rfl))
  try simp only [Act.put, List.setIfInBounds_toArray, List.set_cons_zero, List.set_cons_succ]
  refine wpAnyH_take (i := 6) (v := ?_) rfl (by kernel_rfl) (by kernel_rfl) (by kernel_rfl) (fun _ _ _ h => h) (Or.inl ⟨by rfl, ?_⟩) (by assumption) ?_
  rotate_left
  · (intro w hSw; (try dsimp only at hSw); go_simp; (try with_reducible rfl))
  try simp only [Act.put, List.setIfInBounds_toArray, List.set_cons_zero, List.set_cons_succ]
  refine wpAnyH_take (i := 7) (v := ?_) rfl (by kernel_rfl) (by kernel_rfl) (by kernel_rfl) (fun _ _ _ h => h) (Or.inl ⟨by rfl, ?_⟩) (by assumption) ?_
  rotate_left
  · (intro w hSw; (try dsimp only at hSw); go_simp; (try with_reducible rfl))
  try simp only [Act.put, List.setIfInBounds_toArray, List.set_cons_zero, List.set_cons_succ]
  refine wpAnyH_ready (rs := [8]) (by kernel_rfl) (by simp) ?_
  refine AllReadyH.cons rfl (fun K hK => ?_) AllReadyH.nil
  go_simp
  refine (need_no _).mono ?_
  rintro e w' ⟨rfl, rfl⟩
  exact ⟨rfl, rfl, below_drewN q 1⟩
set_option maxRecDepth 100000 in
theorem step_far2 (gk gr gs go gd nr no reads n at_ loads nS cS : Nat) (AS : Option Addr) (D S : Nat) (C : UInt8) (w : World)
    (hk : Row w gk 82 (lkV AS nS cS nr no reads n at_ gr gs go gd loads)) (hD : nr ≤ D) :
    Calls Try.prog 64 #[.pointer (some ⟨gk, 0, none⟩), .agg #[.int .u8 2, .int .i64 (D : Int), .int .i64 (S : Int), .int .u8 (C.toNat : Int)]] w fun e w' => e = .panicked giveUp ∧ Below w.heap.size w w' := by
  have h1 : decide ((D : Int) < (nr : Int)) = false := decide_eq_false (by omega)
  have h2 : decide (D < nr) = false := decide_eq_false (by omega)
  go_enter Try.func64, Try.ntmps64
  go_wp2_with fail
  obtain ⟨w1, hw1⟩ : ∃ w1, w1 = w.alloc (.cells #[.int .u8 2, .int .i64 (D : Int), .int .i64 (S : Int), .int .u8 (C.toNat : Int)] 59) := ⟨_, rfl⟩
  have q : Below w.heap.size w w1 := by rw [hw1]; exact (Below.refl _ _).alloc (Nat.le_refl _) _
  have hx : Row w1 w.heap.size 59 [.int .u8 2, .int .i64 (D : Int), .int .i64 (S : Int), .int .u8 (C.toNat : Int)] := by rw [hw1]; exact Row.new w _ _
  have hk1 := hk.below q hk.lt
  rw [← hw1]
  clear hw1
  have x0 : w1.cell? ⟨w.heap.size, 0, none⟩ = some (.int .u8 2) := hx.cell 0
  have x1 : w1.cell? ⟨w.heap.size, 1, none⟩ = some (.int .i64 (D : Int)) := hx.cell 1
  have c1 : w1.cell? ⟨gk, 1, none⟩ = some (.int .i64 (nr : Int)) := hk1.cell 1
  refine wp_region_held_drew (S := (fun x => x.cell? ⟨gk, 1, none⟩ = some (.int .i64 (nr : Int)) ∧ x.cell? ⟨w.heap.size, 1, none⟩ = some (.int .i64 (D : Int)))) (by kernel_rfl) ⟨c1, x1⟩ (fun hHeld => ?_)
  refine wpAnyH_take (i := 0) (v := ?_) rfl (by kernel_rfl) (by kernel_rfl) (by kernel_rfl) (fun _ _ _ h => h) (Or.inl ⟨by rfl, ?_⟩) (by assumption) ?_
  rotate_left
  · (intro w hSw; (try dsimp only at hSw); go_simp; (try with_reducible rfl))
  try simp only [Act.put, List.setIfInBounds_toArray, List.set_cons_zero, List.set_cons_succ]
  refine wpAnyH_take (i := 1) (v := ?_) rfl (by kernel_rfl) (by kernel_rfl) (by kernel_rfl) (fun _ _ _ h => h) (Or.inl ⟨by rfl, ?_⟩) (by assumption) ?_
  rotate_left
  · (intro w hSw; (try dsimp only at hSw); go_simp; (try with_reducible rfl))
  try simp only [Act.put, List.setIfInBounds_toArray, List.set_cons_zero, List.set_cons_succ]
  refine wpAnyH_take (i := 2) (v := ?_) rfl (by kernel_rfl) (by kernel_rfl) (by kernel_rfl) (fun _ _ _ h => h) (Or.inl ⟨by rfl, ?_⟩) (by assumption) ?_
  rotate_left
  · (intro w hSw; (try dsimp only at hSw); go_simp; (try with_reducible rfl))
  try simp only [Act.put, List.setIfInBounds_toArray, List.set_cons_zero, List.set_cons_succ]
  refine wpAnyH_take (i := 3) (v := ?_) rfl (by kernel_rfl) (by kernel_rfl) (by kernel_rfl) (fun _ _ _ h => h) (Or.inl ⟨by rfl, ?_⟩) (by assumption) ?_
  rotate_left
  · (intro w hSw; (try dsimp only at hSw); go_simp; (try with_reducible rfl))
  try simp only [Act.put, List.setIfInBounds_toArray, List.set_cons_zero, List.set_cons_succ]
  refine wpAnyH_take (i := 4) (v := ?_) rfl (by kernel_rfl) (by kernel_rfl) (by kernel_rfl) (fun _ _ _ h => h) (Or.inl ⟨by rfl, ?_⟩) (by assumption) ?_
  rotate_left
  · (intro w hSw; (try dsimp only at hSw); go_simp; (try with_reducible rfl))
  try simp only [Act.put, List.setIfInBounds_toArray, List.set_cons_zero, List.set_cons_succ]
  refine wpAnyH_take (i := 5) (v := ?_) rfl (by kernel_rfl) (by kernel_rfl) (by kernel_rfl) (fun _ _ _ h => h) (Or.inl ⟨by rfl, ?_⟩) (by assumption) ?_
  rotate_left
  · (intro w hSw; (try dsimp only at hSw); go_simp; (try with_reducible rfl))
  try simp only [Act.put, List.setIfInBounds_toArray, List.set_cons_zero, List.set_cons_succ]
  refine wpAnyH_take (i := 6) (v := ?_) rfl (by kernel_rfl) (by kernel_rfl) (by kernel_rfl) (fun _ _ _ h => h) (Or.inl ⟨by rfl, ?_⟩) (by assumption) ?_
  rotate_left
  · (intro w hSw; (try dsimp only at hSw); go_simp; (try with_reducible rfl))
  try simp only [Act.put, List.setIfInBounds_toArray, List.set_cons_zero, List.set_cons_succ]
  refine wpAnyH_take (i := 7) (v := ?_) rfl (by kernel_rfl) (by kernel_rfl) (by kernel_rfl) (fun _ _ _ h => h) (Or.inl ⟨by rfl, ?_⟩) (by assumption) ?_
  rotate_left
  · (intro w hSw; (try dsimp only at hSw); go_simp; (try with_reducible rfl))
  try simp only [Act.put, List.setIfInBounds_toArray, List.set_cons_zero, List.set_cons_succ]
  refine wpAnyH_ready (rs := [8]) (by kernel_rfl) (by simp) ?_
  refine AllReadyH.cons rfl (fun K hK => ?_) AllReadyH.nil
  go_simp
  refine (need_no _).mono ?_
  rintro e w' ⟨rfl, rfl⟩
  exact ⟨rfl, rfl, below_drewN q 1⟩
end Go.Proofs.Ythbjcafldbocpaa
namespace Go.Proofs.Ythbjcafldbocpaa
open Go.RowKit
set_option linter.unusedVariables false
set_option linter.unusedSimpArgs false
set_option maxRecDepth 100000 in
theorem step_self (gk D : Nat) (C : UInt8) (w : World) :
    Calls Try.prog 64 #[.pointer (some ⟨gk, 0, none⟩), .agg #[.int .u8 3, .int .i64 (D : Int), .int .i64 (D : Int), .int .u8 (C.toNat : Int)]] w fun e w' => e = .panicked giveUp ∧ Below w.heap.size w w' := by
  go_enter Try.func64, Try.ntmps64
  go_wp2_with fail
  obtain ⟨w1, hw1⟩ : ∃ w1, w1 = w.alloc (.cells #[.int .u8 3, .int .i64 (D : Int), .int .i64 (D : Int), .int .u8 (C.toNat : Int)] 59) := ⟨_, rfl⟩
  have q : Below w.heap.size w w1 := by rw [hw1]; exact (Below.refl _ _).alloc (Nat.le_refl _) _
  rw [← hw1]
  clear hw1
  refine (need_no _).mono ?_
  rintro e w' ⟨rfl, rfl⟩
  go_wp2_with fail
  exact ⟨rfl, rfl, q⟩
def NoReg (nr : Nat) (bs : List Bool) (r : Nat) : Prop := nr ≤ r ∨ (r < nr ∧ bs[r]? = some false)
theorem reg_no (gk gr gs go gd nr no reads n at_ loads nS cS r : Nat) (AS : Option Addr) (bs : List Bool) (w : World)
    (hk : Row w gk 82 (lkV AS nS cS nr no reads n at_ gr gs go gd loads)) (hb : Row w gs 4 (bolVs bs)) (h : NoReg nr bs r) :
    Calls Try.prog 76 #[.pointer (some ⟨gk, 0, none⟩), .int .i64 (r : Int)] w fun e w' => e = .panicked giveUp ∧ w' = w := by
  rcases h with h | ⟨h, h'⟩
  · exact reg_far gk gs r nr w (hk.cell 1) h
  · exact reg_unset gk gs r nr w (hk.cell 1) (hk.cell 7) h (by rw [hb.cell, bolVs, List.getElem?_map, h']; rfl)
set_option maxRecDepth 100000 in
theorem step_out_no (gk gr gs go gd nr no reads n at_ loads nS cS : Nat) (AS : Option Addr) (D S : Nat) (C : UInt8) (bs : List Bool) (w : World)
    (hk : Row w gk 82 (lkV AS nS cS nr no reads n at_ gr gs go gd loads)) (hb : Row w gs 4 (bolVs bs)) (h : NoReg nr bs S) :
    Calls Try.prog 64 #[.pointer (some ⟨gk, 0, none⟩), .agg #[.int .u8 4, .int .i64 (D : Int), .int .i64 (S : Int), .int .u8 (C.toNat : Int)]] w fun e w' => e = .panicked giveUp ∧ Below w.heap.size w w' := by
  go_enter Try.func64, Try.ntmps64
  go_wp2_with fail
  obtain ⟨w1, hw1⟩ : ∃ w1, w1 = w.alloc (.cells #[.int .u8 4, .int .i64 (D : Int), .int .i64 (S : Int), .int .u8 (C.toNat : Int)] 59) := ⟨_, rfl⟩
  have q : Below w.heap.size w w1 := by rw [hw1]; exact (Below.refl _ _).alloc (Nat.le_refl _) _
  have hk1 := hk.below q hk.lt
  have hb1 := hb.below q hb.lt
  rw [← hw1]
  clear hw1
  refine (reg_no gk gr gs go gd nr no reads n at_ loads nS cS S AS bs w1 hk1 hb1 h).mono ?_
  rintro e w' ⟨rfl, rfl⟩
  go_wp2_with fail
  exact ⟨rfl, rfl, q⟩
end Go.Proofs.Ythbjcafldbocpaa
namespace Go.Proofs.Ythbjcafldbocpaa
open Go.RowKit
set_option linter.unusedVariables false
set_option linter.unusedSimpArgs false
theorem ret_b {a b : Bool} (h : a = b) : Ending.returned (.bool a) = .returned (.bool b) := by rw [h]
theorem testb_u64 (p i : Nat) (hp : p < 2 ^ 64) : (bits BinOp.and IntKind.u64 ((p : Int) / 2 ^ i) 1 == 1) = p.testBit i := by
  have e : ((p : Int) / 2 ^ i) = ((p / 2 ^ i : Nat) : Int) := by simp
  have hb : p / 2 ^ i < 2 ^ 64 := Nat.lt_of_le_of_lt (Nat.div_le_self _ _) hp
  rw [e, show (1 : Int) = ((1 : Nat) : Int) from rfl, u64_and_nat _ _ hb (by decide), Nat.and_one_is_mod, Nat.testBit_eq_decide_div_mod_eq, Bool.eq_iff_iff]
  simp
  omega
set_option maxRecDepth 100000 in
theorem has_calls (reads s : Nat) (hs : s < 64) (hr : reads < 2 ^ 64) (w : World) :
    Calls Try.prog 75 #[.int .u64 (reads : Int), .int .i64 (s : Int)] w fun e w' => e = .returned (.bool (reads.testBit s)) ∧ w' = w := by
  have h1 : decide ((s : Int) < 64) = true := decide_eq_true (by omega)
  have h0 : decide ((0 : Int) ≤ (s : Int)) = true := decide_eq_true (by omega)
  go_enter Try.func75, Try.ntmps75
  go_wp2_with fail
  go_ret
  exact ⟨ret_b (testb_u64 reads s hr), rfl⟩
theorem has_is (reads s : Nat) (hs : s < 64) (hr : reads < 2 ^ 64) (b : Bool) (h : reads.testBit s = b) (w : World) :
    Calls Try.prog 75 #[.int .u64 (reads : Int), .int .i64 (s : Int)] w fun e w' => e = .returned (.bool b) ∧ w' = w := by
  subst h
  exact has_calls reads s hs hr w
end Go.Proofs.Ythbjcafldbocpaa
namespace Go.Proofs.Ythbjcafldbocpaa
open Go.RowKit
set_option linter.unusedVariables false
set_option linter.unusedSimpArgs false
def ValO (W : World) (v : Value) : Option (List UInt8) → Prop
  | none => v = .slice none 0 0
  | some l => ∃ g c, v = .slice (some ⟨g, 0, none⟩) l.length c ∧ l.length ≤ c ∧ RdT W (some ⟨g, 0, none⟩) l
theorem ValO.keep {W W' : World} {v : Value} {o : Option (List UInt8)} (h : ValO W v o) (hk : ∀ (g : Nat) (cells : Array Value), W.heap[g]? = some (Obj.cells cells 5 (0, 0)) → W'.heap[g]? = W.heap[g]?) : ValO W' v o := by
  cases o with
  | none => exact h
  | some l => obtain ⟨g, c, e, hc, hr⟩ := h; exact ⟨g, c, e, hc, hr.keep hk⟩
def Vals (W : World) (lv : List Value) (rs : List (Option (List UInt8))) : Prop := lv.length = rs.length ∧ ∀ i, i < rs.length → ValO W (lv.getD i undef) (rs.getD i none)
theorem Vals.keep {W W' : World} {lv : List Value} {rs : List (Option (List UInt8))} (h : Vals W lv rs) (hk : ∀ (g : Nat) (cells : Array Value), W.heap[g]? = some (Obj.cells cells 5 (0, 0)) → W'.heap[g]? = W.heap[g]?) : Vals W' lv rs :=
  ⟨h.1, fun i hi => (h.2 i hi).keep hk⟩
theorem Vals.set {W : World} {lv : List Value} {rs : List (Option (List UInt8))} (h : Vals W lv rs) (D : Nat) {v : Value} {l : List UInt8} (hv : ValO W v (some l)) : Vals W (lv.set D v) (rs.set D (some l)) := by
  refine ⟨by simp [h.1], fun i hi => ?_⟩
  rw [List.length_set] at hi
  rw [set_getD', set_getD', h.1]
  by_cases hc : D = i ∧ D < rs.length
  · rw [if_pos hc, if_pos hc]; exact hv
  · rw [if_neg hc, if_neg hc]; exact h.2 i hi
theorem Vals.cell {W : World} {ga : Nat} {lv : List Value} {rs : List (Option (List UInt8))} (h : Vals W lv rs) (hr : Row W ga 35 lv) {i : Nat} (hi : i < rs.length) : ∃ v, W.cell? ⟨ga, i, none⟩ = some v ∧ ValO W v (rs.getD i none) := by
  have hl : i < lv.length := by rw [h.1]; exact hi
  refine ⟨lv[i], by rw [hr.cell, List.getElem?_eq_getElem hl], ?_⟩
  have := h.2 i hi
  rwa [List.getD_eq_getElem?_getD, List.getElem?_eq_getElem hl] at this
structure DW (W : World) (gt ga gz nr no n : Nat) (st : VS) : Prop where
  ht : Row W gt 113 [.slice (some ⟨ga, 0, none⟩) nr nr, .slice (some ⟨gz, 0, none⟩) no no, .int .u64 (st.loads : Int)]
  la : ∃ lv, Row W ga 35 lv ∧ Vals W lv st.regs
  lz : ∃ lv, Row W gz 35 lv ∧ Vals W lv st.outs
  ok : st.Ok nr no n
  hl : st.loads < 2 ^ 64
  ne : ga ≠ gt ∧ gz ≠ gt ∧ gz ≠ ga
theorem row_type {W : World} {g : Nat} {t t' : TypeId} {ys : List Value} {cells : Array Value} (h : Row W g t ys) (hc : W.heap[g]? = some (Obj.cells cells t' (0, 0))) : t = t' := by
  unfold Row at h
  rw [hc] at h
  injection h with h
  injection h with _ e
  exact e.symm
theorem DW.bytes {W W' : World} {gt ga gz nr no n : Nat} {st : VS} (h : DW W gt ga gz nr no n st) (hc : Chg3 W.heap.size gt ga gz W W') : ∀ (g : Nat) (cells : Array Value), W.heap[g]? = some (Obj.cells cells 5 (0, 0)) → W'.heap[g]? = W.heap[g]? := by
  intro g cells hg
  obtain ⟨lv, hr, _⟩ := h.la
  obtain ⟨lz, hz, _⟩ := h.lz
  refine hc.block g (heap_lt hg) ?_ ?_ ?_
  · rintro rfl; exact absurd (row_type h.ht hg) (by decide)
  · rintro rfl; exact absurd (row_type hr hg) (by decide)
  · rintro rfl; exact absurd (row_type hz hg) (by decide)
theorem DW.below {W W' : World} {gt ga gz nr no n : Nat} {st : VS} (h : DW W gt ga gz nr no n st) (hb : Below W.heap.size W W') : DW W' gt ga gz nr no n st := by
  have hk : ∀ (g : Nat) (cells : Array Value), W.heap[g]? = some (Obj.cells cells 5 (0, 0)) → W'.heap[g]? = W.heap[g]? := fun g cells hg => hb.block g (heap_lt hg)
  obtain ⟨lv, hr, hv⟩ := h.la
  obtain ⟨lz, hz, hw⟩ := h.lz
  exact ⟨h.ht.below hb h.ht.lt, ⟨lv, hr.below hb hr.lt, hv.keep hk⟩, ⟨lz, hz.below hb hz.lt, hw.keep hk⟩, h.ok, h.hl, h.ne⟩
theorem RdT.of_row {W : World} {g : Nat} {l : List UInt8} (h : Row W g 5 (bVs l)) : RdT W (some ⟨g, 0, none⟩) l := by
  intro hn
  refine ⟨g, 0, _, rfl, h, fun j hj => ?_⟩
  rw [Nat.zero_add, List.getElem?_toArray, bVs_get l j hj]
  simp [List.getD, hj]
theorem DW.drewN {W : World} {gt ga gz nr no n : Nat} {st : VS} (h : DW W gt ga gz nr no n st) (k : Nat) : DW (W.drewN k) gt ga gz nr no n st := ⟨h.ht, h.la, h.lz, h.ok, h.hl, h.ne⟩
theorem setCell_bytes {W : World} {g i : Nat} {t : TypeId} {ys : List Value} (hr : Row W g t ys) (ht : t ≠ 5) (v : Value) : ∀ (k : Nat) (cells : Array Value), W.heap[k]? = some (Obj.cells cells 5 (0, 0)) → (W.setCell ⟨g, i, none⟩ v).heap[k]? = W.heap[k]? :=
  fun k cells hk => Below.heap_setCell W ⟨g, i, none⟩ v k (by rintro rfl; exact ht (row_type hr hk))
theorem DW.put {W W' : World} {gt ga gz nr no n : Nat} {st : VS} (h : DW W gt ga gz nr no n st) (hb : Below W.heap.size W W') (D : Nat) {l : List UInt8} (hl : l.length = n) {v : Value} (hv : ValO W' v (some l)) :
    DW (W'.setCell ⟨ga, D, none⟩ v) gt ga gz nr no n { st with regs := st.regs.set D (some l) } ∧ Chg3 W.heap.size gt ga gz W (W'.setCell ⟨ga, D, none⟩ v) := by
  obtain ⟨h1, ⟨lv, hr, hv2⟩, ⟨lz, hz, hw⟩, h4, h5, n1, n2, n3⟩ := h.below hb
  have hk := setCell_bytes (i := D) hr (by decide) v
  exact ⟨⟨h1.far (p := ⟨ga, D, none⟩) (Ne.symm n1) v, ⟨_, hr.set D v, (hv2.set D hv).keep hk⟩, ⟨lz, hz.far (p := ⟨ga, D, none⟩) n3 v, hw.keep hk⟩, h4.set D l hl st.loads, h5, n1, n2, n3⟩, (Chg3.of_below hb).set (g := ga) (.inr (.inl rfl)) D v⟩
theorem ValO.of_row {W : World} {g n : Nat} {l : List UInt8} (h : Row W g 5 (bVs l)) (hl : l.length = n) : ValO W (.slice (some ⟨g, 0, none⟩) n n) (some l) := ⟨g, n, by rw [hl], by omega, RdT.of_row h⟩
end Go.Proofs.Ythbjcafldbocpaa
namespace Go.Proofs.Ythbjcafldbocpaa
open Go.RowKit
set_option linter.unusedVariables false
set_option linter.unusedSimpArgs false

theorem wpList_append_one {ops : Array Oper} {rest : List Oper} {o : Oper} {a : Act} {w0 : World} {Q : Exit → Act → World → Prop} (t e : TypeId) (z : Value) (bytes : Nat) (ht : Try.prog.underlying t = some (.slice e))
    (hinf : (Try.prog.info? e).map (fun i => (i.zero, i.size, i.bytes)) = some (some z, 1, bytes)) (hzs : z.cells.size = 1) (s x : Operand) (hgd : o.guard = none)
    (ho : o.op = .call { callee := .builtin .append, args := #[s, x], argTypes := #[t, t] })
    (base : Nat) (v : Value) (n : Nat) (xs : List Value) (y : Value) (hy : y.oneCell' = true) (hs : a.eval s = v) (hown : w0.ownsRow base e 1 v n xs) (g0 : Nat) (hx : a.eval x = .slice (some ⟨g0, 0, none⟩) 1 1) (hg0 : g0 = w0.heap.size)
    (hlen : n + 1 ≤ maxLen) (hbytes : (n + 1) * bytes ≤ 140737488355328) (hbase : base ≤ w0.heap.size)
    (h : ∀ v' w', w'.ownsRow base e 1 v' (n + 1) (xs ++ [y]) → Below base w0 w' → w0.grownBy w' v.ownBlock → wpList Try.prog ops Q rest (a.put o.dst v') w') :
    wpList Try.prog ops Q (o :: rest) a (w0.alloc (.cells #[y] e)) := by
  subst hg0
  obtain ⟨i, hi, hz, hsz, hby⟩ := info_parts hinf
  refine wpList_append_own _ hgd s x t ho base e i z 1 bytes ht hi hz hsz hby hzs (by decide) v n xs hs (World.ownsRow.alloc hown _) ⟨w0.heap.size, 0, none⟩ 1 1 [y] hx rfl ?_ ?_ hlen hbytes (by simp; omega) ?_
  · intro j u hu
    have hj : j = 0 := by
      rcases Nat.lt_or_ge j 1 with hlt | hge
      · omega
      · rw [List.getElem?_eq_none (by simpa using hge)] at hu; cases hu
    subst hj
    simp only [List.getElem?_cons_zero, Option.some.injEq] at hu
    subst hu
    simp [Addr.add]
  · intro u hu
    rw [List.mem_singleton.1 hu]
    exact hy
  · intro v' w' hown' hg _
    refine h v' w' hown' ?_ ?_
    · exact ((Below.refl base w0).alloc hbase _).grown hg (by simp; omega) (fun k hk => (hown.lt k hk).1)
    · exact ⟨hg.os, hg.tape, hg.output, Nat.le_trans (by simp) hg.size, fun k hk hne => (hg.block k (by simp; omega) hne).trans (Below.heap_alloc _ _ _ hk)⟩
end Go.Proofs.Ythbjcafldbocpaa
namespace Go.Proofs.Ythbjcafldbocpaa
open Go.RowKit
set_option linter.unusedVariables false
set_option linter.unusedSimpArgs false
theorem byte_or (m : Nat) : ∃ y : UInt8, bits BinOp.or IntKind.u8 ((m : Int) % 256) 128 = (y.toNat : Int) := by
  refine ⟨UInt8.ofNat (m % 256 ||| 128), ?_⟩
  have h : m % 256 ||| 128 < 2 ^ 8 := Nat.or_lt_two_pow (by omega) (by decide)
  rw [show ((m : Int) % 256) = ((m % 256 : Nat) : Int) by omega, show (128 : Int) = ((128 : Nat) : Int) from rfl, u8_or_nat _ _ (by omega) (by decide), UInt8.toNat_ofNat', Nat.mod_eq_of_lt h]
theorem byte_at {m : Nat} (h : m < 256) : ∃ y : UInt8, (m : Int) = (y.toNat : Int) := by
  refine ⟨UInt8.ofNat m, ?_⟩
  rw [UInt8.toNat_ofNat']
  omega
set_option maxRecDepth 100000 in
set_option maxHeartbeats 1600000 in
theorem wnum_calls (n : Nat) (hn : n < 2097152) (w : World) :
    Calls Try.prog 74 #[.int .i64 (n : Int)] w fun e w' => ∃ v xs, e = .returned v ∧ OwnV w' w.heap.size v xs ∧ xs.length ≤ 4 ∧ Below w.heap.size w w' := by
  go_enter Try.func74, Try.ntmps74
  go_wp2_with fail
  go_loopw [0, 3] (fun v0 v3 wr => ∃ (m : Nat) (xs : List UInt8), v0 = .int .i64 (m : Int) ∧ OwnV wr w.heap.size v3 xs ∧ xs.length ≤ 3 ∧ (xs.length = 0 → m < 2097152) ∧ (xs.length = 1 → m < 16384) ∧ (xs.length = 2 → m < 128) ∧ (xs.length = 3 → m < 1) ∧ Below w.heap.size w wr) (fun v0 _ _ => (intOf v0).toNat)
  case atStart => exact ⟨n, [], rfl, OwnV.nil _ _, by simp, fun _ => hn, fun h => by simp at h, fun h => by simp at h, fun h => by simp at h, Below.refl _ _⟩
  case round =>
    obtain ⟨m, xs, rfl, ho, hl, l0, l1, l2, l3, hb⟩ := hrel
    have hl4 : xs.length = 0 ∨ xs.length = 1 ∨ xs.length = 2 ∨ xs.length = 3 := by omega
    by_cases hm : 128 ≤ m
    · have hm1 : decide ((128 : Int) ≤ (m : Int)) = true := decide_eq_true (by omega)
      obtain ⟨y, hy⟩ := byte_or m
      have HB := Lib.hid hb
      clear hb
      go_wp2_with (at_builtin; refine wpList_append_byte (.tmp 6) (.tmp 10) rfl rfl w.heap.size _ xs y rfl (show OwnV wr w.heap.size _ xs from ho) rfl (by omega) (show w.heap.size ≤ wr.heap.size from HB.out.size) ?_; intro v1 w1 ho1 hb1 hg1)
      go_roundw
      case rel =>
        refine ⟨m / 128, xs ++ [y], by first | go_num | (simp; done) | omega, ho1, by rw [List.length_append, List.length_singleton]; omega, ?_, ?_, ?_, ?_, HB.out.trans hb1⟩ <;> rw [List.length_append, List.length_singleton] <;> omega
      case measure => simp [intOf]; omega
    · have hm1 : decide ((128 : Int) ≤ (m : Int)) = false := decide_eq_false (by omega)
      obtain ⟨y, hy⟩ := byte_at (m := m) (by omega)
      have hy2 : (m : Int) % 256 = (y.toNat : Int) := by omega
      have HB := Lib.hid hb
      clear hb
      go_wp2_with (at_builtin; refine wpList_append_byte (.tmp 14) (.tmp 17) rfl rfl w.heap.size _ xs y rfl (show OwnV wr w.heap.size _ xs from ho) rfl (by omega) (show w.heap.size ≤ wr.heap.size from HB.out.size) ?_; intro v1 w1 ho1 hb1 hg1)
      go_ret
      exact ⟨_, _, rfl, ho1, by rw [List.length_append, List.length_singleton]; omega, HB.out.trans hb1⟩
theorem wNum_calls (n : Nat) (hn : n < 2097152) (w : World) :
    Calls Try.prog 61 #[.int .i64 (n : Int)] w fun e w' => ∃ v xs, e = .returned (.tuple #[v, .int .i64 0]) ∧ OwnV w' w.heap.size v xs ∧ xs.length ≤ 4 ∧ Below w.heap.size w w' := by
  have h0 : decide ((n : Int) < 0) = false := decide_eq_false (by omega)
  go_enter Try.func61, Try.ntmps61
  go_wp2_with fail
  refine (wnum_calls n hn w).mono ?_
  rintro e w' ⟨v, xs, rfl, ho, hl, hb⟩
  go_wp2_with fail
  go_ret2
  exact ⟨v, xs, rfl, ho, hl, hb⟩
theorem OwnV.set_far {w : World} {base gb : Nat} {v : Value} {xs : List UInt8} (h : OwnV w base v xs) (hg : gb < base) (u : Value) : OwnV (w.setCell ⟨gb, 0, none⟩ u) base v xs :=
  h.kept (row := some gb) (grown_setCell (p := ⟨gb, 0, none⟩) (World.grownBy.refl w (some gb)) (.inl rfl) u) (.inr (by intro e; have := (World.ownsRow.lt h gb e).1; omega))
set_option maxRecDepth 100000 in
set_option maxHeartbeats 1600000 in
theorem write1_calls (n base gb : Nat) (v : Value) (xs : List UInt8) (hn : n < 2097152) (w : World) (hr : Row w gb 35 [v]) (ho : OwnV w base v xs) (hg : gb < base) (hB : base ≤ w.heap.size) (hl : xs.length ≤ 1000000) :
    Calls Try.prog 60 #[.int .i64 (n : Int), .pointer (some ⟨gb, 0, none⟩)] w fun e w' => ∃ v' xs', e = .returned (.tuple #[]) ∧ Row w' gb 35 [v'] ∧ OwnV w' base v' xs' ∧ xs'.length ≤ xs.length + 4 ∧ Chg3 base gb gb gb w w' := by
  go_enter Try.func60, Try.ntmps60
  go_wp2_with fail
  refine (wNum_calls n hn w).mono ?_
  rintro e w1 ⟨x, ys, rfl, hx, hly, hb⟩
  have hr1 := hr.below hb hr.lt
  have c0 : w1.cell? ⟨gb, 0, none⟩ = some v := hr1.cell 0
  have f0 : w1.frozen? ⟨gb, 0, none⟩ = false := hr1.frozen 0
  have ho1 := ho.below hb
  obtain ⟨A, c, rfl, hox⟩ := hx.slice
  have HRD := Lib.hid hox.rd
  have HR := Lib.hid hr1
  have HB := Lib.hid hb
  clear hb hr1
  go_wp2_with (at_builtin; refine wpList_append_rd (.tmp 10) (.tmp 11) rfl rfl base v xs ys rfl ho1 w1.heap.size A ys.length c rfl HRD.out (by omega) (Nat.le_trans hB HB.out.size) ?_; intro v2 w2 ho2 hg2 hat2; obtain ⟨A2, cap2, rfl, hox2⟩ := ho2.slice; have hb2 := Lib.hid (grown_below (B := base) hg2 (Nat.le_trans hB HB.out.size) (fun k hk => (World.ownsRow.lt ho1 k hk).1)); have hr2 := Lib.hid (HR.out.below hb2.out hg); have c2 : w2.cell? ⟨gb, 0, none⟩ = some v := hr2.out.cell 0; have f2 : w2.frozen? ⟨gb, 0, none⟩ = false := hr2.out.frozen 0)
  go_end0
  have h3 := ho2.set_far hg (.slice A2 (xs ++ ys).length cap2)
  rw [List.length_append] at h3
  exact ⟨_, _, rfl, hr2.out.set 0 _, h3, by rw [List.length_append]; omega, (Chg3.of_below ((HB.out.mono hB).trans hb2.out)).set (g := gb) (.inl rfl) 0 _⟩
end Go.Proofs.Ythbjcafldbocpaa
namespace Go.Proofs.Ythbjcafldbocpaa
open Go.RowKit
set_option linter.unusedVariables false
set_option linter.unusedSimpArgs false
theorem catch_idle (p : Addr) (w : World) :
    CallsD Try.prog 63 #[.pointer (some p)] .returning w fun e u' w' => e = .returned (.tuple #[]) ∧ u' = .returning ∧ w' = w := by
  refine callsD_of_wpS Try.func63 rfl fun c₀ cs hu => ?_
  apply wpS_seq
  apply wpS_region
  simp [wpOpsS, go_sem, recoverD, hu, Try.ntmps63, Exit.thenS]
  refine wpS_of_wp ?_
  go_wp2_with fail
  cases c₀
  simp_all [bodyPostS, results, Try.results63]
set_option maxRecDepth 100000 in
theorem catch_panic (g : Nat) (w : World) (u : Value) (hr : Row w g 4 [u]) :
    CallsD Try.prog 63 #[.pointer (some ⟨g, 0, none⟩)] (.panicking giveUp) w fun e u' w' => e = .returned (.tuple #[]) ∧ u' = .panicking [{ v := .iface 125 (.agg #[]), recovered := true }] ∧ w' = (w.alloc (.cells #[] 125)).setCell ⟨g, 0, none⟩ (.bool false) := by
  have hr1 := hr.alloc (.cells #[] 125)
  have hc : (w.alloc (.cells #[] 125)).cell? ⟨g, 0, none⟩ = some u := hr1.cell 0
  have hz : (w.alloc (.cells #[] 125)).frozen? ⟨g, 0, none⟩ = false := hr1.frozen 0
  refine callsD_of_wpS Try.func63 rfl fun c₀ cs hu => ?_
  apply wpS_seq
  apply wpS_region
  simp [wpOpsS, go_sem, recoverD, hu, giveUp, Try.ntmps63, Exit.thenS]
  refine wpS_of_wp ?_
  generalize hQ : (fun e a' w' => bodyPostS Try.prog _ c₀ cs _ e a' _ w') = Q
  change Code.wp _ _ Q { tmps := #[.pointer (some ⟨g, 0, none⟩), .iface 125 (.agg #[]), undef, undef, .iface 125 (.agg #[]), undef, undef, undef, undef, undef, undef, undef, undef, undef, undef], defers := [] } w
  have hta : ∀ w : World, (Instr.typeAssert (.iface 125 (.agg #[])) 20 125 true).run Try.prog w = .ok (.tuple #[.agg #[], .bool true]) w := fun w => by rfl
  apply wp_seq
  go_wp2_with fail
  rw [← hQ]
  simp [bodyPostS, results, Try.results63]
end Go.Proofs.Ythbjcafldbocpaa
namespace Go.Proofs.Ythbjcafldbocpaa
open Go.RowKit
set_option linter.unusedVariables false
set_option linter.unusedSimpArgs false
theorem cs_keep3 {W : World} {a b c p : Addr} {u v z x : Value} (h : W.cell? a = some u ∧ W.cell? b = some v ∧ W.cell? c = some z) (na : p.block ≠ a.block) (nb : p.block ≠ b.block) (nc : p.block ≠ c.block) : (W.setCell p x).cell? a = some u ∧ (W.setCell p x).cell? b = some v ∧ (W.setCell p x).cell? c = some z :=
  ⟨(World.cell?_setCell_other W p a x (by rintro rfl; exact na rfl)).trans h.1, (World.cell?_setCell_other W p b x (by rintro rfl; exact nb rfl)).trans h.2.1, (World.cell?_setCell_other W p c x (by rintro rfl; exact nc rfl)).trans h.2.2⟩
theorem cs_keep3d {W : World} {a b c p : Addr} {u v z x : Value} (h : W.cell? a = some u ∧ W.cell? b = some v ∧ W.cell? c = some z) (na : p.block ≠ a.block) (nb : p.block ≠ b.block) (nc : p.block ≠ c.block) : (W.setCell p x).drew.cell? a = some u ∧ (W.setCell p x).drew.cell? b = some v ∧ (W.setCell p x).drew.cell? c = some z := cs_keep3 h na nb nc
theorem or_bit (loads s : Nat) (hs : s < 64) (hl : loads < 2 ^ 64) : bits BinOp.or IntKind.u64 (loads : Int) (IntKind.u64.wrap (2 ^ s)) = ((loads ||| 1 <<< s : Nat) : Int) := by
  have h1 : 2 ^ s < 18446744073709551616 := Nat.lt_of_lt_of_le (Nat.pow_lt_pow_right (by decide) hs) (by decide)
  have e : ((2 : Int) ^ s) = ((2 ^ s : Nat) : Int) := by simp
  rw [IntKind.wrap_u64, e, show ((2 ^ s : Nat) : Int) % 18446744073709551616 = ((2 ^ s : Nat) : Int) from Int.emod_eq_of_lt (Int.natCast_nonneg _) (by omega), u64_or_nat _ _ hl h1, Nat.one_shiftLeft]
set_option maxHeartbeats 4000000 in
set_option maxRecDepth 100000 in
theorem step_load (gk gr gs go gd nr no reads n at_ loads nS cS : Nat) (AS : Option Addr) (D S : Nat) (C : UInt8) (bs : List Bool) (rs : List Value) (w : World)
    (hk : Row w gk 82 (lkV AS nS cS nr no reads n at_ gr gs go gd loads)) (hb : Row w gs 4 (bolVs bs)) (hr : Row w gr 87 rs) (lb : bs.length = nr) (lr : rs.length = nr * 64) (hD : D < nr) (hn : n ≤ 64) (hrd : reads < 2 ^ 64) (hld : loads < 2 ^ 64) (n1 : gs ≠ gk) (n2 : gr ≠ gk) (n3 : gr ≠ gs) :
    Calls Try.prog 64 #[.pointer (some ⟨gk, 0, none⟩), .agg #[.int .u8 2, .int .i64 (D : Int), .int .i64 (S : Int), .int .u8 (C.toNat : Int)]] w fun e w' =>
      (S < n ∧ reads.testBit S = true → e = .returned (.tuple #[]) ∧ Row w' gk 82 (lkV AS nS cS nr no reads n at_ gr gs go gd (loads ||| 1 <<< S)) ∧ Row w' gs 4 (bolVs (bs.set D true)) ∧ Row w' gr 87 (layAt rs (D * 64) ((List.replicate 64 (.int .u8 0)).set S (.int .u8 1))) ∧ Chg3 w.heap.size gs gr gk w w') ∧
      (¬ (S < n ∧ reads.testBit S = true) → e = .panicked giveUp ∧ Row w' gk 82 (lkV AS nS cS nr no reads n at_ gr gs go gd loads) ∧ Chg3 w.heap.size gs gr gk w w') := by
  have h1 : decide ((D : Int) < (nr : Int)) = true := decide_eq_true (by omega)
  go_enter Try.func64, Try.ntmps64
  go_wp2_with fail
  obtain ⟨w1, hw1⟩ : ∃ w1, w1 = w.alloc (.cells #[.int .u8 2, .int .i64 (D : Int), .int .i64 (S : Int), .int .u8 (C.toNat : Int)] 59) := ⟨_, rfl⟩
  have q : Below w.heap.size w w1 := by rw [hw1]; exact (Below.refl _ _).alloc (Nat.le_refl _) _
  have hx : Row w1 w.heap.size 59 [.int .u8 2, .int .i64 (D : Int), .int .i64 (S : Int), .int .u8 (C.toNat : Int)] := by rw [hw1]; exact Row.new w _ _
  have hk1 := hk.below q hk.lt
  have hb1 := hb.below q hb.lt
  have hr1 := hr.below q hr.lt
  rw [← hw1]
  clear hw1
  have x0 : w1.cell? ⟨w.heap.size, 0, none⟩ = some (.int .u8 2) := hx.cell 0
  have x1 : w1.cell? ⟨w.heap.size, 1, none⟩ = some (.int .i64 (D : Int)) := hx.cell 1
  have c1 : w1.cell? ⟨gk, 1, none⟩ = some (.int .i64 (nr : Int)) := hk1.cell 1
  have c6 : w1.cell? ⟨gk, 6, none⟩ = some (.slice (some ⟨gr, 0, none⟩) nr nr) := hk1.cell 6
  have c7 : w1.cell? ⟨gk, 7, none⟩ = some (.slice (some ⟨gs, 0, none⟩) nr nr) := hk1.cell 7
  have i0 : (0 : Int) ≤ (D : Int) := by omega
  have i1 : (D : Int) < (nr : Int) := by omega
  have e1 : gs ≠ w.heap.size := by have := hb.lt; omega
  have e2 : gk ≠ w.heap.size := by have := hk.lt; omega
  obtain ⟨ob, ho⟩ : ∃ ob, w1.cell? ⟨gs, D, none⟩ = some ob := hb1.has (by simp [bolVs, lb]; omega)
  have hf : w1.frozen? ⟨gs, D, none⟩ = false := hb1.frozen D
  go_quiet (exact Calls.quiet_of_same (need_yes _))
  go_wp2_with fail
  go_region_held3 (fun x => x.cell? ⟨gk, 7, none⟩ = some (.slice (some ⟨gs, 0, none⟩) nr nr) ∧ x.cell? ⟨w.heap.size, 1, none⟩ = some (.int .i64 (D : Int))) (go_keep) (fail)
  obtain ⟨w2, hw2⟩ : ∃ w2, w2 = (w1.drewN (nq + 1)).setCell ⟨gs, D, none⟩ (.bool true) := ⟨_, rfl⟩
  have hk2 := (hk1.drewN (nq + 1)).far (p := ⟨gs, D, none⟩) (Ne.symm n1) (.bool true)
  rw [← hw2] at hk2
  have hb2 := (hb1.drewN (nq + 1)).set D (.bool true)
  rw [← hw2] at hb2
  have hr2 := (hr1.drewN (nq + 1)).far (p := ⟨gs, D, none⟩) n3 (.bool true)
  rw [← hw2] at hr2
  have hx2 := (hx.drewN (nq + 1)).far (p := ⟨gs, D, none⟩) (Ne.symm e1) (.bool true)
  rw [← hw2] at hx2
  have q2 : w.heap.size ≤ w2.heap.size := by have := hx2.lt; omega
  have hch2 : Chg3 w.heap.size gs gr gk w w2 := by rw [hw2]; exact ((Chg3.of_below q).drewN _).set (Or.inl rfl) _ _
  rw [← hw2]
  clear hw2 x0 x1 c1 c6 c7 ho hf
  have x0 : w2.cell? ⟨w.heap.size, 0, none⟩ = some (.int .u8 2) := hx2.cell 0
  have x1 : w2.cell? ⟨w.heap.size, 1, none⟩ = some (.int .i64 (D : Int)) := hx2.cell 1
  have c6 : w2.cell? ⟨gk, 6, none⟩ = some (.slice (some ⟨gr, 0, none⟩) nr nr) := hk2.cell 6
  have hth : w2.there gr (D * 64) 64 := fun j hj => ⟨by rw [hr2.cell, List.getElem?_eq_getElem (by omega)]; rfl, hr2.frozen _⟩
  go_wp2_with fail
  have e3 : w.heap.size ≠ gr := by have := hr.lt; omega
  have d6 : w2.drew.cell? ⟨gk, 6, none⟩ = some (.slice (some ⟨gr, 0, none⟩) nr nr) := c6
  have dx : w2.drew.cell? ⟨w.heap.size, 1, none⟩ = some (.int .i64 (D : Int)) := x1
  have dth : w2.drew.there gr (D * 64) 64 := hth
  have z1 := zs_one
  have z2 := zs_info
  have z3 : Try.prog.underlying 87 = some (.array 64 5) := by kernel_rfl
  go_region_held3 (fun x => x.cell? ⟨gk, 6, none⟩ = some (.slice (some ⟨gr, 0, none⟩) nr nr) ∧ x.cell? ⟨w.heap.size, 1, none⟩ = some (.int .i64 (D : Int)) ∧ x.there gr (D * 64) 64) (first | (with_reducible exact sc_keep ⟨d6, dx, dth⟩ n2 e3 _ _) | (with_reducible exact ⟨d6, dx, dth⟩) | (with_reducible exact ⟨c6, x1, hth⟩)) (fail)
  obtain ⟨vs, hvs⟩ : ∃ vs : List Value, vs = [.int .u8 0, .int .u8 0, .int .u8 0, .int .u8 0, .int .u8 0, .int .u8 0, .int .u8 0, .int .u8 0, .int .u8 0, .int .u8 0, .int .u8 0, .int .u8 0, .int .u8 0, .int .u8 0, .int .u8 0, .int .u8 0, .int .u8 0, .int .u8 0, .int .u8 0, .int .u8 0, .int .u8 0, .int .u8 0, .int .u8 0, .int .u8 0, .int .u8 0, .int .u8 0, .int .u8 0, .int .u8 0, .int .u8 0, .int .u8 0, .int .u8 0, .int .u8 0, .int .u8 0, .int .u8 0, .int .u8 0, .int .u8 0, .int .u8 0, .int .u8 0, .int .u8 0, .int .u8 0, .int .u8 0, .int .u8 0, .int .u8 0, .int .u8 0, .int .u8 0, .int .u8 0, .int .u8 0, .int .u8 0, .int .u8 0, .int .u8 0, .int .u8 0, .int .u8 0, .int .u8 0, .int .u8 0, .int .u8 0, .int .u8 0, .int .u8 0, .int .u8 0, .int .u8 0, .int .u8 0, .int .u8 0, .int .u8 0, .int .u8 0, .int .u8 0] := ⟨_, rfl⟩
  obtain ⟨w3, hw3⟩ : ∃ w3, w3 = w2.drew.setCells gr (D * 64) vs := ⟨_, rfl⟩
  have y0 : w3.cell? ⟨w.heap.size, 0, none⟩ = some (.int .u8 2) := by rw [hw3, World.cell?_setCells_out gr vs _ _ _ (fun h => absurd h e3)]; exact x0
  have lvs : vs.length = 64 := by rw [hvs]; rfl
  have evs : vs = List.replicate 64 (.int .u8 0) := by rw [hvs]; rfl
  have hk3 := (hk2.drewN 1).farLay (Ne.symm n2) (D * 64) vs
  have hb3 := (hb2.drewN 1).farLay (Ne.symm n3) (D * 64) vs
  have hr3 := (hr2.drewN 1).lay (D * 64) vs (by rw [lvs, lr]; omega)
  have hx3 := (hx2.drewN 1).farLay e3 (D * 64) vs
  have hch3 := (hch2.drewN 1).lay (g := gr) (Or.inr (Or.inl rfl)) (D * 64) vs
  have ew3 : (w2.drewN 1).setCells gr (D * 64) vs = w3 := by rw [hw3]; rfl
  rw [ew3] at hk3 hb3 hr3 hx3 hch3
  rw [← hvs, ← hw3]
  clear hw3 hvs ew3 z1 z2 z3 d6 dx dth hth c6 x0 x1
  have x1 : w3.cell? ⟨w.heap.size, 1, none⟩ = some (.int .i64 (D : Int)) := hx3.cell 1
  have x2 : w3.cell? ⟨w.heap.size, 2, none⟩ = some (.int .i64 (S : Int)) := hx3.cell 2
  have k3 : w3.cell? ⟨gk, 3, none⟩ = some (.int .u64 (reads : Int)) := hk3.cell 3
  have k4 : w3.cell? ⟨gk, 4, none⟩ = some (.int .i64 (n : Int)) := hk3.cell 4
  have k6 : w3.cell? ⟨gk, 6, none⟩ = some (.slice (some ⟨gr, 0, none⟩) nr nr) := hk3.cell 6
  go_wp2_with fail
  by_cases hS : S < n
  · have s1 : decide ((S : Int) < (n : Int)) = true := decide_eq_true (by omega)
    have s2 : decide (S < n) = true := decide_eq_true hS
    by_cases hH : reads.testBit S = true
    · go_quiet (first | exact Calls.quiet_of_same (has_is reads S (by omega) hrd true hH _) | exact Calls.quiet_of_same (need_yes _))
      go_wp2_with fail
      have hcl : ∃ ob2, (w3.drewN nq).cell? ⟨gr, D * 64 + S, none⟩ = some ob2 := hr3.has (by rw [layAt_length _ _ _ (by rw [lvs, lr]; omega), lr]; omega)
      obtain ⟨ob2, hcl⟩ := hcl
      have hfr : (w3.drewN nq).frozen? ⟨gr, D * 64 + S, none⟩ = false := (hr3.drewN nq).frozen _
      have j0 : (0 : Int) ≤ (S : Int) := by omega
      have j1 : (S : Int) < 64 := by omega
      obtain ⟨w4, hw4⟩ : ∃ w4, w4 = w3.drewN nq := ⟨_, rfl⟩
      rw [← hw4] at hcl hfr
      have l6 : w4.cell? ⟨gk, 6, none⟩ = some (.slice (some ⟨gr, 0, none⟩) nr nr) := by rw [hw4]; exact k6
      have l1 : w4.cell? ⟨w.heap.size, 1, none⟩ = some (.int .i64 (D : Int)) := by rw [hw4]; exact x1
      have l2 : w4.cell? ⟨w.heap.size, 2, none⟩ = some (.int .i64 (S : Int)) := by rw [hw4]; exact x2
      have m6 : w4.drew.cell? ⟨gk, 6, none⟩ = some (.slice (some ⟨gr, 0, none⟩) nr nr) := l6
      have m1 : w4.drew.cell? ⟨w.heap.size, 1, none⟩ = some (.int .i64 (D : Int)) := l1
      have m2 : w4.drew.cell? ⟨w.heap.size, 2, none⟩ = some (.int .i64 (S : Int)) := l2
      have hk4 := hk3.drewN nq
      rw [← hw4] at hk4
      have hb4 := hb3.drewN nq
      rw [← hw4] at hb4
      have hr4 := hr3.drewN nq
      rw [← hw4] at hr4
      have hx4 := hx3.drewN nq
      rw [← hw4] at hx4
      have hch4 : Chg3 w.heap.size gs gr gk w w4 := by rw [hw4]; exact hch3.drewN _
      have y4 : w4.cell? ⟨w.heap.size, 0, none⟩ = some (.int .u8 2) := hx4.cell 0
      rw [← hw4]
      clear hw4 x1 x2 k3 k4 k6 y0 hk3 hb3 hr3 hx3 hch3
      have e3' : gr ≠ w.heap.size := Ne.symm e3
      go_region_held3 (fun x => x.cell? ⟨gk, 6, none⟩ = some (.slice (some ⟨gr, 0, none⟩) nr nr) ∧ x.cell? ⟨w.heap.size, 1, none⟩ = some (.int .i64 (D : Int)) ∧ x.cell? ⟨w.heap.size, 2, none⟩ = some (.int .i64 (S : Int))) (first | (with_reducible exact cs_keep3d ⟨l6, l1, l2⟩ n2 e3' e3') | (with_reducible exact cs_keep3 ⟨m6, m1, m2⟩ n2 e3' e3') | (with_reducible exact ⟨m6, m1, m2⟩) | (with_reducible exact ⟨l6, l1, l2⟩)) (fail)
      have hk5 := ((hk4.far (p := ⟨gr, D * 64 + S, none⟩) (Ne.symm n2) (.int .u8 1)).drewN 1)
      have hb5 := ((hb4.far (p := ⟨gr, D * 64 + S, none⟩) (Ne.symm n3) (.int .u8 1)).drewN 1)
      have hr5 := ((hr4.set (D * 64 + S) (.int .u8 1)).drewN 1)
      have hx5 := ((hx4.far (p := ⟨gr, D * 64 + S, none⟩) e3 (.int .u8 1)).drewN 1)
      have hch5 := ((hch4.set (g := gr) (Or.inr (Or.inl rfl)) (D * 64 + S) (.int .u8 1)).drewN 1)
      obtain ⟨w5, hw5⟩ : ∃ w5, w5 = (w4.setCell ⟨gr, D * 64 + S, none⟩ (.int .u8 1)).drewN 1 := ⟨_, rfl⟩
      rw [← hw5] at hk5 hb5 hr5 hx5 hch5
      have hw5' : (w4.setCell ⟨gr, D * 64 + S, none⟩ (.int .u8 1)).drew = w5 := hw5.symm
      rw [hw5']
      clear hw5 hw5' hk4 hb4 hr4 hx4 hch4 y4 l6 l1 l2 m6 m1 m2 hcl hfr
      have x2 : w5.cell? ⟨w.heap.size, 2, none⟩ = some (.int .i64 (S : Int)) := hx5.cell 2
      have x0 : w5.cell? ⟨w.heap.size, 0, none⟩ = some (.int .u8 2) := hx5.cell 0
      have k10 : w5.cell? ⟨gk, 10, none⟩ = some (.int .u64 (loads : Int)) := hk5.cell 10
      have f10 : w5.frozen? ⟨gk, 10, none⟩ = false := hk5.frozen 10
      go_wp2_with fail
      go_region
      have hk6 := (hk5.set 10 (.int .u64 (bits BinOp.or IntKind.u64 (loads : Int) (IntKind.u64.wrap (2 ^ S))))).drewN 1
      have hb6 := ((hb5.far (p := ⟨gk, 10, none⟩) n1 (.int .u64 (bits BinOp.or IntKind.u64 (loads : Int) (IntKind.u64.wrap (2 ^ S))))).drewN 1)
      have hr6 := ((hr5.far (p := ⟨gk, 10, none⟩) n2 (.int .u64 (bits BinOp.or IntKind.u64 (loads : Int) (IntKind.u64.wrap (2 ^ S))))).drewN 1)
      have hx6 := ((hx5.far (p := ⟨gk, 10, none⟩) (Ne.symm e2) (.int .u64 (bits BinOp.or IntKind.u64 (loads : Int) (IntKind.u64.wrap (2 ^ S))))).drewN 1)
      have hch6 := ((hch5.set (g := gk) (Or.inr (Or.inr (Or.inl rfl))) 10 (.int .u64 (bits BinOp.or IntKind.u64 (loads : Int) (IntKind.u64.wrap (2 ^ S))))).drewN 1)
      obtain ⟨w6, hw6⟩ : ∃ w6, w6 = (w5.setCell ⟨gk, 10, none⟩ (.int .u64 (bits BinOp.or IntKind.u64 (loads : Int) (IntKind.u64.wrap (2 ^ S))))).drewN 1 := ⟨_, rfl⟩
      rw [← hw6] at hk6 hb6 hr6 hx6 hch6
      have hw6' : (w5.setCell ⟨gk, 10, none⟩ (.int .u64 (bits BinOp.or IntKind.u64 (loads : Int) (IntKind.u64.wrap (2 ^ S))))).drew = w6 := hw6.symm
      rw [hw6']
      clear hw6 hw6'
      have x0 : w6.cell? ⟨w.heap.size, 0, none⟩ = some (.int .u8 2) := hx6.cell 0
      rw [or_bit loads S (by omega) hld] at hk6
      clear x2 k10 f10 hk5 hb5 hr5 hx5 hch5
      go_wp2_with fail
      go_end0
      refine ⟨fun _ => ⟨rfl, hk6, by rw [bolVs, List.map_set]; exact hb6, ?_, hch6⟩, fun h => absurd ⟨hS, hH⟩ h⟩
      rw [evs] at hr6
      have e7 : (layAt rs (D * 64) (List.replicate 64 (.int .u8 0))).set (D * 64 + S) (.int .u8 1) = layAt rs (D * 64) ((List.replicate 64 (.int .u8 0)).set S (.int .u8 1)) := by
        unfold layAt
        rw [List.length_set, List.length_replicate, List.set_append_left _ _ (by simp [lr]; omega), List.set_append_right _ _ (by simp [lr]; omega), List.length_take, lr, Nat.min_eq_left (by omega), show D * 64 + S - D * 64 = S by omega]
      rw [e7] at hr6
      exact hr6
    · refine wp_region_held_drew (S := (fun x => x.cell? ⟨w.heap.size, 2, none⟩ = some (.int .i64 (S : Int)) ∧ x.cell? ⟨gk, 3, none⟩ = some (.int .u64 (reads : Int)) ∧ x.cell? ⟨gk, 4, none⟩ = some (.int .i64 (n : Int)))) (by kernel_rfl) ⟨x2, k3, k4⟩ (fun hHeld => ?_)
      refine wpAnyH_take (i := 0) (v := ?_) rfl (by kernel_rfl) (by kernel_rfl) (by kernel_rfl) (fun _ _ _ h => h) (Or.inl ⟨by kernel_rfl, ?_⟩) (by assumption) ?_
      rotate_left
      · (intro w hSw; (try dsimp only at hSw); go_simp; (try with_reducible rfl))
      try simp only [List.getElem_toArray, List.getElem_cons_succ, List.getElem_cons_zero, Act.put, List.setIfInBounds_toArray, List.set_cons_zero, List.set_cons_succ]
      refine wpAnyH_take (i := 1) (v := ?_) rfl (by kernel_rfl) (by kernel_rfl) (by kernel_rfl) (fun _ _ _ h => h) (Or.inl ⟨by kernel_rfl, ?_⟩) (by assumption) ?_
      rotate_left
      · (intro w hSw; (try dsimp only at hSw); go_simp; (try with_reducible rfl))
      try simp only [List.getElem_toArray, List.getElem_cons_succ, List.getElem_cons_zero, Act.put, List.setIfInBounds_toArray, List.set_cons_zero, List.set_cons_succ]
      refine wpAnyH_take (i := 2) (v := ?_) rfl (by kernel_rfl) (by kernel_rfl) (by kernel_rfl) (fun _ _ _ h => h) (Or.inl ⟨by kernel_rfl, ?_⟩) (by assumption) ?_
      rotate_left
      · (intro w hSw; (try dsimp only at hSw); go_simp; (try with_reducible rfl))
      try simp only [List.getElem_toArray, List.getElem_cons_succ, List.getElem_cons_zero, Act.put, List.setIfInBounds_toArray, List.set_cons_zero, List.set_cons_succ]
      refine wpAnyH_take (i := 3) (v := ?_) rfl (by kernel_rfl) (by kernel_rfl) (by kernel_rfl) (fun _ _ _ h => h) (Or.inl ⟨by kernel_rfl, ?_⟩) (by assumption) ?_
      rotate_left
      · (intro w hSw; (try dsimp only at hSw); go_simp; (try with_reducible rfl))
      try simp only [List.getElem_toArray, List.getElem_cons_succ, List.getElem_cons_zero, Act.put, List.setIfInBounds_toArray, List.set_cons_zero, List.set_cons_succ]
      refine wpAnyH_take (i := 4) (v := ?_) rfl (by kernel_rfl) (by kernel_rfl) (by kernel_rfl) (fun _ _ _ h => h) (Or.inl ⟨by kernel_rfl, ?_⟩) (by assumption) ?_
      rotate_left
      · (intro w hSw; (try dsimp only at hSw); go_simp; (try with_reducible rfl))
      try simp only [List.getElem_toArray, List.getElem_cons_succ, List.getElem_cons_zero, Act.put, List.setIfInBounds_toArray, List.set_cons_zero, List.set_cons_succ]
      refine wpAnyH_take (i := 5) (v := ?_) rfl (by kernel_rfl) (by kernel_rfl) (by kernel_rfl) (fun _ _ _ h => h) (Or.inl ⟨by kernel_rfl, ?_⟩) (by assumption) ?_
      rotate_left
      · (intro w hSw; (try dsimp only at hSw); go_simp; (try with_reducible rfl))
      try simp only [List.getElem_toArray, List.getElem_cons_succ, List.getElem_cons_zero, Act.put, List.setIfInBounds_toArray, List.set_cons_zero, List.set_cons_succ]
      refine wpAnyH_take (i := 6) (v := ?_) rfl (by kernel_rfl) (by kernel_rfl) (by kernel_rfl) (fun _ _ _ h => h) (Or.inl ⟨by kernel_rfl, ?_⟩) (by assumption) ?_
      rotate_left
      · (intro w hSw; (try dsimp only at hSw); go_simp; (try with_reducible rfl))
      try simp only [List.getElem_toArray, List.getElem_cons_succ, List.getElem_cons_zero, Act.put, List.setIfInBounds_toArray, List.set_cons_zero, List.set_cons_succ]
      refine wpAnyH_take (i := 7) (v := ?_) rfl (by kernel_rfl) (by kernel_rfl) (by kernel_rfl) (fun _ _ _ h => h) (Or.inl ⟨by kernel_rfl, ?_⟩) (by assumption) ?_
      rotate_left
      · (intro w hSw; (try dsimp only at hSw); go_simp; (try with_reducible rfl))
      try simp only [List.getElem_toArray, List.getElem_cons_succ, List.getElem_cons_zero, Act.put, List.setIfInBounds_toArray, List.set_cons_zero, List.set_cons_succ]
      refine wpAnyH_take (i := 8) (v := ?_) rfl (by kernel_rfl) (by kernel_rfl) (by kernel_rfl) (fun _ _ _ h => h) (Or.inl ⟨by kernel_rfl, ?_⟩) (by assumption) ?_
      rotate_left
      · (intro w hSw; (try dsimp only at hSw); go_simp; (try with_reducible rfl))
      try simp only [List.getElem_toArray, List.getElem_cons_succ, List.getElem_cons_zero, Act.put, List.setIfInBounds_toArray, List.set_cons_zero, List.set_cons_succ]
      refine wpAnyH_take (i := 9) (v := ?_) rfl (by kernel_rfl) (by kernel_rfl) (by kernel_rfl) (fun _ _ _ h => h) (Or.inl ⟨by kernel_rfl, ?_⟩) (by assumption) ?_
      rotate_left
      · (intro w hSw; (try dsimp only at hSw); go_simp; (try with_reducible rfl))
      try simp only [List.getElem_toArray, List.getElem_cons_succ, List.getElem_cons_zero, Act.put, List.setIfInBounds_toArray, List.set_cons_zero, List.set_cons_succ]
      refine wpAnyH_take (i := 10) (v := ?_) rfl (by kernel_rfl) (by kernel_rfl) (by kernel_rfl) (fun _ _ _ h => h) (Or.inl ⟨by kernel_rfl, ?_⟩) (by assumption) ?_
      rotate_left
      · (intro w hSw; (try dsimp only at hSw); go_simp; (try with_reducible rfl))
      try simp only [List.getElem_toArray, List.getElem_cons_succ, List.getElem_cons_zero, Act.put, List.setIfInBounds_toArray, List.set_cons_zero, List.set_cons_succ]
      refine wpAnyH_take (i := 11) (v := ?_) rfl (by kernel_rfl) (by kernel_rfl) (by kernel_rfl) (fun _ _ _ h => h) (Or.inl ⟨by kernel_rfl, ?_⟩) (by assumption) ?_
      rotate_left
      · (intro w hSw; (try dsimp only at hSw); go_simp; (try with_reducible rfl))
      try simp only [List.getElem_toArray, List.getElem_cons_succ, List.getElem_cons_zero, Act.put, List.setIfInBounds_toArray, List.set_cons_zero, List.set_cons_succ]
      refine wpAnyH_take (i := 12) (v := ?_) rfl (by kernel_rfl) (by kernel_rfl) (by kernel_rfl) (fun _ _ _ h => h) (Or.inl ⟨by kernel_rfl, ?_⟩) (by assumption) ?_
      rotate_left
      · (intro w hSw; (try dsimp only at hSw); go_simp; (try with_reducible rfl))
      try simp only [List.getElem_toArray, List.getElem_cons_succ, List.getElem_cons_zero, Act.put, List.setIfInBounds_toArray, List.set_cons_zero, List.set_cons_succ]
      refine wpAnyH_take (i := 13) (v := ?_) rfl (by kernel_rfl) (by kernel_rfl) (by kernel_rfl) (fun _ _ _ h => h) (Or.inl ⟨by kernel_rfl, ?_⟩) (by assumption) ?_
      rotate_left
      · (intro w hSw; (try dsimp only at hSw); go_simp; (try with_reducible rfl))
      try simp only [List.getElem_toArray, List.getElem_cons_succ, List.getElem_cons_zero, Act.put, List.setIfInBounds_toArray, List.set_cons_zero, List.set_cons_succ]
      refine wpAnyH_take (i := 14) (v := ?_) rfl (by kernel_rfl) (by kernel_rfl) (by kernel_rfl) (fun _ _ _ h => h) (Or.inl ⟨by kernel_rfl, ?_⟩) (by assumption) ?_
      rotate_left
      · (intro w hSw; (try dsimp only at hSw); go_simp; (try with_reducible rfl))
      try simp only [List.getElem_toArray, List.getElem_cons_succ, List.getElem_cons_zero, Act.put, List.setIfInBounds_toArray, List.set_cons_zero, List.set_cons_succ]
      refine wpAnyH_ready (rs := [15]) (by kernel_rfl) (by simp) ?_
      refine AllReadyH.cons rfl (fun K hK => ?_) AllReadyH.nil
      go_simp
      refine (has_is reads S (by omega) hrd false (by simpa using hH) _).mono ?_
      rintro e w' ⟨rfl, rfl⟩
      refine hK.out _ _ hHeld (fun hHeld => ?_)
      clear hK K
      try simp only [List.getElem_toArray, List.getElem_cons_succ, List.getElem_cons_zero, Act.put, List.setIfInBounds_toArray, List.set_cons_zero, List.set_cons_succ]
      refine wpAnyH_take (i := 16) (v := ?_) rfl (by kernel_rfl) (by kernel_rfl) (by kernel_rfl) (fun _ _ _ h => h) (Or.inl ⟨by kernel_rfl, ?_⟩) (by assumption) ?_
      rotate_left
      · (intro w hSw; (try dsimp only at hSw); go_simp; (try with_reducible rfl))
      try simp only [List.getElem_toArray, List.getElem_cons_succ, List.getElem_cons_zero, Act.put, List.setIfInBounds_toArray, List.set_cons_zero, List.set_cons_succ]
      refine wpAnyH_ready (rs := [17]) (by kernel_rfl) (by simp) ?_
      refine AllReadyH.cons rfl (fun K hK => ?_) AllReadyH.nil
      go_simp
      refine (need_no _).mono ?_
      rintro e w' ⟨rfl, rfl⟩
      exact ⟨rfl, fun h => absurd h.2 hH, fun _ => ⟨rfl, hk3.drewN _, hch3.drewN _⟩⟩
  · have s1 : decide ((S : Int) < (n : Int)) = false := decide_eq_false (by omega)
    have s2 : decide (S < n) = false := decide_eq_false hS
    refine wp_region_held_drew (S := (fun x => x.cell? ⟨w.heap.size, 2, none⟩ = some (.int .i64 (S : Int)) ∧ x.cell? ⟨gk, 4, none⟩ = some (.int .i64 (n : Int)))) (by kernel_rfl) ⟨x2, k4⟩ (fun hHeld => ?_)
    refine wpAnyH_take (i := 0) (v := ?_) rfl (by kernel_rfl) (by kernel_rfl) (by kernel_rfl) (fun _ _ _ h => h) (Or.inl ⟨by kernel_rfl, ?_⟩) (by assumption) ?_
    rotate_left
    · (intro w hSw; (try dsimp only at hSw); go_simp; (try with_reducible rfl))
    try simp only [List.getElem_toArray, List.getElem_cons_succ, List.getElem_cons_zero, Act.put, List.setIfInBounds_toArray, List.set_cons_zero, List.set_cons_succ]
    refine wpAnyH_take (i := 1) (v := ?_) rfl (by kernel_rfl) (by kernel_rfl) (by kernel_rfl) (fun _ _ _ h => h) (Or.inl ⟨by kernel_rfl, ?_⟩) (by assumption) ?_
    rotate_left
    · (intro w hSw; (try dsimp only at hSw); go_simp; (try with_reducible rfl))
    try simp only [List.getElem_toArray, List.getElem_cons_succ, List.getElem_cons_zero, Act.put, List.setIfInBounds_toArray, List.set_cons_zero, List.set_cons_succ]
    refine wpAnyH_take (i := 2) (v := ?_) rfl (by kernel_rfl) (by kernel_rfl) (by kernel_rfl) (fun _ _ _ h => h) (Or.inl ⟨by kernel_rfl, ?_⟩) (by assumption) ?_
    rotate_left
    · (intro w hSw; (try dsimp only at hSw); go_simp; (try with_reducible rfl))
    try simp only [List.getElem_toArray, List.getElem_cons_succ, List.getElem_cons_zero, Act.put, List.setIfInBounds_toArray, List.set_cons_zero, List.set_cons_succ]
    refine wpAnyH_take (i := 3) (v := ?_) rfl (by kernel_rfl) (by kernel_rfl) (by kernel_rfl) (fun _ _ _ h => h) (Or.inl ⟨by kernel_rfl, ?_⟩) (by assumption) ?_
    rotate_left
    · (intro w hSw; (try dsimp only at hSw); go_simp; (try with_reducible rfl))
    try simp only [List.getElem_toArray, List.getElem_cons_succ, List.getElem_cons_zero, Act.put, List.setIfInBounds_toArray, List.set_cons_zero, List.set_cons_succ]
    refine wpAnyH_take (i := 4) (v := ?_) rfl (by kernel_rfl) (by kernel_rfl) (by kernel_rfl) (fun _ _ _ h => h) (Or.inl ⟨by kernel_rfl, ?_⟩) (by assumption) ?_
    rotate_left
    · (intro w hSw; (try dsimp only at hSw); go_simp; (try with_reducible rfl))
    try simp only [List.getElem_toArray, List.getElem_cons_succ, List.getElem_cons_zero, Act.put, List.setIfInBounds_toArray, List.set_cons_zero, List.set_cons_succ]
    refine wpAnyH_take (i := 5) (v := ?_) rfl (by kernel_rfl) (by kernel_rfl) (by kernel_rfl) (fun _ _ _ h => h) (Or.inl ⟨by kernel_rfl, ?_⟩) (by assumption) ?_
    rotate_left
    · (intro w hSw; (try dsimp only at hSw); go_simp; (try with_reducible rfl))
    try simp only [List.getElem_toArray, List.getElem_cons_succ, List.getElem_cons_zero, Act.put, List.setIfInBounds_toArray, List.set_cons_zero, List.set_cons_succ]
    refine wpAnyH_take (i := 6) (v := ?_) rfl (by kernel_rfl) (by kernel_rfl) (by kernel_rfl) (fun _ _ _ h => h) (Or.inl ⟨by kernel_rfl, ?_⟩) (by assumption) ?_
    rotate_left
    · (intro w hSw; (try dsimp only at hSw); go_simp; (try with_reducible rfl))
    try simp only [List.getElem_toArray, List.getElem_cons_succ, List.getElem_cons_zero, Act.put, List.setIfInBounds_toArray, List.set_cons_zero, List.set_cons_succ]
    refine wpAnyH_take (i := 7) (v := ?_) rfl (by kernel_rfl) (by kernel_rfl) (by kernel_rfl) (fun _ _ _ h => h) (Or.inl ⟨by kernel_rfl, ?_⟩) (by assumption) ?_
    rotate_left
    · (intro w hSw; (try dsimp only at hSw); go_simp; (try with_reducible rfl))
    try simp only [List.getElem_toArray, List.getElem_cons_succ, List.getElem_cons_zero, Act.put, List.setIfInBounds_toArray, List.set_cons_zero, List.set_cons_succ]
    refine wpAnyH_take (i := 8) rfl (by kernel_rfl) (by kernel_rfl) (by kernel_rfl) (fun _ _ _ h => h) (Or.inr ⟨by kernel_rfl, rfl⟩) (by assumption) ?_
    try simp only [List.getElem_toArray, List.getElem_cons_succ, List.getElem_cons_zero, Act.put, List.setIfInBounds_toArray, List.set_cons_zero, List.set_cons_succ]
    refine wpAnyH_take (i := 9) rfl (by kernel_rfl) (by kernel_rfl) (by kernel_rfl) (fun _ _ _ h => h) (Or.inr ⟨by kernel_rfl, rfl⟩) (by assumption) ?_
    try simp only [List.getElem_toArray, List.getElem_cons_succ, List.getElem_cons_zero, Act.put, List.setIfInBounds_toArray, List.set_cons_zero, List.set_cons_succ]
    refine wpAnyH_take (i := 10) rfl (by kernel_rfl) (by kernel_rfl) (by kernel_rfl) (fun _ _ _ h => h) (Or.inr ⟨by kernel_rfl, rfl⟩) (by assumption) ?_
    try simp only [List.getElem_toArray, List.getElem_cons_succ, List.getElem_cons_zero, Act.put, List.setIfInBounds_toArray, List.set_cons_zero, List.set_cons_succ]
    refine wpAnyH_take (i := 11) rfl (by kernel_rfl) (by kernel_rfl) (by kernel_rfl) (fun _ _ _ h => h) (Or.inr ⟨by kernel_rfl, rfl⟩) (by assumption) ?_
    try simp only [List.getElem_toArray, List.getElem_cons_succ, List.getElem_cons_zero, Act.put, List.setIfInBounds_toArray, List.set_cons_zero, List.set_cons_succ]
    refine wpAnyH_take (i := 12) rfl (by kernel_rfl) (by kernel_rfl) (by kernel_rfl) (fun _ _ _ h => h) (Or.inr ⟨by kernel_rfl, rfl⟩) (by assumption) ?_
    try simp only [List.getElem_toArray, List.getElem_cons_succ, List.getElem_cons_zero, Act.put, List.setIfInBounds_toArray, List.set_cons_zero, List.set_cons_succ]
    refine wpAnyH_take (i := 13) rfl (by kernel_rfl) (by kernel_rfl) (by kernel_rfl) (fun _ _ _ h => h) (Or.inr ⟨by kernel_rfl, rfl⟩) (by assumption) ?_
    try simp only [List.getElem_toArray, List.getElem_cons_succ, List.getElem_cons_zero, Act.put, List.setIfInBounds_toArray, List.set_cons_zero, List.set_cons_succ]
    refine wpAnyH_take (i := 14) rfl (by kernel_rfl) (by kernel_rfl) (by kernel_rfl) (fun _ _ _ h => h) (Or.inr ⟨by kernel_rfl, rfl⟩) (by assumption) ?_
    try simp only [List.getElem_toArray, List.getElem_cons_succ, List.getElem_cons_zero, Act.put, List.setIfInBounds_toArray, List.set_cons_zero, List.set_cons_succ]
    refine wpAnyH_take (i := 15) rfl (by kernel_rfl) (by kernel_rfl) (by kernel_rfl) (fun _ _ _ h => h) (Or.inr ⟨by kernel_rfl, rfl⟩) (by assumption) ?_
    try simp only [List.getElem_toArray, List.getElem_cons_succ, List.getElem_cons_zero, Act.put, List.setIfInBounds_toArray, List.set_cons_zero, List.set_cons_succ]
    refine wpAnyH_take (i := 16) (v := ?_) rfl (by kernel_rfl) (by kernel_rfl) (by kernel_rfl) (fun _ _ _ h => h) (Or.inl ⟨by kernel_rfl, ?_⟩) (by assumption) ?_
    rotate_left
    · (intro w hSw; (try dsimp only at hSw); go_simp; (try with_reducible rfl))
    try simp only [List.getElem_toArray, List.getElem_cons_succ, List.getElem_cons_zero, Act.put, List.setIfInBounds_toArray, List.set_cons_zero, List.set_cons_succ]
    refine wpAnyH_ready (rs := [17]) (by kernel_rfl) (by simp) ?_
    refine AllReadyH.cons rfl (fun K hK => ?_) AllReadyH.nil
    go_simp
    refine (need_no _).mono ?_
    rintro e w' ⟨rfl, rfl⟩
    exact ⟨rfl, fun h => absurd h.1 hS, fun _ => ⟨rfl, hk3.drewN _, hch3.drewN _⟩⟩
end Go.Proofs.Ythbjcafldbocpaa
namespace Go.Proofs.Ythbjcafldbocpaa
open Go.RowKit
set_option linter.unusedVariables false
set_option linter.unusedSimpArgs false
set_option maxHeartbeats 4000000 in
set_option maxRecDepth 100000 in
theorem step_mac_no (gk gr gs go gd nr no reads n at_ loads nS cS : Nat) (AS : Option Addr) (D S : Nat) (C : UInt8) (bs : List Bool) (w : World)
    (hk : Row w gk 82 (lkV AS nS cS nr no reads n at_ gr gs go gd loads)) (hb : Row w gs 4 (bolVs bs)) (h : NoReg nr bs D ∨ (D < nr ∧ bs[D]? = some true ∧ NoReg nr bs S)) (hDS : D ≠ S) :
    Calls Try.prog 64 #[.pointer (some ⟨gk, 0, none⟩), .agg #[.int .u8 3, .int .i64 (D : Int), .int .i64 (S : Int), .int .u8 (C.toNat : Int)]] w fun e w' => e = .panicked giveUp ∧ Below w.heap.size w w' := by
  have e0 : ((D : Int) != (S : Int)) = true := bne_iff_ne.2 (by omega)
  go_enter Try.func64, Try.ntmps64
  go_wp2_with fail
  obtain ⟨w1, hw1⟩ : ∃ w1, w1 = w.alloc (.cells #[.int .u8 3, .int .i64 (D : Int), .int .i64 (S : Int), .int .u8 (C.toNat : Int)] 59) := ⟨_, rfl⟩
  have q : Below w.heap.size w w1 := by rw [hw1]; exact (Below.refl _ _).alloc (Nat.le_refl _) _
  have hx : Row w1 w.heap.size 59 [.int .u8 3, .int .i64 (D : Int), .int .i64 (S : Int), .int .u8 (C.toNat : Int)] := by rw [hw1]; exact Row.new w _ _
  have hk1 := hk.below q hk.lt
  have hb1 := hb.below q hb.lt
  rw [← hw1]
  clear hw1
  have x0 : w1.cell? ⟨w.heap.size, 0, none⟩ = some (.int .u8 3) := hx.cell 0
  have x1 : w1.cell? ⟨w.heap.size, 1, none⟩ = some (.int .i64 (D : Int)) := hx.cell 1
  have x2 : w1.cell? ⟨w.heap.size, 2, none⟩ = some (.int .i64 (S : Int)) := hx.cell 2
  refine (need_yes _).mono ?_
  rintro e w' ⟨rfl, rfl⟩
  go_wp2_with fail
  refine wp_region_held_drew (S := (fun x => x.cell? ⟨w.heap.size, 1, none⟩ = some (.int .i64 (D : Int)) ∧ x.cell? ⟨w.heap.size, 2, none⟩ = some (.int .i64 (S : Int)))) (by kernel_rfl) ⟨x1, x2⟩ (fun hHeld => ?_)
  refine wpAnyH_take (i := 0) (v := ?_) rfl (by kernel_rfl) (by kernel_rfl) (by kernel_rfl) (fun _ _ _ h => h) (Or.inl ⟨by kernel_rfl, ?_⟩) (by assumption) ?_
  rotate_left
  · (intro w hSw; (try dsimp only at hSw); go_simp; (try with_reducible rfl))
  try simp only [List.getElem_toArray, List.getElem_cons_succ, List.getElem_cons_zero, Act.put, List.setIfInBounds_toArray, List.set_cons_zero, List.set_cons_succ]
  refine wpAnyH_take (i := 1) (v := ?_) rfl (by kernel_rfl) (by kernel_rfl) (by kernel_rfl) (fun _ _ _ h => h) (Or.inl ⟨by kernel_rfl, ?_⟩) (by assumption) ?_
  rotate_left
  · (intro w hSw; (try dsimp only at hSw); go_simp; (try with_reducible rfl))
  try simp only [List.getElem_toArray, List.getElem_cons_succ, List.getElem_cons_zero, Act.put, List.setIfInBounds_toArray, List.set_cons_zero, List.set_cons_succ]
  refine wpAnyH_take (i := 2) (v := ?_) rfl (by kernel_rfl) (by kernel_rfl) (by kernel_rfl) (fun _ _ _ h => h) (Or.inl ⟨by kernel_rfl, ?_⟩) (by assumption) ?_
  rotate_left
  · (intro w hSw; (try dsimp only at hSw); go_simp; (try with_reducible rfl))
  try simp only [List.getElem_toArray, List.getElem_cons_succ, List.getElem_cons_zero, Act.put, List.setIfInBounds_toArray, List.set_cons_zero, List.set_cons_succ]
  refine wpAnyH_take (i := 4) (v := ?_) rfl (by kernel_rfl) (by kernel_rfl) (by kernel_rfl) (fun _ _ _ h => h) (Or.inl ⟨by kernel_rfl, ?_⟩) (by assumption) ?_
  rotate_left
  · (intro w hSw; (try dsimp only at hSw); go_simp; (try with_reducible rfl))
  try simp only [List.getElem_toArray, List.getElem_cons_succ, List.getElem_cons_zero, Act.put, List.setIfInBounds_toArray, List.set_cons_zero, List.set_cons_succ]
  refine wpAnyH_take (i := 5) (v := ?_) rfl (by kernel_rfl) (by kernel_rfl) (by kernel_rfl) (fun _ _ _ h => h) (Or.inl ⟨by kernel_rfl, ?_⟩) (by assumption) ?_
  rotate_left
  · (intro w hSw; (try dsimp only at hSw); go_simp; (try with_reducible rfl))
  try simp only [List.getElem_toArray, List.getElem_cons_succ, List.getElem_cons_zero, Act.put, List.setIfInBounds_toArray, List.set_cons_zero, List.set_cons_succ]
  refine wpAnyH_take (i := 6) (v := ?_) rfl (by kernel_rfl) (by kernel_rfl) (by kernel_rfl) (fun _ _ _ h => h) (Or.inl ⟨by kernel_rfl, ?_⟩) (by assumption) ?_
  rotate_left
  · (intro w hSw; (try dsimp only at hSw); go_simp; (try with_reducible rfl))
  try simp only [List.getElem_toArray, List.getElem_cons_succ, List.getElem_cons_zero, Act.put, List.setIfInBounds_toArray, List.set_cons_zero, List.set_cons_succ]
  refine wpAnyH_ready (rs := [3]) (by kernel_rfl) (by simp) ?_
  refine AllReadyH.cons rfl (fun K hK => ?_) AllReadyH.nil
  go_simp
  rcases h with h | ⟨hD, bD, h⟩
  · have r1 := reg_no gk gr gs go gd nr no reads n at_ loads nS cS D AS bs w'.drew (hk1.drewN 1) (hb1.drewN 1) h
    refine r1.mono ?_
    rintro e w2 ⟨rfl, hw2⟩
    rw [hw2]
    exact ⟨rfl, rfl, below_drewN q 1⟩
  · have sD : w'.cell? ⟨gs, D, none⟩ = some (.bool true) := by rw [hb1.cell, bolVs, List.getElem?_map, bD]; rfl
    have k1 : w'.cell? ⟨gk, 1, none⟩ = some (.int .i64 (nr : Int)) := hk1.cell 1
    have k6 : w'.cell? ⟨gk, 6, none⟩ = some (.slice (some ⟨gr, 0, none⟩) nr nr) := hk1.cell 6
    have k7 : w'.cell? ⟨gk, 7, none⟩ = some (.slice (some ⟨gs, 0, none⟩) nr nr) := hk1.cell 7
    have r1 := reg_yes gk gr gs D nr w'.drew k1 k6 k7 hD sD
    have r2 := reg_no gk gr gs go gd nr no reads n at_ loads nS cS S AS bs w'.drew (hk1.drewN 1) (hb1.drewN 1) h
    refine r1.mono ?_
    rintro e w2 ⟨rfl, hw2⟩
    rw [hw2]
    clear hw2 w2
    refine hK.out _ _ hHeld (fun hHeld => ?_)
    clear hK K
    try simp only [List.getElem_toArray, List.getElem_cons_succ, List.getElem_cons_zero, Act.put, List.setIfInBounds_toArray, List.set_cons_zero, List.set_cons_succ]
    refine wpAnyH_ready (rs := [7]) (by kernel_rfl) (by simp) ?_
    refine AllReadyH.cons rfl (fun K hK => ?_) AllReadyH.nil
    go_simp
    refine r2.mono ?_
    rintro e w2 ⟨rfl, hw2⟩
    rw [hw2]
    exact ⟨rfl, rfl, below_drewN q 1⟩
end Go.Proofs.Ythbjcafldbocpaa
namespace Go.Proofs.Ythbjcafldbocpaa
open Go.RowKit
set_option linter.unusedVariables false
set_option linter.unusedSimpArgs false

def zz (m n : Nat) : Array Value := (List.replicate m (Value.int .u8 0) ++ List.replicate n (Value.int .i64 0)).toArray
theorem zz_size (m n : Nat) : (zz m n).size = m + n := by simp [zz]
theorem zz_one (m n : Nat) : ∀ v, v ∈ (zz m n).toList → v.oneCell' = true := by
  intro v hv
  simp only [zz, List.mem_append, List.mem_replicate] at hv
  rcases hv with ⟨_, rfl⟩ | ⟨_, rfl⟩ <;> rfl
def tabAt : Nat → Array Value
  | 0 => zz 510 256
  | n + 1 => (((tabAt n).setIfInBounds n (.int .u8 ((Gf.ex n).toNat : Int))).setIfInBounds (n + 255) (.int .u8 ((Gf.ex n).toNat : Int))).setIfInBounds (510 + (Gf.ex n).toNat) (.int .i64 (n : Int))
theorem tabAt_size (n : Nat) : (tabAt n).size = 766 := by
  induction n with
  | zero => exact zz_size 510 256
  | succ n ih => simp only [tabAt, Array.size_setIfInBounds, ih]
theorem mem_setI {a : Array Value} {i : Nat} {x v : Value} (h : v ∈ (a.setIfInBounds i x).toList) : v = x ∨ v ∈ a.toList := by
  rw [Array.toList_setIfInBounds] at h
  rcases List.mem_or_eq_of_mem_set h with h | h
  · exact .inr h
  · exact .inl h
theorem tabAt_one (n : Nat) : ∀ v, v ∈ (tabAt n).toList → v.oneCell' = true := by
  induction n with
  | zero => exact zz_one _ _
  | succ n ih =>
    intro v hv
    simp only [tabAt] at hv
    rcases mem_setI hv with rfl | hv
    · rfl
    rcases mem_setI hv with rfl | hv
    · rfl
    rcases mem_setI hv with rfl | hv
    · rfl
    exact ih v hv
theorem tabAt_all (n : Nat) : (tabAt n).all (·.oneCell') = true := by
  rw [Array.all_eq_true_iff_forall_mem]
  exact fun v hv => tabAt_one n v (Array.mem_def.1 hv)
theorem tabAt_facts (n : Nat) (hn : n ≤ 255) : (∀ i, i < n → (tabAt n)[i]? = some (.int .u8 ((Gf.ex i).toNat : Int)) ∧ (tabAt n)[i + 255]? = some (.int .u8 ((Gf.ex i).toNat : Int))) ∧
    (∀ i, i < n → (tabAt n)[510 + (Gf.ex i).toNat]? = some (.int .i64 (i : Int))) := by
  induction n with
  | zero => exact ⟨fun i h => absurd h (by omega), fun i h => absurd h (by omega)⟩
  | succ n ih =>
    obtain ⟨h1, h2⟩ := ih (by omega)
    have hs := tabAt_size n
    have hx := (Gf.ex n).toNat_lt
    simp only [tabAt, Array.getElem?_setIfInBounds, Array.size_setIfInBounds, hs]
    refine ⟨fun i hi => ⟨?_, ?_⟩, fun i hi => ?_⟩
    · rw [if_neg (by omega)]
      rw [if_neg (by omega)]
      by_cases e : n = i
      · subst e; rw [if_pos rfl, if_pos (by omega)]
      · rw [if_neg e]; exact (h1 i (by omega)).1
    · rw [if_neg (by omega)]
      by_cases e : n = i
      · subst e; rw [if_pos rfl, if_pos (by omega)]
      · rw [if_neg (by omega), if_neg (by omega)]; exact (h1 i (by omega)).2
    · have hxi := (Gf.ex i).toNat_lt
      by_cases e : i = n
      · subst e; rw [if_pos rfl, if_pos (by omega)]
      · have hne : ¬ (510 + (Gf.ex n).toNat = 510 + (Gf.ex i).toNat) := by
          intro h
          have h3 : Gf.ex n = Gf.ex i := UInt8.toNat_inj.1 (by omega)
          have h4 := Gf.ex_inj h3
          rw [Nat.mod_eq_of_lt (by omega), Nat.mod_eq_of_lt (by omega)] at h4
          omega
        rw [if_neg hne, if_neg (by omega), if_neg (by omega)]
        exact h2 i (by omega)

def TAB : Array Value := tabAt 255
theorem TAB_size : TAB.size = 766 := tabAt_size 255
theorem TAB_all : TAB.all (·.oneCell') = true := tabAt_all 255
theorem TAB_exp (i : Nat) (h : i < 510) : TAB[i]? = some (.int .u8 ((Gf.ex i).toNat : Int)) := by
  have hf := (tabAt_facts 255 (by omega)).1
  by_cases hi : i < 255
  · exact (hf i hi).1
  · have h1 := (hf (i - 255) (by omega)).2
    rw [show i - 255 + 255 = i from by omega] at h1
    have h2 := Gf.ex_period (i - 255)
    rw [show i - 255 + 255 = i from by omega] at h2
    rw [h2]
    exact h1
theorem TAB_log (a : UInt8) (h : a ≠ 0) : TAB[510 + a.toNat]? = some (.int .i64 (Gf.lg a : Int)) := by
  have h1 := (tabAt_facts 255 (by omega)).2 (Gf.lg a) (Gf.lg_bd h)
  rw [Gf.ex_lg h] at h1
  exact h1

def IsTab (T : Array Value) : Prop := T = TAB
theorem IsTab.size {T : Array Value} (h : IsTab T) : T.size = 766 := by rw [h]; exact TAB_size
theorem IsTab.all {T : Array Value} (h : IsTab T) : T.all (·.oneCell') = true := by rw [h]; exact TAB_all
theorem IsTab.exp {T : Array Value} (h : IsTab T) (i : Nat) (hi : i < 510) : T[i]? = some (.int .u8 ((Gf.ex i).toNat : Int)) := by rw [h]; exact TAB_exp i hi
theorem IsTab.log {T : Array Value} (h : IsTab T) {a : UInt8} (ha : a ≠ 0) : T[510 + a.toNat]? = some (.int .i64 (Gf.lg a : Int)) := by rw [h]; exact TAB_log a ha

theorem zero_tables : (Try.prog.info? 135).map (fun i => (i.zero, i.size)) = some (some (.agg (tabAt 0)), 766) := by kernel_rfl

theorem Below.setRow {B : Nat} {a w : World} (h : Below B a w) {g : Nat} (hp : B ≤ g) (cs : Array Value) : Below B a (w.setRow g cs) :=
  ⟨h.os, h.tape, h.output, by simpa using h.size, fun k hk => by
    rw [← h.block k hk]
    simp only [World.setRow]
    rw [Array.getElem?_modify, if_neg (by omega)]⟩
theorem some_of_lt {C : Array Value} {i : Nat} (h : i < C.size) : ∃ v, C[i]? = some v := ⟨_, Array.getElem?_eq_getElem h⟩
set_option maxRecDepth 100000 in
set_option maxHeartbeats 1000000 in
theorem build_calls (w : World) :
    Calls Try.prog 70 #[] w fun e w' => ∃ T, IsTab T ∧ e = .returned (.agg T) ∧ Below w.heap.size w w' := by
  obtain ⟨hzv, hsz⟩ := zero_of_info zero_tables
  have HSZ := Lib.hid hsz
  clear hsz
  obtain ⟨Z, hZ⟩ : ∃ Z, Z = tabAt 0 := ⟨_, rfl⟩
  rw [← hZ] at hzv
  have HZ := Lib.hid hZ
  clear hZ
  go_enter Try.func70, Try.ntmps70
  go_wp2_with fail
  go_loopw [2, 4] (fun v2 v4 wr => ∃ (n : Nat) (C : Array Value), n ≤ 255 ∧ v2 = .int .u8 ((Gf.ex n).toNat : Int) ∧ v4 = .int .i64 (n : Int) ∧ wr = (w.alloc (Obj.cells Z 135)).alloc (Obj.cells C 135) ∧ Hid (C = tabAt n)) (fun _ v4 _ => 255 - (intOf v4).toNat)
  case atStart => exact ⟨0, Z, by omega, rfl, rfl, rfl, HZ.out⟩
  case round =>
    obtain ⟨n, C, hn, rfl, rfl, rfl, HC⟩ := hrel
    by_cases hlt : n < 255
    · have hx := (Gf.ex n).toNat_lt
      have hs : C.size = 766 := by rw [HC.out]; exact tabAt_size n
      obtain ⟨v1, h1⟩ := some_of_lt (C := C) (i := n) (by omega)
      obtain ⟨v2, h2⟩ := some_of_lt (C := C.setIfInBounds n (.int .u8 ((Gf.ex n).toNat : Int))) (i := n + 255) (by rw [Array.size_setIfInBounds]; omega)
      obtain ⟨v3, h3⟩ := some_of_lt (C := (C.setIfInBounds n (.int .u8 ((Gf.ex n).toNat : Int))).setIfInBounds (n + 255) (.int .u8 ((Gf.ex n).toNat : Int))) (i := 510 + (Gf.ex n).toNat) (by rw [Array.size_setIfInBounds, Array.size_setIfInBounds]; omega)
      clear hs
      go_wp2_with (go_at_call 78; refine (double_calls _ _).mono ?_; rintro e w' ⟨rfl, rfl⟩)
      go_roundw
      case rel => exact ⟨n + 1, _, by omega, rfl, by go_num, rfl, by have := HC.out; simp only [tabAt]; rw [← this]; rfl⟩
      case measure => simp [intOf]; omega
    · obtain rfl : n = 255 := by omega
      obtain rfl : C = TAB := HC.out
      have hg1 := heap_alloc2_new w (Obj.cells Z 135) (Obj.cells TAB 135)
      have hg0 := heap_alloc2_old w (Obj.cells Z 135) (Obj.cells TAB 135)
      have hz : Z.size = TAB.size := by rw [HZ.out, TAB_size, tabAt_size]
      have G1 := Lib.hid hg1
      have G0 := Lib.hid hg0
      have H0 := Lib.hid hz
      clear hg1 hg0 hz hzv
      go_wp2_with (first | (refine wpList_load_row rfl 135 (.tmp 1) rfl (w.heap.size + 1) rfl 135 TAB (0, 0) _ G1.out Try.underlying135 rfl (by rw [TAB_size]; exact HSZ.out) ?_) | (refine wpList_store_row rfl 135 (.tmp 0) (.tmp 23) rfl w.heap.size TAB rfl rfl 135 Z G0.out (by rw [TAB_size]; exact HSZ.out) H0.out TAB_all ?_))
      have hg2 := setRow_heap ((w.alloc (Obj.cells Z 135)).alloc (Obj.cells TAB 135)) w.heap.size Z TAB 135 (0, 0) G0.out
      refine bodyPost_ret (results_cell_row rfl _ _ w.heap.size 135 TAB (0, 0) _ rfl hg2 Try.underlying135 rfl (by rw [TAB_size]; exact HSZ.out)) rfl ?_
      exact ⟨TAB, rfl, rfl, Below.setRow (((Below.refl _ _).alloc (Nat.le_refl _) _).alloc (by simp) _) (Nat.le_refl _) _⟩
theorem zero_tables' : ∃ Z : Array Value, (∀ w, (zeroValue 135).run Try.prog w = .ok (.agg Z) w) ∧ Hid (Z.size = 766) ∧ Hid ((Try.prog.info? 135).map (·.size) = some 766) := by
  obtain ⟨hzv, hsz⟩ := zero_of_info zero_tables
  exact ⟨_, hzv, tabAt_size 0, hsz⟩
theorem wpList_store_tab {ops : Array Oper} {rest : List Oper} {o : Oper} {a : Act} {w : World} {Q : Exit → Act → World → Prop} (x y : Operand) (hgd : o.guard = none) (ho : o.op = .store 135 x y)
    (T Z : Array Value) (hT : IsTab T) (hZ : Hid (Z.size = 766)) (hs : Hid ((Try.prog.info? 135).map (·.size) = some 766))
    (hx : a.eval x = .pointer (some ⟨w.heap.size, 0, none⟩)) (hy : a.eval y = .agg T)
    (h : ∀ w2 : World, w2.heap.size = w.heap.size + 1 → w2.heap[w.heap.size]? = some (.cells T 135 (0, 0)) → Below w.heap.size w w2 → wpList Try.prog ops Q rest (a.put o.dst undef) w2) :
    wpList Try.prog ops Q (o :: rest) a (w.alloc (Obj.cells Z 135)) := by
  refine wpList_store_row hgd 135 x y ho w.heap.size T hx hy 135 Z (heap_alloc_new w _) (by rw [hT.size]; exact hs) (by rw [hT.size]; exact hZ) hT.all ?_
  rw [World.setRow_alloc_new]
  exact h _ (by simp) (heap_alloc_new w _) ((Below.refl _ _).alloc (Nat.le_refl _) _)
end Go.Proofs.Ythbjcafldbocpaa
namespace Go.Proofs.Ythbjcafldbocpaa
open Go.RowKit
set_option linter.unusedVariables false
set_option linter.unusedSimpArgs false

theorem tab_exp {w : World} {g : Nat} {t : TypeId} {T : Array Value} (hT : IsTab T) (h : w.heap[g]? = some (.cells T t (0, 0))) (i : Nat) (hi : i < 510) : w.cell? ⟨g, i, none⟩ = some (.int .u8 ((Gf.ex i).toNat : Int)) := by
  rw [cell_of_row _ _ _ _ _ _ h]; exact hT.exp i hi
theorem tab_log {w : World} {g : Nat} {t : TypeId} {T : Array Value} (hT : IsTab T) (h : w.heap[g]? = some (.cells T t (0, 0))) {a : UInt8} (ha : a ≠ 0) : w.cell? ⟨g, 510 + a.toNat, none⟩ = some (.int .i64 (Gf.lg a : Int)) := by
  rw [cell_of_row _ _ _ _ _ _ h]; exact hT.log ha
def HasTab (w : World) (g : Nat) : Prop := ∃ T, IsTab T ∧ w.heap[g]? = some (.cells T 135 (0, 0))
theorem HasTab.mk {w : World} {g : Nat} {T : Array Value} (hT : IsTab T) (h : w.heap[g]? = some (.cells T 135 (0, 0))) : HasTab w g := ⟨T, hT, h⟩
theorem HasTab.lt {w : World} {g : Nat} (h : HasTab w g) : g < w.heap.size := by
  obtain ⟨T, _, h⟩ := h
  rcases Nat.lt_or_ge g w.heap.size with hlt | hge
  · exact hlt
  · rw [Array.getElem?_eq_none hge] at h; cases h
theorem HasTab.of_block {w w' : World} {g : Nat} (h : HasTab w g) (hb : w'.heap[g]? = w.heap[g]?) : HasTab w' g := by
  obtain ⟨T, hT, h⟩ := h; exact ⟨T, hT, hb.trans h⟩
theorem HasTab.drewN {w : World} {g : Nat} (h : HasTab w g) (n : Nat) : HasTab (w.drewN n) g := h
theorem HasTab.exp {w : World} {g : Nat} (h : HasTab w g) (i : Nat) (hi : i < 510) : w.cell? ⟨g, i, none⟩ = some (.int .u8 ((Gf.ex i).toNat : Int)) := by
  obtain ⟨T, hT, h⟩ := h; exact tab_exp hT h i hi
theorem HasTab.log {w : World} {g : Nat} (h : HasTab w g) {a : UInt8} (ha : a ≠ 0) : w.cell? ⟨g, 510 + a.toNat, none⟩ = some (.int .i64 (Gf.lg a : Int)) := by
  obtain ⟨T, hT, h⟩ := h; exact tab_log hT h ha

set_option maxRecDepth 100000 in
set_option maxHeartbeats 400000 in
theorem tmul_calls (g : Nat) (a b : UInt8) (w : World) (h : HasTab w g) :
    Calls Try.prog 71 #[.pointer (some ⟨g, 0, none⟩), .int .u8 (a.toNat : Int), .int .u8 (b.toNat : Int)] w fun e w' => e = .returned (.int .u8 ((Gf.mul a b).toNat : Int)) ∧ ∃ n, w' = w.drewN n := by
  have ha := u8_eq_zero a
  have hb := u8_eq_zero b
  by_cases h1 : a = 0
  · have hz := Lib.hid (show Gf.mul a b = 0 by rw [h1, Gf.mul_zero_left])
    rw [decide_eq_true h1] at ha
    clear h1 hb
    go_enter Try.func71, Try.ntmps71
    go_wp2_with fail
    go_ret
    exact ⟨by rw [hz.out]; rfl, 0, rfl⟩
  by_cases h2 : b = 0
  · have hz := Lib.hid (show Gf.mul a b = 0 by rw [h2, Gf.mul_zero])
    rw [decide_eq_true h2] at hb
    rw [decide_eq_false h1] at ha
    clear h1 h2
    go_enter Try.func71, Try.ntmps71
    go_wp2_with fail
    go_ret
    exact ⟨by rw [hz.out]; rfl, 0, rfl⟩
  have hz := Lib.hid (Gf.mul_eq h1 h2)
  have c1 := h.log h1
  have c2 := h.log h2
  have l1 := Gf.lg_bd h1
  have l2 := Gf.lg_bd h2
  have c3 := h.exp (Gf.lg a + Gf.lg b) (by omega)
  rw [decide_eq_false h2] at hb
  rw [decide_eq_false h1] at ha
  have ba := a.toNat_lt
  have bb := b.toNat_lt
  generalize Gf.lg a = x at *
  generalize Gf.lg b = y at *
  clear h1 h2 h
  go_enter Try.func71, Try.ntmps71
  go_wp2_with fail
  have e1 : IntKind.i64.wrap ((x : Int) + (y : Int)) = (x : Int) + (y : Int) := IntWalk.i64_in _ (by omega)
  have e2 : ((x : Int) + (y : Int)).toNat = x + y := by omega
  have e3 : 0 ≤ (x : Int) + (y : Int) := by omega
  go_quiet (fail)
  go_wp2_with fail
  go_ret
  exact ⟨by rw [hz.out]; rfl, _, rfl⟩

end Go.Proofs.Ythbjcafldbocpaa
namespace Go.Proofs.Ythbjcafldbocpaa

def fillTo (f : Nat → UInt8) (n i : Nat) : List UInt8 := (List.range i).map f ++ List.replicate (n - i) 0
theorem fill_len (f : Nat → UInt8) {n i : Nat} (h : i ≤ n) : (fillTo f n i).length = n := by simp [fillTo]; omega
theorem fill_zero (f : Nat → UInt8) (n : Nat) : fillTo f n 0 = List.replicate n 0 := by simp [fillTo]
theorem fill_all (f : Nat → UInt8) (n : Nat) : fillTo f n n = (List.range n).map f := by simp [fillTo]
theorem fill_set (f : Nat → UInt8) {n i : Nat} (h : i < n) : (fillTo f n i).set i (f i) = fillTo f n (i + 1) := by
  unfold fillTo
  have hl : ((List.range i).map f).length = i := by simp
  rw [List.set_append_right _ _ (by omega), hl, Nat.sub_self]
  obtain ⟨k, hk⟩ : ∃ k, n - i = k + 1 := ⟨n - i - 1, by omega⟩
  rw [hk, List.replicate_succ, List.set_cons_zero, List.range_succ, List.map_append, List.append_assoc]
  congr 2
  simp
  omega
theorem range_map_get (xs : List UInt8) (g : UInt8 → UInt8) : (List.range xs.length).map (fun j => g (xs.getD j 0)) = xs.map g := by
  apply List.ext_getElem?
  intro j
  by_cases h : j < xs.length
  · simp [h, List.getD]
  · simp [h]
theorem range_map_get2 (xs ys : List UInt8) (g : UInt8 → UInt8 → UInt8) (h : xs.length = ys.length) : (List.range xs.length).map (fun j => g (xs.getD j 0) (ys.getD j 0)) = List.zipWith g xs ys := by
  apply List.ext_getElem?
  intro j
  by_cases hj : j < xs.length
  · have hj' : j < ys.length := by omega
    rw [List.getElem?_zipWith]
    simp [hj, hj', List.getD]
  · have hj' : ¬ j < ys.length := by omega
    rw [List.getElem?_zipWith]
    simp [hj]
def upTo (f : Nat → UInt8) (ys : List UInt8) (i : Nat) : List UInt8 := (List.range i).map f ++ ys.drop i
theorem up_len (f : Nat → UInt8) {ys : List UInt8} {i : Nat} (h : i ≤ ys.length) : (upTo f ys i).length = ys.length := by simp [upTo]; omega
theorem up_zero (f : Nat → UInt8) (ys : List UInt8) : upTo f ys 0 = ys := by simp [upTo]
theorem up_all (f : Nat → UInt8) (ys : List UInt8) : upTo f ys ys.length = (List.range ys.length).map f := by simp [upTo]
theorem up_set (f : Nat → UInt8) {ys : List UInt8} {i : Nat} (h : i < ys.length) : (upTo f ys i).set i (f i) = upTo f ys (i + 1) := by
  unfold upTo
  have hl : ((List.range i).map f).length = i := by simp
  rw [List.set_append_right _ _ (by omega), hl, Nat.sub_self, List.drop_eq_getElem_cons h, List.set_cons_zero, List.range_succ, List.map_append, List.append_assoc]
  rfl
theorem up_get (f : Nat → UInt8) {ys : List UInt8} {i : Nat} (h : i < ys.length) : (upTo f ys i).getD i 0 = ys.getD i 0 := by
  unfold upTo
  have hl : ((List.range i).map f).length = i := by simp
  simp [List.getD, List.getElem?_append_right, hl, h]
theorem map_getD {xs : List UInt8} (g : UInt8 → UInt8) {i : Nat} (h : i < xs.length) : (xs.map g).getD i 0 = g (xs.getD i 0) := by simp [List.getD, h]
end Go.Proofs.Ythbjcafldbocpaa

namespace Go.Proofs.Ythbjcafldbocpaa
open Go.RowKit
set_option linter.unusedVariables false
set_option linter.unusedSimpArgs false

set_option maxRecDepth 100000 in
set_option maxHeartbeats 800000 in
theorem scale_calls (c : UInt8) (A : Option Addr) (n cap : Nat) (xs : List UInt8) (w : World) (hr : Rd w w.heap.size A n (bVs xs)) (hn : n ≤ 140737488355328) :
    Calls Try.prog 77 #[.int .u8 (c.toNat : Int), .slice A n cap] w fun e w' => ∃ A' cap', e = .returned (.slice A' n cap') ∧ OwnB w' w.heap.size A' n cap' (xs.map (Gf.mul c)) ∧ Below w.heap.size w w' := by
  obtain ⟨Z, hzv, HZ0, HSZ⟩ := zero_tables'
  have hmk := make_bytes n (by omega)
  go_enter Try.func77, Try.ntmps77
  go_wp2_with (first | (go_at_call 70; refine (build_calls _).mono ?_; rintro e w1 ⟨T, hT, rfl, hb1⟩) | (refine wpList_store_tab (.tmp 5) (.tmp 9) rfl rfl T Z hT HZ0 HSZ rfl rfl ?_; intro w2 hs2 hg2 hb2))
  have hrow := row_made_bytes w2 n
  rw [hs2] at hrow
  have hbW : Below w.heap.size w (w2.alloc (.cells (madeCells #[.int .u8 0] n) 5)) := (hb1.trans (hb2.mono hb1.size)).alloc (by have := hb1.size; omega) _
  have ht := (HasTab.mk hT hg2).of_block (w' := w2.alloc (.cells (madeCells #[.int .u8 0] n) 5)) (Below.heap_alloc w2 _ _ (by omega))
  have hsz := hb1.size
  rw [← fill_zero (fun j => Gf.mul c (xs.getD j 0)) n] at hrow
  have HF := Lib.hid (fill_all (fun j => Gf.mul c (xs.getD j 0)) n)
  have HR := Lib.hid (range_map_get xs (Gf.mul c))
  have HL := Lib.hid (show xs.length = n by have := hr.len; rw [bVs_length] at this; exact this)
  have HT := Lib.hid ht
  have HW := Lib.hid hrow
  have HB := Lib.hid hbW
  clear hrow ht hbW hg2 hmk hzv hT HSZ HZ0 hs2 hb2
  go_loopw [15] (fun v15 wr => ∃ i : Nat, i ≤ n ∧ v15 = .int .i64 (i : Int) ∧ Row wr (w1.heap.size + 1) 5 (bVs (fillTo (fun j => Gf.mul c (xs.getD j 0)) n i)) ∧ HasTab wr w1.heap.size ∧ Below w.heap.size w wr) (fun v15 _ => n - (intOf v15).toNat)
  case atStart => exact ⟨0, by omega, rfl, HW.out, HT.out, HB.out⟩
  case round =>
    obtain ⟨i, hi, rfl, hrow, ht, hb⟩ := hrel
    clear HT HW HB
    by_cases hlt : i < n
    · obtain ⟨g, o, rfl, hg, hcell⟩ := rd_get (hr.below hb (Nat.le_refl _)) hlt
      obtain ⟨old, hst⟩ := hrow.has (i := i) (by rw [bVs_length, fill_len _ hi]; exact hlt)
      have hfz := hrow.frozen i
      have HST := Lib.hid hrow
      have HR2 := Lib.hid hr
      have HB := Lib.hid hb
      obtain ⟨x, hx⟩ : ∃ x, x = xs.getD i 0 := ⟨_, rfl⟩
      rw [← hx] at hcell
      have HX := Lib.hid hx
      clear hx hr hrow hb
      go_wp2_with (go_at_call 71; refine (tmul_calls _ _ _ _ ht).mono ?_; rintro e w' ⟨rfl, nd, rfl⟩)
      go_roundw
      case rel =>
        refine ⟨i + 1, by omega, by go_num, ?_, ?_, ?_⟩
        · have h := (HST.out.drewN nd).set i (.int .u8 ((Gf.mul c (xs.getD i 0)).toNat : Int))
          rw [bVs_set] at h
          have e := fill_set (fun j => Gf.mul c (xs.getD j 0)) hlt
          rw [e, ← HX.out] at h
          exact h
        · exact (ht.drewN nd).of_block (Below.heap_setCell _ _ _ _ (by simp))
        · exact (below_drewN HB.out nd).setCell (by simp; omega) _
      case measure => simp [intOf]; omega
    · obtain rfl : i = n := by omega
      rw [HF.out] at hrow
      rw [show (List.range i).map (fun j => Gf.mul c (xs.getD j 0)) = xs.map (Gf.mul c) by rw [← HR.out, HL.out]] at hrow
      go_wp2_with fail
      go_ret
      exact ⟨_, _, rfl, hrow.ownB (by omega) (by rw [List.length_map, HL.out]) (by simp only [maxLen]; omega), hb⟩

end Go.Proofs.Ythbjcafldbocpaa
namespace Go.Proofs.Ythbjcafldbocpaa
open Go.RowKit
set_option linter.unusedVariables false
set_option linter.unusedSimpArgs false
theorem layAt_get (ys : List Value) (o : Nat) (vs : List Value) (h : o + vs.length ≤ ys.length) (i : Nat) (hi : i < vs.length) : (layAt ys o vs)[o + i]? = vs[i]? := by
  unfold layAt
  rw [List.append_assoc, List.getElem?_append_right (by rw [List.length_take]; omega), List.length_take, Nat.min_eq_left (by omega), show o + i - o = i by omega, List.getElem?_append_left hi]
theorem layAt_set (ys : List Value) (o : Nat) (vs : List Value) (h : o + vs.length ≤ ys.length) (i : Nat) (hi : i < vs.length) (v : Value) : (layAt ys o vs).set (o + i) v = layAt ys o (vs.set i v) := by
  unfold layAt
  rw [List.length_set, List.append_assoc, List.set_append_right _ _ (by rw [List.length_take]; omega), List.length_take, Nat.min_eq_left (by omega), show o + i - o = i by omega, List.set_append_left _ _ hi, List.append_assoc]
theorem layAt_self (ys : List Value) (o n : Nat) (h : o + n ≤ ys.length) : layAt ys o ((ys.drop o).take n) = ys := by
  unfold layAt
  rw [List.length_take, List.length_drop, Nat.min_eq_left (by omega), ← List.drop_drop, List.append_assoc, List.take_append_drop, List.take_append_drop]
def seg (xs : List UInt8) (r : Nat) : List UInt8 := (xs.drop (r * 64)).take 64
theorem seg_length {xs : List UInt8} {nr : Nat} (h : xs.length = nr * 64) {r : Nat} (hr : r < nr) : (seg xs r).length = 64 := by
  rw [seg, List.length_take, List.length_drop]; omega
theorem seg_rd {w : World} {gr : Nat} {t : TypeId} {xs : List UInt8} (h : Row w gr t (bVs xs)) {nr : Nat} (hl : xs.length = nr * 64) {r : Nat} (hr : r < nr) : Rd w w.heap.size (some ⟨gr, r * 64, none⟩) 64 (bVs (seg xs r)) := by
  refine ⟨by rw [bVs_length, seg_length hl hr], fun _ => ⟨gr, r * 64, rfl, h.lt, fun j u hu => ?_⟩⟩
  rw [h.cell, ← hu]
  have hj : j < 64 := by
    rcases Nat.lt_or_ge j 64 with hlt | hge
    · exact hlt
    · rw [List.getElem?_eq_none (by rw [bVs_length, seg_length hl hr]; exact hge)] at hu; cases hu
  simp only [bVs, seg, List.getElem?_map, List.getElem?_take, if_pos hj, List.getElem?_drop]
set_option maxHeartbeats 4000000 in
set_option maxRecDepth 100000 in
theorem step_mac (gk gr gs go gd nr no reads n at_ loads nS cS : Nat) (AS : Option Addr) (D S : Nat) (C : UInt8) (bs : List Bool) (xs : List UInt8) (w : World)
    (hk : Row w gk 82 (lkV AS nS cS nr no reads n at_ gr gs go gd loads)) (hb : Row w gs 4 (bolVs bs)) (hr : Row w gr 87 (bVs xs)) (lr : xs.length = nr * 64) (n1 : gs ≠ gk) (n2 : gr ≠ gk) (n3 : gr ≠ gs) (hD : D < nr) (hS : S < nr) (bD : bs[D]? = some true) (bS : bs[S]? = some true) (hDS : D ≠ S) :
    Calls Try.prog 64 #[.pointer (some ⟨gk, 0, none⟩), .agg #[.int .u8 3, .int .i64 (D : Int), .int .i64 (S : Int), .int .u8 (C.toNat : Int)]] w fun e w' => e = .returned (.tuple #[]) ∧ Row w' gk 82 (lkV AS nS cS nr no reads n at_ gr gs go gd loads) ∧ Row w' gs 4 (bolVs bs) ∧ Row w' gr 87 (layAt (bVs xs) (D * 64) (bVs (Gf.macL (seg xs D) C (seg xs S)))) ∧ Chg3 w.heap.size gr gr gr w w' := by
  have e0 : ((D : Int) != (S : Int)) = true := bne_iff_ne.2 (by omega)

  go_enter Try.func64, Try.ntmps64
  go_wp2_with fail
  obtain ⟨w1, hw1⟩ : ∃ w1, w1 = w.alloc (.cells #[.int .u8 3, .int .i64 (D : Int), .int .i64 (S : Int), .int .u8 (C.toNat : Int)] 59) := ⟨_, rfl⟩
  have q : Below w.heap.size w w1 := by rw [hw1]; exact (Below.refl _ _).alloc (Nat.le_refl _) _
  have hx : Row w1 w.heap.size 59 [.int .u8 3, .int .i64 (D : Int), .int .i64 (S : Int), .int .u8 (C.toNat : Int)] := by rw [hw1]; exact Row.new w _ _
  have hk1 := hk.below q hk.lt
  have hb1 := hb.below q hb.lt
  have hr1 := hr.below q hr.lt
  rw [← hw1]
  clear hw1
  have x0 : w1.cell? ⟨w.heap.size, 0, none⟩ = some (.int .u8 3) := hx.cell 0
  have x1 : w1.cell? ⟨w.heap.size, 1, none⟩ = some (.int .i64 (D : Int)) := hx.cell 1
  have x2 : w1.cell? ⟨w.heap.size, 2, none⟩ = some (.int .i64 (S : Int)) := hx.cell 2
  refine (need_yes _).mono ?_
  rintro e w' ⟨rfl, rfl⟩
  go_wp2_with fail
  have sD : w'.cell? ⟨gs, D, none⟩ = some (.bool true) := by rw [hb1.cell, bolVs, List.getElem?_map, bD]; rfl
  have sS : w'.cell? ⟨gs, S, none⟩ = some (.bool true) := by rw [hb1.cell, bolVs, List.getElem?_map, bS]; rfl
  have k1 : w'.cell? ⟨gk, 1, none⟩ = some (.int .i64 (nr : Int)) := hk1.cell 1
  have k6 : w'.cell? ⟨gk, 6, none⟩ = some (.slice (some ⟨gr, 0, none⟩) nr nr) := hk1.cell 6
  have k7 : w'.cell? ⟨gk, 7, none⟩ = some (.slice (some ⟨gs, 0, none⟩) nr nr) := hk1.cell 7
  have r1 := reg_yes gk gr gs D nr w'.drew k1 k6 k7 hD sD
  have r2 := reg_yes gk gr gs S nr w'.drew k1 k6 k7 hS sS
  clear k1 k6 k7 sD sS
  have x3 : w'.cell? ⟨w.heap.size, 3, none⟩ = some (.int .u8 (C.toNat : Int)) := hx.cell 3
  refine wp_region_held_drew (S := (fun x => x.cell? ⟨w.heap.size, 1, none⟩ = some (.int .i64 (D : Int)) ∧ x.cell? ⟨w.heap.size, 2, none⟩ = some (.int .i64 (S : Int)))) (by kernel_rfl) ⟨x1, x2⟩ (fun hHeld => ?_)
  refine wpAnyH_take (i := 0) (v := ?_) rfl (by kernel_rfl) (by kernel_rfl) (by kernel_rfl) (fun _ _ _ h => h) (Or.inl ⟨by kernel_rfl, ?_⟩) (by assumption) ?_
  rotate_left
  · (intro w hSw; (try dsimp only at hSw); go_simp; (try with_reducible rfl))
  try simp only [List.getElem_toArray, List.getElem_cons_succ, List.getElem_cons_zero, Act.put, List.setIfInBounds_toArray, List.set_cons_zero, List.set_cons_succ]
  refine wpAnyH_take (i := 1) (v := ?_) rfl (by kernel_rfl) (by kernel_rfl) (by kernel_rfl) (fun _ _ _ h => h) (Or.inl ⟨by kernel_rfl, ?_⟩) (by assumption) ?_
  rotate_left
  · (intro w hSw; (try dsimp only at hSw); go_simp; (try with_reducible rfl))
  try simp only [List.getElem_toArray, List.getElem_cons_succ, List.getElem_cons_zero, Act.put, List.setIfInBounds_toArray, List.set_cons_zero, List.set_cons_succ]
  refine wpAnyH_take (i := 2) (v := ?_) rfl (by kernel_rfl) (by kernel_rfl) (by kernel_rfl) (fun _ _ _ h => h) (Or.inl ⟨by kernel_rfl, ?_⟩) (by assumption) ?_
  rotate_left
  · (intro w hSw; (try dsimp only at hSw); go_simp; (try with_reducible rfl))
  try simp only [List.getElem_toArray, List.getElem_cons_succ, List.getElem_cons_zero, Act.put, List.setIfInBounds_toArray, List.set_cons_zero, List.set_cons_succ]
  refine wpAnyH_take (i := 4) (v := ?_) rfl (by kernel_rfl) (by kernel_rfl) (by kernel_rfl) (fun _ _ _ h => h) (Or.inl ⟨by kernel_rfl, ?_⟩) (by assumption) ?_
  rotate_left
  · (intro w hSw; (try dsimp only at hSw); go_simp; (try with_reducible rfl))
  try simp only [List.getElem_toArray, List.getElem_cons_succ, List.getElem_cons_zero, Act.put, List.setIfInBounds_toArray, List.set_cons_zero, List.set_cons_succ]
  refine wpAnyH_take (i := 5) (v := ?_) rfl (by kernel_rfl) (by kernel_rfl) (by kernel_rfl) (fun _ _ _ h => h) (Or.inl ⟨by kernel_rfl, ?_⟩) (by assumption) ?_
  rotate_left
  · (intro w hSw; (try dsimp only at hSw); go_simp; (try with_reducible rfl))
  try simp only [List.getElem_toArray, List.getElem_cons_succ, List.getElem_cons_zero, Act.put, List.setIfInBounds_toArray, List.set_cons_zero, List.set_cons_succ]
  refine wpAnyH_take (i := 6) (v := ?_) rfl (by kernel_rfl) (by kernel_rfl) (by kernel_rfl) (fun _ _ _ h => h) (Or.inl ⟨by kernel_rfl, ?_⟩) (by assumption) ?_
  rotate_left
  · (intro w hSw; (try dsimp only at hSw); go_simp; (try with_reducible rfl))
  try simp only [List.getElem_toArray, List.getElem_cons_succ, List.getElem_cons_zero, Act.put, List.setIfInBounds_toArray, List.set_cons_zero, List.set_cons_succ]
  refine wpAnyH_ready (rs := [3]) (by kernel_rfl) (by simp) ?_
  refine AllReadyH.cons rfl (fun K hK => ?_) AllReadyH.nil
  go_simp
  refine r1.mono ?_
  rintro e w2 ⟨rfl, hw2⟩
  rw [hw2]
  clear hw2 w2
  refine hK.out _ _ hHeld (fun hHeld => ?_)
  clear hK K
  try simp only [List.getElem_toArray, List.getElem_cons_succ, List.getElem_cons_zero, Act.put, List.setIfInBounds_toArray, List.set_cons_zero, List.set_cons_succ]
  refine wpAnyH_ready (rs := [7]) (by kernel_rfl) (by simp) ?_
  refine AllReadyH.cons rfl (fun K hK => ?_) AllReadyH.nil
  go_simp
  refine r2.mono ?_
  rintro e w2 ⟨rfl, hw2⟩
  rw [hw2]
  clear hw2 w2
  refine hK.out _ _ hHeld (fun hHeld => ?_)
  clear hK K
  try simp only [List.getElem_toArray, List.getElem_cons_succ, List.getElem_cons_zero, Act.put, List.setIfInBounds_toArray, List.set_cons_zero, List.set_cons_succ]
  refine wpAnyH_take (i := 8) (v := ?_) rfl (by kernel_rfl) (by kernel_rfl) (by kernel_rfl) (fun _ _ _ h => h) (Or.inl ⟨by kernel_rfl, ?_⟩) (by assumption) ?_
  rotate_left
  · (intro w hSw; (try dsimp only at hSw); go_simp; (try with_reducible rfl))
  try simp only [List.getElem_toArray, List.getElem_cons_succ, List.getElem_cons_zero, Act.put, List.setIfInBounds_toArray, List.set_cons_zero, List.set_cons_succ]
  refine wpAnyH_take (i := 9) (v := ?_) rfl (by kernel_rfl) (by kernel_rfl) (by kernel_rfl) (fun _ _ _ h => h) (Or.inl ⟨by kernel_rfl, ?_⟩) (by assumption) ?_
  rotate_left
  · (intro w hSw; (try dsimp only at hSw); go_simp; (try with_reducible rfl))
  try simp only [List.getElem_toArray, List.getElem_cons_succ, List.getElem_cons_zero, Act.put, List.setIfInBounds_toArray, List.set_cons_zero, List.set_cons_succ]
  refine wpAnyH_done (by kernel_rfl) ?_ _
  have q1 : Below w.heap.size w w'.drew := below_drewN q 1
  have hk2 := hk1.drewN 1
  have hb2 := hb1.drewN 1
  have hr2 := hr1.drewN 1
  have hx2 := hx.drewN 1
  obtain ⟨w2, hw2⟩ : ∃ w2, w2 = w'.drewN 1 := ⟨_, rfl⟩
  rw [← hw2] at hk2 hb2 hr2 hx2
  have hw2' : w'.drew = w2 := hw2.symm
  rw [hw2'] at q1 ⊢
  clear hw2 hw2' hk1 hb1 hr1 hx q x0 x1 x2 x3 r1 r2 hHeld
  have x0 : w2.cell? ⟨w.heap.size, 0, none⟩ = some (.int .u8 3) := hx2.cell 0
  have x3 : w2.cell? ⟨w.heap.size, 3, none⟩ = some (.int .u8 (C.toNat : Int)) := hx2.cell 3
  have HSC := Lib.hid (scale_calls C (some ⟨gr, S * 64, none⟩) 64 64 (seg xs S) w2.drew (show Rd w2.drew w2.drew.heap.size _ 64 _ from seg_rd (w := w2) hr2 lr hS) (by decide))
  go_wp2_with fail
  refine wp_region_held_drew (S := (fun x => x.cell? ⟨w.heap.size, 3, none⟩ = some (.int .u8 (C.toNat : Int)))) (by kernel_rfl) x3 (fun hHeld => ?_)
  refine wpAnyH_take (i := 0) (v := ?_) rfl (by kernel_rfl) (by kernel_rfl) (by kernel_rfl) (fun _ _ _ h => h) (Or.inl ⟨by kernel_rfl, ?_⟩) (by assumption) ?_
  rotate_left
  · (intro w hSw; (try dsimp only at hSw); go_simp; (try with_reducible rfl))
  try simp only [List.getElem_toArray, List.getElem_cons_succ, List.getElem_cons_zero, Act.put, List.setIfInBounds_toArray, List.set_cons_zero, List.set_cons_succ]
  refine wpAnyH_take (i := 1) (v := ?_) rfl (by kernel_rfl) (by kernel_rfl) (by kernel_rfl) (fun _ _ _ h => h) (Or.inl ⟨by kernel_rfl, ?_⟩) (by assumption) ?_
  rotate_left
  · (intro w hSw; (try dsimp only at hSw); go_simp; (try with_reducible rfl))
  try simp only [List.getElem_toArray, List.getElem_cons_succ, List.getElem_cons_zero, Act.put, List.setIfInBounds_toArray, List.set_cons_zero, List.set_cons_succ]
  refine wpAnyH_take (i := 2) (v := ?_) rfl (by kernel_rfl) (by kernel_rfl) (by kernel_rfl) (fun _ _ _ h => h) (Or.inl ⟨by kernel_rfl, ?_⟩) (by assumption) ?_
  rotate_left
  · (intro w hSw; (try dsimp only at hSw); go_simp; (try with_reducible rfl))
  try simp only [List.getElem_toArray, List.getElem_cons_succ, List.getElem_cons_zero, Act.put, List.setIfInBounds_toArray, List.set_cons_zero, List.set_cons_succ]
  refine wpAnyH_take (i := 3) (v := ?_) rfl (by kernel_rfl) (by kernel_rfl) (by kernel_rfl) (fun _ _ _ h => h) (Or.inl ⟨by kernel_rfl, ?_⟩) (by assumption) ?_
  rotate_left
  · (intro w hSw; (try dsimp only at hSw); go_simp; (try with_reducible rfl))
  try simp only [List.getElem_toArray, List.getElem_cons_succ, List.getElem_cons_zero, Act.put, List.setIfInBounds_toArray, List.set_cons_zero, List.set_cons_succ]
  refine wpAnyH_take (i := 4) (v := ?_) rfl (by kernel_rfl) (by kernel_rfl) (by kernel_rfl) (fun _ _ _ h => h) (Or.inl ⟨by kernel_rfl, ?_⟩) (by assumption) ?_
  rotate_left
  · (intro w hSw; (try dsimp only at hSw); go_simp; (try with_reducible rfl))
  try simp only [List.getElem_toArray, List.getElem_cons_succ, List.getElem_cons_zero, Act.put, List.setIfInBounds_toArray, List.set_cons_zero, List.set_cons_succ]
  refine wpAnyH_take (i := 7) (v := ?_) rfl (by kernel_rfl) (by kernel_rfl) (by kernel_rfl) (fun _ _ _ h => h) (Or.inl ⟨by kernel_rfl, ?_⟩) (by assumption) ?_
  rotate_left
  · (intro w hSw; (try dsimp only at hSw); go_simp; (try with_reducible rfl))
  try simp only [List.getElem_toArray, List.getElem_cons_succ, List.getElem_cons_zero, Act.put, List.setIfInBounds_toArray, List.set_cons_zero, List.set_cons_succ]
  refine wpAnyH_ready (rs := [5]) (by kernel_rfl) (by simp) ?_
  refine AllReadyH.cons rfl (fun K hK => ?_) AllReadyH.nil
  go_simp
  refine HSC.out.mono ?_
  rintro e w3 ⟨A3, c3, rfl, ho, hb3⟩
  have hb4 : Below w2.heap.size w2 w3 := ⟨hb3.os, hb3.tape, hb3.output, hb3.size, hb3.block⟩
  have q3 : Below w.heap.size w w3 := q1.trans (hb4.mono q1.size)
  have x33 : w3.cell? ⟨w.heap.size, 3, none⟩ = some (.int .u8 (C.toNat : Int)) := (hb4.cell (p := ⟨w.heap.size, 3, none⟩) (lt_of_cell (w := w2) x3)).trans x3
  go_wp2_with fail
  refine hK.out _ _ x33 (fun hHeld => ?_)
  clear hK K
  try simp only [List.getElem_toArray, List.getElem_cons_succ, List.getElem_cons_zero, Act.put, List.setIfInBounds_toArray, List.set_cons_zero, List.set_cons_succ]
  refine wpAnyH_ready (rs := [6]) (by kernel_rfl) (by simp) ?_
  refine AllReadyH.cons rfl (fun K hK => ?_) AllReadyH.nil
  go_simp
  refine hK.out _ _ hHeld (fun hHeld => ?_)
  clear hK K
  try simp only [List.getElem_toArray, List.getElem_cons_succ, List.getElem_cons_zero, Act.put, List.setIfInBounds_toArray, List.set_cons_zero, List.set_cons_succ]
  refine wpAnyH_done (by kernel_rfl) ?_ _
  have hk3 := hk2.below (w' := w3) hb4 hk2.lt
  have hb3' := hb2.below (w' := w3) hb4 hb2.lt
  have hr3 := hr2.below (w' := w3) hb4 hr2.lt
  have hx3 := hx2.below (w' := w3) hb4 hx2.lt
  have hsz : w2.heap.size ≤ w3.heap.size := hb3.size
  have hown : OwnB w3 w2.heap.size A3 64 c3 _ := ho
  have HB := Lib.hid q3
  have HK := Lib.hid hk3
  have HBS := Lib.hid hb3'
  have HX := Lib.hid hx3
  have HO := Lib.hid hown
  have HLT := Lib.hid (show gr < w2.heap.size from hr2.lt)
  have HR0 := Lib.hid hr3
  have HLT0 := Lib.hid (show gr < w.heap.size from hr.lt)
  have HLX := Lib.hid (show w.heap.size < w2.heap.size from hx2.lt)
  clear x3 x33 hHeld hk2 hb2 hr2 hx2 hk3 hb3' hr3 hx3 hown ho q1 q3 HSC hk hb hr
  go_wp2_with fail
  have HL := Lib.hid lr
  have HD := Lib.hid hD
  have HS := Lib.hid hS
  clear lr
  go_loopw [102] (fun v102 wr => ∃ i : Nat, i ≤ 64 ∧ v102 = .int .i64 (i : Int) ∧ Row wr gr 87 (layAt (bVs xs) (D * 64) (bVs (upTo (fun j => Gf.add ((seg xs D).getD j 0) (Gf.mul C ((seg xs S).getD j 0))) (seg xs D) i))) ∧ OwnB wr w2.heap.size A3 64 c3 ((seg xs S).map (Gf.mul C)) ∧ Row wr gk 82 (lkV AS nS cS nr no reads n at_ gr gs go gd loads) ∧ Row wr gs 4 (bolVs bs) ∧ Row wr w.heap.size 59 [.int .u8 3, .int .i64 (D : Int), .int .i64 (S : Int), .int .u8 (C.toNat : Int)] ∧ Chg3 w.heap.size gr gr gr w wr) (fun v102 _ => 64 - (intOf v102).toNat)
  case atStart =>
    refine ⟨0, by omega, rfl, ?_, HO.out, HK.out, HBS.out, HX.out, Chg3.of_below HB.out⟩
    rw [up_zero]
    have e := layAt_self (bVs xs) (D * 64) 64 (by rw [bVs_length, HL.out]; have := HD.out; omega)
    have e2 : bVs (seg xs D) = ((bVs xs).drop (D * 64)).take 64 := by simp [bVs, seg, List.map_take, List.map_drop]
    rw [e2, e]
    exact HR0.out
  case round =>
    obtain ⟨i, hi, rfl, hrow, ho, hkk, hbb, hxx, hch⟩ := hrel
    clear HB HK HBS HX HO HR0
    have lD : (seg xs D).length = 64 := seg_length HL.out HD.out
    have lS : (seg xs S).length = 64 := seg_length HL.out HS.out
    by_cases hlt : i < 64
    · obtain ⟨g1, rfl, hg1, _, hc1, _⟩ := ho.at_ hlt
      rw [map_getD _ (by rw [lS]; exact hlt)] at hc1
      have lu : (bVs (upTo (fun j => Gf.add ((seg xs D).getD j 0) (Gf.mul C ((seg xs S).getD j 0))) (seg xs D) i)).length = 64 := by rw [bVs_length, up_len _ (by rw [lD]; omega), lD]
      have lx : D * 64 + 64 ≤ (bVs xs).length := by rw [bVs_length, HL.out]; have := HD.out; omega
      have hc2 : wr.cell? ⟨gr, D * 64 + i, none⟩ = some (.int .u8 (((seg xs D).getD i 0).toNat : Int)) := by
        rw [hrow.cell, layAt_get _ _ _ (by rw [lu]; exact lx) i (by rw [lu]; exact hlt), bVs_get _ _ (by rw [up_len _ (by rw [lD]; omega), lD]; exact hlt)]
        have e := up_get (fun j => Gf.add ((seg xs D).getD j 0) (Gf.mul C ((seg xs S).getD j 0))) (ys := seg xs D) (i := i) (by rw [lD]; exact hlt)
        rw [← e, List.getD_eq_getElem?_getD, List.getElem?_eq_getElem (by rw [up_len _ (by rw [lD]; omega), lD]; exact hlt)]
        rfl
      have hf2 : wr.frozen? ⟨gr, D * 64 + i, none⟩ = false := hrow.frozen _
      have HSET := Lib.hid (hrow.set (D * 64 + i) (.int .u8 ((Gf.add ((seg xs D).getD i 0) (Gf.mul C ((seg xs S).getD i 0))).toNat : Int)))
      have HE := Lib.hid ((layAt_set (bVs xs) (D * 64) _ (by rw [lu]; exact lx) i (by rw [lu]; exact hlt) (.int .u8 ((Gf.add ((seg xs D).getD i 0) (Gf.mul C ((seg xs S).getD i 0))).toNat : Int))).trans (congrArg (layAt (bVs xs) (D * 64)) ((bVs_set _ i _).trans (congrArg bVs (up_set (fun j => Gf.add ((seg xs D).getD j 0) (Gf.mul C ((seg xs S).getD j 0))) (ys := seg xs D) (i := i) (by rw [lD]; exact hlt))))))
      have hx := bxor_u8 ((seg xs D).getD i 0) (Gf.mul C ((seg xs S).getD i 0))
      generalize hy : Gf.mul C ((seg xs S).getD i 0) = y at hx hc1 HSET HE
      generalize hd : (seg xs D).getD i 0 = d at hx hc2 HSET HE
      have i0 : (0 : Int) ≤ (i : Int) := by omega
      have i1 : (i : Int) < 64 := by omega
      have HCH := Lib.hid hch
      have HOO := Lib.hid ho
      have HKK := Lib.hid hkk
      have HBB := Lib.hid hbb
      have HXX := Lib.hid hxx
      have ng : gr ≠ g1 := by have := HLT.out; omega
      have nx : w.heap.size ≠ gr := by have := HLT0.out; omega
      clear hrow hch ho hkk hbb hxx hy hd lu lx lD lS
      go_wp2_with fail
      go_region
      go_wp2_with fail
      go_roundw
      case rel =>
        refine ⟨i + 1, by omega, by go_num, ?_, ?_, ?_, ?_, ?_, ?_⟩
        · have h := HSET.out
          rw [HE.out] at h
          exact h.drewN 1
        · exact OwnB.drewN (HOO.out.far (p := ⟨gr, D * 64 + i, none⟩) HLT.out _) 1
        · exact (HKK.out.far (p := ⟨gr, D * 64 + i, none⟩) (Ne.symm n2) _).drewN 1
        · exact (HBB.out.far (p := ⟨gr, D * 64 + i, none⟩) (Ne.symm n3) _).drewN 1
        · exact (HXX.out.far (p := ⟨gr, D * 64 + i, none⟩) nx _).drewN 1
        · exact (HCH.out.set (g := gr) (Or.inl rfl) _ _).drewN 1
      case measure => simp [intOf]; omega
    · obtain rfl : i = 64 := by omega
      have hf : upTo (fun j => Gf.add ((seg xs D).getD j 0) (Gf.mul C ((seg xs S).getD j 0))) (seg xs D) 64 = Gf.macL (seg xs D) C (seg xs S) := by
        have h1 := up_all (fun j => Gf.add ((seg xs D).getD j 0) (Gf.mul C ((seg xs S).getD j 0))) (seg xs D)
        rw [lD] at h1
        rw [h1]
        have h2 := range_map_get2 (seg xs D) (seg xs S) (fun d s => Gf.add d (Gf.mul C s)) (by rw [lD, lS])
        rw [lD] at h2
        exact h2
      rw [hf] at hrow
      have x0 : wr.cell? ⟨w.heap.size, 0, none⟩ = some (.int .u8 3) := hxx.cell 0
      go_wp2_with fail
      go_end0
      exact ⟨rfl, hkk, hbb, hrow, hch⟩
end Go.Proofs.Ythbjcafldbocpaa
namespace Go.Proofs.Ythbjcafldbocpaa
open Go.RowKit
set_option linter.unusedVariables false
set_option linter.unusedSimpArgs false
theorem seg_cells {w : World} {gr : Nat} {t : TypeId} {xs : List UInt8} (h : Row w gr t (bVs xs)) {nr : Nat} (hl : xs.length = nr * 64) {r : Nat} (hr : r < nr) : w.rangeAt gr (r * 64) (bVs (seg xs r)) := by
  intro j u hu
  rw [h.cell, ← hu]
  have hj : j < 64 := by
    rcases Nat.lt_or_ge j 64 with hlt | hge
    · exact hlt
    · rw [List.getElem?_eq_none (by rw [bVs_length, seg_length hl hr]; exact hge)] at hu; cases hu
  simp only [bVs, seg, List.getElem?_map, List.getElem?_take, if_pos hj, List.getElem?_drop]
def OutS (gk gr go D S wh no gd : Nat) (cs : List Value) (x : World) : Prop :=
  x.cell? ⟨gk, 8, none⟩ = some (.slice (some ⟨go, 0, none⟩) no no) ∧ x.cell? ⟨gk, 9, none⟩ = some (.slice (some ⟨gd, 0, none⟩) no no) ∧ x.cell? ⟨wh, 1, none⟩ = some (.int .i64 (D : Int)) ∧ x.rangeAt gr (S * 64) cs ∧ x.there go (D * 64) 64
theorem OutS.lay {gk gr go D S wh no gd : Nat} {cs : List Value} {x : World} (h : OutS gk gr go D S wh no gd cs x) (n2 : go ≠ gk) (n3 : go ≠ wh) (n5 : gr ≠ go) (o : Nat) (vs : List Value) : OutS gk gr go D S wh no gd cs (x.setCells go o vs) :=
  ⟨(World.cell?_setCells_out go vs o x ⟨gk, 8, none⟩ (fun h => absurd h.symm n2)).trans h.1, (World.cell?_setCells_out go vs o x ⟨gk, 9, none⟩ (fun h => absurd h.symm n2)).trans h.2.1, (World.cell?_setCells_out go vs o x ⟨wh, 1, none⟩ (fun h => absurd h.symm n3)).trans h.2.2.1, fun j v hj => (World.cell?_setCells_out go vs o x ⟨gr, _, none⟩ (fun h => absurd h n5)).trans (h.2.2.2.1 j v hj), World.there_setCells h.2.2.2.2 _ _ _⟩
theorem OutS.put {gk gr go D S wh no gd : Nat} {cs : List Value} {x : World} (h : OutS gk gr go D S wh no gd cs x) (n1 : gd ≠ gk) (n3 : gd ≠ wh) (n5 : gr ≠ gd) (n6 : go ≠ gd) (o : Nat) (v : Value) : OutS gk gr go D S wh no gd cs (x.setCell ⟨gd, o, none⟩ v) := by
  have hc : ∀ p : Addr, p.block ≠ gd → (x.setCell ⟨gd, o, none⟩ v).cell? p = x.cell? p := fun p hp => World.cell?_setCell_other x _ p v (by rintro rfl; exact hp rfl)
  refine ⟨(hc _ (Ne.symm n1)).trans h.1, (hc _ (Ne.symm n1)).trans h.2.1, (hc _ (Ne.symm n3)).trans h.2.2.1, fun j u hj => (hc _ n5).trans (h.2.2.2.1 j u hj), fun j hj => ?_⟩
  have := h.2.2.2.2 j hj
  exact ⟨by rw [hc _ n6]; exact this.1, by rw [World.frozen?_setCell]; exact this.2⟩
set_option maxHeartbeats 4000000 in
set_option maxRecDepth 100000 in
theorem step_out (gk gr gs go gd nr no reads n at_ loads nS cS : Nat) (AS : Option Addr) (D S : Nat) (C : UInt8) (bs ds : List Bool) (xs ys : List UInt8) (w : World)
    (hk : Row w gk 82 (lkV AS nS cS nr no reads n at_ gr gs go gd loads)) (hb : Row w gs 4 (bolVs bs)) (hr : Row w gr 87 (bVs xs)) (lr : xs.length = nr * 64)
    (hd : Row w gd 4 (bolVs ds)) (ho : Row w go 87 (bVs ys)) (ld : ds.length = no) (lo : ys.length = no * 64)
    (n1 : gd ≠ gk) (n2 : go ≠ gk) (n3 : go ≠ gd) (n4 : gs ≠ go) (n5 : gr ≠ go) (n6 : gs ≠ gd) (n7 : gr ≠ gd) (hS : S < nr) (bS : bs[S]? = some true) (hD : D < no) (bD : ds[D]? = some false) :
    Calls Try.prog 64 #[.pointer (some ⟨gk, 0, none⟩), .agg #[.int .u8 4, .int .i64 (D : Int), .int .i64 (S : Int), .int .u8 (C.toNat : Int)]] w fun e w' => e = .returned (.tuple #[]) ∧ Row w' gk 82 (lkV AS nS cS nr no reads n at_ gr gs go gd loads) ∧ Row w' gd 4 (bolVs (ds.set D true)) ∧ Row w' go 87 (layAt (bVs ys) (D * 64) (bVs (seg xs S))) ∧ Chg3 w.heap.size gd go go w w' := by
  have e0 : decide ((D : Int) < (no : Int)) = true := decide_eq_true (by omega)
  have e1 : decide (D < no) = true := decide_eq_true hD
  go_enter Try.func64, Try.ntmps64
  go_wp2_with fail
  obtain ⟨w1, hw1⟩ : ∃ w1, w1 = w.alloc (.cells #[.int .u8 4, .int .i64 (D : Int), .int .i64 (S : Int), .int .u8 (C.toNat : Int)] 59) := ⟨_, rfl⟩
  have q : Below w.heap.size w w1 := by rw [hw1]; exact (Below.refl _ _).alloc (Nat.le_refl _) _
  have hx : Row w1 w.heap.size 59 [.int .u8 4, .int .i64 (D : Int), .int .i64 (S : Int), .int .u8 (C.toNat : Int)] := by rw [hw1]; exact Row.new w _ _
  have hk1 := hk.below q hk.lt
  have hb1 := hb.below q hb.lt
  have hr1 := hr.below q hr.lt
  have hd1 := hd.below q hd.lt
  have ho1 := ho.below q ho.lt
  rw [← hw1]
  clear hw1
  have x1 : w1.cell? ⟨w.heap.size, 1, none⟩ = some (.int .i64 (D : Int)) := hx.cell 1
  have sS : w1.cell? ⟨gs, S, none⟩ = some (.bool true) := by rw [hb1.cell, bolVs, List.getElem?_map, bS]; rfl
  have sD : w1.cell? ⟨gd, D, none⟩ = some (.bool false) := by rw [hd1.cell, bolVs, List.getElem?_map, bD]; rfl
  have k1 : w1.cell? ⟨gk, 1, none⟩ = some (.int .i64 (nr : Int)) := hk1.cell 1
  have k2 : w1.cell? ⟨gk, 2, none⟩ = some (.int .i64 (no : Int)) := hk1.cell 2
  have k6 : w1.cell? ⟨gk, 6, none⟩ = some (.slice (some ⟨gr, 0, none⟩) nr nr) := hk1.cell 6
  have k7 : w1.cell? ⟨gk, 7, none⟩ = some (.slice (some ⟨gs, 0, none⟩) nr nr) := hk1.cell 7
  have k8 : w1.cell? ⟨gk, 8, none⟩ = some (.slice (some ⟨go, 0, none⟩) no no) := hk1.cell 8
  have k9 : w1.cell? ⟨gk, 9, none⟩ = some (.slice (some ⟨gd, 0, none⟩) no no) := hk1.cell 9
  refine (reg_yes gk gr gs S nr w1 k1 k6 k7 hS sS).mono ?_
  rintro e w' ⟨rfl, rfl⟩
  go_wp2_with fail
  have i0 : (0 : Int) ≤ (D : Int) := by omega
  have i1 : (D : Int) < (no : Int) := by omega
  go_quiet (exact Calls.quiet_of_same (need_yes _))
  go_wp2_with fail
  have hk2 := hk1.drewN nq
  have hd2 := hd1.drewN nq
  have ho2 := ho1.drewN nq
  have hx2 := hx.drewN nq
  have hr2 := hr1.drewN nq
  have q2 := below_drewN q nq
  generalize hw2 : w'.drewN nq = w2 at *
  clear hw2 x1 sS sD k1 k2 k6 k7 k8 k9
  obtain ⟨cs, hcs⟩ : ∃ cs, cs = bVs (seg xs S) := ⟨_, rfl⟩
  have lcs : cs.length = 64 := by rw [hcs, bVs_length, seg_length lr hS]
  have z1 : ∀ v ∈ cs, v.oneCell' = true := by intro v hv; rw [hcs] at hv; exact bVs_one hv
  have z2 : (Try.prog.info? 87).map (·.size) = some cs.length := by rw [lcs]; kernel_rfl
  have z3 : Try.prog.underlying 87 = some (.array 64 5) := by kernel_rfl
  have e3 : go ≠ w.heap.size := by have := ho.lt; omega
  have e4 : gd ≠ w.heap.size := by have := hd.lt; omega
  have hF : OutS gk gr go D S w.heap.size no gd cs w2 := ⟨hk2.cell 8, hk2.cell 9, hx2.cell 1, by rw [hcs]; exact seg_cells hr2 lr hS, fun j hj => ⟨by rw [ho2.cell, List.getElem?_eq_getElem (by rw [bVs_length, lo]; omega)]; rfl, ho2.frozen _⟩⟩
  have hG : OutS gk gr go D S w.heap.size no gd cs w2.drew := hF
  obtain ⟨ob, hob⟩ : ∃ ob, w2.cell? ⟨gd, D, none⟩ = some ob := hd2.has (by simp [bolVs, ld]; omega)
  have hfz : w2.frozen? ⟨gd, D, none⟩ = false := hd2.frozen _
  have hob' : (w2.drew.setCells go (D * 64) cs).cell? ⟨gd, D, none⟩ = some ob := (World.cell?_setCells_out go cs (D * 64) w2.drew ⟨gd, D, none⟩ (fun h => absurd h.symm n3)).trans hob
  have hfz' : (w2.drew.setCells go (D * 64) cs).frozen? ⟨gd, D, none⟩ = false := by rw [World.frozen?_setCells]; exact hfz
  have HCS := Lib.hid hcs
  clear hcs
  go_region_held3 (fun x => x.cell? ⟨gk, 8, none⟩ = some (.slice (some ⟨go, 0, none⟩) no no) ∧ x.cell? ⟨gk, 9, none⟩ = some (.slice (some ⟨gd, 0, none⟩) no no) ∧ x.cell? ⟨w.heap.size, 1, none⟩ = some (.int .i64 (D : Int)) ∧ x.rangeAt gr (S * 64) cs ∧ x.there go (D * 64) 64) (first | (exact hG) | (exact OutS.lay hG n2 e3 n5 _ _) | (exact OutS.put (OutS.lay hG n2 e3 n5 _ _) n1 e4 n7 n3 _ _)) (fail)
  have hk3 := ((hk2.drewN 1).farLay (Ne.symm n2) (D * 64) cs).far (p := ⟨gd, D, none⟩) (Ne.symm n1) (.bool true)
  have hd3 := ((hd2.drewN 1).farLay (Ne.symm n3) (D * 64) cs).set D (.bool true)
  have ho3 := ((ho2.drewN 1).lay (D * 64) cs (by rw [lcs, bVs_length, lo]; omega)).far (p := ⟨gd, D, none⟩) n3 (.bool true)
  have hx3 := ((hx2.drewN 1).farLay (Ne.symm e3) (D * 64) cs).far (p := ⟨gd, D, none⟩) (Ne.symm e4) (.bool true)
  have hch := (((Chg3.of_below (a := gd) (b := go) (c := go) q2).drewN 1).lay (g := go) (Or.inr (Or.inl rfl)) (D * 64) cs).set (g := gd) (Or.inl rfl) D (.bool true)
  obtain ⟨w3, hw3⟩ : ∃ w3, w3 = ((w2.drewN 1).setCells go (D * 64) cs).setCell ⟨gd, D, none⟩ (.bool true) := ⟨_, rfl⟩
  rw [← hw3] at hk3 hd3 ho3 hx3 hch
  have hw3' : (w2.drew.setCells go (D * 64) cs).setCell ⟨gd, D, none⟩ (.bool true) = w3 := hw3.symm
  rw [hw3']
  rw [HCS.out] at ho3
  clear hw3 hw3' hF hG hob hob' hfz hfz' z1 z2 z3
  go_wp2_with fail
  go_end0
  exact ⟨rfl, hk3, by rw [bolVs, List.map_set]; exact hd3, ho3, hch⟩
set_option maxHeartbeats 4000000 in
set_option maxRecDepth 100000 in
theorem step_out_bad (gk gr gs go gd nr no reads n at_ loads nS cS : Nat) (AS : Option Addr) (D S : Nat) (C : UInt8) (bs ds : List Bool) (w : World)
    (hk : Row w gk 82 (lkV AS nS cS nr no reads n at_ gr gs go gd loads)) (hb : Row w gs 4 (bolVs bs))
    (hd : Row w gd 4 (bolVs ds)) (hS : S < nr) (bS : bs[S]? = some true) (h : no ≤ D ∨ (D < no ∧ ds[D]? = some true)) :
    Calls Try.prog 64 #[.pointer (some ⟨gk, 0, none⟩), .agg #[.int .u8 4, .int .i64 (D : Int), .int .i64 (S : Int), .int .u8 (C.toNat : Int)]] w fun e w' => e = .panicked giveUp ∧ Below w.heap.size w w' := by
  go_enter Try.func64, Try.ntmps64
  go_wp2_with fail
  obtain ⟨w1, hw1⟩ : ∃ w1, w1 = w.alloc (.cells #[.int .u8 4, .int .i64 (D : Int), .int .i64 (S : Int), .int .u8 (C.toNat : Int)] 59) := ⟨_, rfl⟩
  have q : Below w.heap.size w w1 := by rw [hw1]; exact (Below.refl _ _).alloc (Nat.le_refl _) _
  have hx : Row w1 w.heap.size 59 [.int .u8 4, .int .i64 (D : Int), .int .i64 (S : Int), .int .u8 (C.toNat : Int)] := by rw [hw1]; exact Row.new w _ _
  have hk1 := hk.below q hk.lt
  have hb1 := hb.below q hb.lt
  have hd1 := hd.below q hd.lt
  rw [← hw1]
  clear hw1
  have x1 : w1.cell? ⟨w.heap.size, 1, none⟩ = some (.int .i64 (D : Int)) := hx.cell 1
  have sS : w1.cell? ⟨gs, S, none⟩ = some (.bool true) := by rw [hb1.cell, bolVs, List.getElem?_map, bS]; rfl
  have k1 : w1.cell? ⟨gk, 1, none⟩ = some (.int .i64 (nr : Int)) := hk1.cell 1
  have k2 : w1.cell? ⟨gk, 2, none⟩ = some (.int .i64 (no : Int)) := hk1.cell 2
  have k6 : w1.cell? ⟨gk, 6, none⟩ = some (.slice (some ⟨gr, 0, none⟩) nr nr) := hk1.cell 6
  have k7 : w1.cell? ⟨gk, 7, none⟩ = some (.slice (some ⟨gs, 0, none⟩) nr nr) := hk1.cell 7
  have k9 : w1.cell? ⟨gk, 9, none⟩ = some (.slice (some ⟨gd, 0, none⟩) no no) := hk1.cell 9
  refine (reg_yes gk gr gs S nr w1 k1 k6 k7 hS sS).mono ?_
  rintro e w' ⟨rfl, rfl⟩
  go_wp2_with fail
  rcases h with h | ⟨h, bD⟩
  · have e0 : decide ((D : Int) < (no : Int)) = false := decide_eq_false (by omega)
    have e1 : decide (D < no) = false := decide_eq_false (by omega)
    refine wp_region_held_drew (S := (fun x => x.cell? ⟨w.heap.size, 1, none⟩ = some (.int .i64 (D : Int)) ∧ x.cell? ⟨gk, 2, none⟩ = some (.int .i64 (no : Int)))) (by kernel_rfl) ⟨x1, k2⟩ (fun hHeld => ?_)
    refine wpAnyH_take (i := 0) (v := ?_) rfl (by kernel_rfl) (by kernel_rfl) (by kernel_rfl) (fun _ _ _ h => h) (Or.inl ⟨by kernel_rfl, ?_⟩) (by assumption) ?_
    rotate_left
    · (intro w hSw; (try dsimp only at hSw); go_simp; (try with_reducible rfl))
    try simp only [List.getElem_toArray, List.getElem_cons_succ, List.getElem_cons_zero, Act.put, List.setIfInBounds_toArray, List.set_cons_zero, List.set_cons_succ]
    refine wpAnyH_take (i := 1) (v := ?_) rfl (by kernel_rfl) (by kernel_rfl) (by kernel_rfl) (fun _ _ _ h => h) (Or.inl ⟨by kernel_rfl, ?_⟩) (by assumption) ?_
    rotate_left
    · (intro w hSw; (try dsimp only at hSw); go_simp; (try with_reducible rfl))
    try simp only [List.getElem_toArray, List.getElem_cons_succ, List.getElem_cons_zero, Act.put, List.setIfInBounds_toArray, List.set_cons_zero, List.set_cons_succ]
    refine wpAnyH_take (i := 2) (v := ?_) rfl (by kernel_rfl) (by kernel_rfl) (by kernel_rfl) (fun _ _ _ h => h) (Or.inl ⟨by kernel_rfl, ?_⟩) (by assumption) ?_
    rotate_left
    · (intro w hSw; (try dsimp only at hSw); go_simp; (try with_reducible rfl))
    try simp only [List.getElem_toArray, List.getElem_cons_succ, List.getElem_cons_zero, Act.put, List.setIfInBounds_toArray, List.set_cons_zero, List.set_cons_succ]
    refine wpAnyH_take (i := 3) (v := ?_) rfl (by kernel_rfl) (by kernel_rfl) (by kernel_rfl) (fun _ _ _ h => h) (Or.inl ⟨by kernel_rfl, ?_⟩) (by assumption) ?_
    rotate_left
    · (intro w hSw; (try dsimp only at hSw); go_simp; (try with_reducible rfl))
    try simp only [List.getElem_toArray, List.getElem_cons_succ, List.getElem_cons_zero, Act.put, List.setIfInBounds_toArray, List.set_cons_zero, List.set_cons_succ]
    refine wpAnyH_take (i := 4) (v := ?_) rfl (by kernel_rfl) (by kernel_rfl) (by kernel_rfl) (fun _ _ _ h => h) (Or.inl ⟨by kernel_rfl, ?_⟩) (by assumption) ?_
    rotate_left
    · (intro w hSw; (try dsimp only at hSw); go_simp; (try with_reducible rfl))
    try simp only [List.getElem_toArray, List.getElem_cons_succ, List.getElem_cons_zero, Act.put, List.setIfInBounds_toArray, List.set_cons_zero, List.set_cons_succ]
    refine wpAnyH_take (i := 5) (v := ?_) rfl (by kernel_rfl) (by kernel_rfl) (by kernel_rfl) (fun _ _ _ h => h) (Or.inl ⟨by kernel_rfl, ?_⟩) (by assumption) ?_
    rotate_left
    · (intro w hSw; (try dsimp only at hSw); go_simp; (try with_reducible rfl))
    try simp only [List.getElem_toArray, List.getElem_cons_succ, List.getElem_cons_zero, Act.put, List.setIfInBounds_toArray, List.set_cons_zero, List.set_cons_succ]
    refine wpAnyH_take (i := 6) (v := ?_) rfl (by kernel_rfl) (by kernel_rfl) (by kernel_rfl) (fun _ _ _ h => h) (Or.inl ⟨by kernel_rfl, ?_⟩) (by assumption) ?_
    rotate_left
    · (intro w hSw; (try dsimp only at hSw); go_simp; (try with_reducible rfl))
    try simp only [List.getElem_toArray, List.getElem_cons_succ, List.getElem_cons_zero, Act.put, List.setIfInBounds_toArray, List.set_cons_zero, List.set_cons_succ]
    refine wpAnyH_take (i := 7) (v := ?_) rfl (by kernel_rfl) (by kernel_rfl) (by kernel_rfl) (fun _ _ _ h => h) (Or.inl ⟨by kernel_rfl, ?_⟩) (by assumption) ?_
    rotate_left
    · (intro w hSw; (try dsimp only at hSw); go_simp; (try with_reducible rfl))
    try simp only [List.getElem_toArray, List.getElem_cons_succ, List.getElem_cons_zero, Act.put, List.setIfInBounds_toArray, List.set_cons_zero, List.set_cons_succ]
    refine wpAnyH_take (i := 8) (v := ?_) rfl (by kernel_rfl) (by kernel_rfl) (by kernel_rfl) (fun _ _ _ h => h) (Or.inl ⟨by kernel_rfl, ?_⟩) (by assumption) ?_
    rotate_left
    · (intro w hSw; (try dsimp only at hSw); go_simp; (try with_reducible rfl))
    try simp only [List.getElem_toArray, List.getElem_cons_succ, List.getElem_cons_zero, Act.put, List.setIfInBounds_toArray, List.set_cons_zero, List.set_cons_succ]
    refine wpAnyH_take (i := 9) rfl (by kernel_rfl) (by kernel_rfl) (by kernel_rfl) (fun _ _ _ h => h) (Or.inr ⟨by kernel_rfl, rfl⟩) (by assumption) ?_
    try simp only [List.getElem_toArray, List.getElem_cons_succ, List.getElem_cons_zero, Act.put, List.setIfInBounds_toArray, List.set_cons_zero, List.set_cons_succ]
    refine wpAnyH_take (i := 10) rfl (by kernel_rfl) (by kernel_rfl) (by kernel_rfl) (fun _ _ _ h => h) (Or.inr ⟨by kernel_rfl, rfl⟩) (by assumption) ?_
    try simp only [List.getElem_toArray, List.getElem_cons_succ, List.getElem_cons_zero, Act.put, List.setIfInBounds_toArray, List.set_cons_zero, List.set_cons_succ]
    refine wpAnyH_take (i := 11) rfl (by kernel_rfl) (by kernel_rfl) (by kernel_rfl) (fun _ _ _ h => h) (Or.inr ⟨by kernel_rfl, rfl⟩) (by assumption) ?_
    try simp only [List.getElem_toArray, List.getElem_cons_succ, List.getElem_cons_zero, Act.put, List.setIfInBounds_toArray, List.set_cons_zero, List.set_cons_succ]
    refine wpAnyH_take (i := 12) rfl (by kernel_rfl) (by kernel_rfl) (by kernel_rfl) (fun _ _ _ h => h) (Or.inr ⟨by kernel_rfl, rfl⟩) (by assumption) ?_
    try simp only [List.getElem_toArray, List.getElem_cons_succ, List.getElem_cons_zero, Act.put, List.setIfInBounds_toArray, List.set_cons_zero, List.set_cons_succ]
    refine wpAnyH_take (i := 13) rfl (by kernel_rfl) (by kernel_rfl) (by kernel_rfl) (fun _ _ _ h => h) (Or.inr ⟨by kernel_rfl, rfl⟩) (by assumption) ?_
    try simp only [List.getElem_toArray, List.getElem_cons_succ, List.getElem_cons_zero, Act.put, List.setIfInBounds_toArray, List.set_cons_zero, List.set_cons_succ]
    refine wpAnyH_take (i := 14) rfl (by kernel_rfl) (by kernel_rfl) (by kernel_rfl) (fun _ _ _ h => h) (Or.inr ⟨by kernel_rfl, rfl⟩) (by assumption) ?_
    try simp only [List.getElem_toArray, List.getElem_cons_succ, List.getElem_cons_zero, Act.put, List.setIfInBounds_toArray, List.set_cons_zero, List.set_cons_succ]
    refine wpAnyH_take (i := 15) rfl (by kernel_rfl) (by kernel_rfl) (by kernel_rfl) (fun _ _ _ h => h) (Or.inr ⟨by kernel_rfl, rfl⟩) (by assumption) ?_
    try simp only [List.getElem_toArray, List.getElem_cons_succ, List.getElem_cons_zero, Act.put, List.setIfInBounds_toArray, List.set_cons_zero, List.set_cons_succ]
    refine wpAnyH_take (i := 16) rfl (by kernel_rfl) (by kernel_rfl) (by kernel_rfl) (fun _ _ _ h => h) (Or.inr ⟨by kernel_rfl, rfl⟩) (by assumption) ?_
    try simp only [List.getElem_toArray, List.getElem_cons_succ, List.getElem_cons_zero, Act.put, List.setIfInBounds_toArray, List.set_cons_zero, List.set_cons_succ]
    refine wpAnyH_take (i := 17) rfl (by kernel_rfl) (by kernel_rfl) (by kernel_rfl) (fun _ _ _ h => h) (Or.inr ⟨by kernel_rfl, rfl⟩) (by assumption) ?_
    try simp only [List.getElem_toArray, List.getElem_cons_succ, List.getElem_cons_zero, Act.put, List.setIfInBounds_toArray, List.set_cons_zero, List.set_cons_succ]
    refine wpAnyH_take (i := 18) (v := ?_) rfl (by kernel_rfl) (by kernel_rfl) (by kernel_rfl) (fun _ _ _ h => h) (Or.inl ⟨by kernel_rfl, ?_⟩) (by assumption) ?_
    rotate_left
    · (intro w hSw; (try dsimp only at hSw); go_simp; (try with_reducible rfl))
    try simp only [List.getElem_toArray, List.getElem_cons_succ, List.getElem_cons_zero, Act.put, List.setIfInBounds_toArray, List.set_cons_zero, List.set_cons_succ]
    refine wpAnyH_ready (rs := [19]) (by kernel_rfl) (by simp) ?_
    refine AllReadyH.cons rfl (fun K hK => ?_) AllReadyH.nil
    go_simp
    refine (need_no _).mono ?_
    rintro e w2 ⟨rfl, hw2⟩
    rw [hw2]
    exact ⟨rfl, rfl, below_drewN q 1⟩
  · have e0 : decide ((D : Int) < (no : Int)) = true := decide_eq_true (by omega)
    have e1 : decide (D < no) = true := decide_eq_true (by omega)
    have i0 : (0 : Int) ≤ (D : Int) := by omega
    have i1 : (D : Int) < (no : Int) := by omega
    have sD : w'.cell? ⟨gd, D, none⟩ = some (.bool true) := by rw [hd1.cell, bolVs, List.getElem?_map, bD]; rfl
    refine wp_region_held_drew (S := (fun x => x.cell? ⟨w.heap.size, 1, none⟩ = some (.int .i64 (D : Int)) ∧ x.cell? ⟨gk, 2, none⟩ = some (.int .i64 (no : Int)) ∧ x.cell? ⟨gk, 9, none⟩ = some (.slice (some ⟨gd, 0, none⟩) no no) ∧ x.cell? ⟨gd, D, none⟩ = some (.bool true))) (by kernel_rfl) ⟨x1, k2, k9, sD⟩ (fun hHeld => ?_)
    refine wpAnyH_take (i := 0) (v := ?_) rfl (by kernel_rfl) (by kernel_rfl) (by kernel_rfl) (fun _ _ _ h => h) (Or.inl ⟨by kernel_rfl, ?_⟩) (by assumption) ?_
    rotate_left
    · (intro w hSw; (try dsimp only at hSw); go_simp; (try with_reducible rfl))
    try simp only [List.getElem_toArray, List.getElem_cons_succ, List.getElem_cons_zero, Act.put, List.setIfInBounds_toArray, List.set_cons_zero, List.set_cons_succ]
    refine wpAnyH_take (i := 1) (v := ?_) rfl (by kernel_rfl) (by kernel_rfl) (by kernel_rfl) (fun _ _ _ h => h) (Or.inl ⟨by kernel_rfl, ?_⟩) (by assumption) ?_
    rotate_left
    · (intro w hSw; (try dsimp only at hSw); go_simp; (try with_reducible rfl))
    try simp only [List.getElem_toArray, List.getElem_cons_succ, List.getElem_cons_zero, Act.put, List.setIfInBounds_toArray, List.set_cons_zero, List.set_cons_succ]
    refine wpAnyH_take (i := 2) (v := ?_) rfl (by kernel_rfl) (by kernel_rfl) (by kernel_rfl) (fun _ _ _ h => h) (Or.inl ⟨by kernel_rfl, ?_⟩) (by assumption) ?_
    rotate_left
    · (intro w hSw; (try dsimp only at hSw); go_simp; (try with_reducible rfl))
    try simp only [List.getElem_toArray, List.getElem_cons_succ, List.getElem_cons_zero, Act.put, List.setIfInBounds_toArray, List.set_cons_zero, List.set_cons_succ]
    refine wpAnyH_take (i := 3) (v := ?_) rfl (by kernel_rfl) (by kernel_rfl) (by kernel_rfl) (fun _ _ _ h => h) (Or.inl ⟨by kernel_rfl, ?_⟩) (by assumption) ?_
    rotate_left
    · (intro w hSw; (try dsimp only at hSw); go_simp; (try with_reducible rfl))
    try simp only [List.getElem_toArray, List.getElem_cons_succ, List.getElem_cons_zero, Act.put, List.setIfInBounds_toArray, List.set_cons_zero, List.set_cons_succ]
    refine wpAnyH_take (i := 4) (v := ?_) rfl (by kernel_rfl) (by kernel_rfl) (by kernel_rfl) (fun _ _ _ h => h) (Or.inl ⟨by kernel_rfl, ?_⟩) (by assumption) ?_
    rotate_left
    · (intro w hSw; (try dsimp only at hSw); go_simp; (try with_reducible rfl))
    try simp only [List.getElem_toArray, List.getElem_cons_succ, List.getElem_cons_zero, Act.put, List.setIfInBounds_toArray, List.set_cons_zero, List.set_cons_succ]
    refine wpAnyH_take (i := 5) (v := ?_) rfl (by kernel_rfl) (by kernel_rfl) (by kernel_rfl) (fun _ _ _ h => h) (Or.inl ⟨by kernel_rfl, ?_⟩) (by assumption) ?_
    rotate_left
    · (intro w hSw; (try dsimp only at hSw); go_simp; (try with_reducible rfl))
    try simp only [List.getElem_toArray, List.getElem_cons_succ, List.getElem_cons_zero, Act.put, List.setIfInBounds_toArray, List.set_cons_zero, List.set_cons_succ]
    refine wpAnyH_take (i := 6) (v := ?_) rfl (by kernel_rfl) (by kernel_rfl) (by kernel_rfl) (fun _ _ _ h => h) (Or.inl ⟨by kernel_rfl, ?_⟩) (by assumption) ?_
    rotate_left
    · (intro w hSw; (try dsimp only at hSw); go_simp; (try with_reducible rfl))
    try simp only [List.getElem_toArray, List.getElem_cons_succ, List.getElem_cons_zero, Act.put, List.setIfInBounds_toArray, List.set_cons_zero, List.set_cons_succ]
    refine wpAnyH_take (i := 7) (v := ?_) rfl (by kernel_rfl) (by kernel_rfl) (by kernel_rfl) (fun _ _ _ h => h) (Or.inl ⟨by kernel_rfl, ?_⟩) (by assumption) ?_
    rotate_left
    · (intro w hSw; (try dsimp only at hSw); go_simp; (try with_reducible rfl))
    try simp only [List.getElem_toArray, List.getElem_cons_succ, List.getElem_cons_zero, Act.put, List.setIfInBounds_toArray, List.set_cons_zero, List.set_cons_succ]
    refine wpAnyH_take (i := 8) (v := ?_) rfl (by kernel_rfl) (by kernel_rfl) (by kernel_rfl) (fun _ _ _ h => h) (Or.inl ⟨by kernel_rfl, ?_⟩) (by assumption) ?_
    rotate_left
    · (intro w hSw; (try dsimp only at hSw); go_simp; (try with_reducible rfl))
    try simp only [List.getElem_toArray, List.getElem_cons_succ, List.getElem_cons_zero, Act.put, List.setIfInBounds_toArray, List.set_cons_zero, List.set_cons_succ]
    refine wpAnyH_take (i := 9) (v := ?_) rfl (by kernel_rfl) (by kernel_rfl) (by kernel_rfl) (fun _ _ _ h => h) (Or.inl ⟨by kernel_rfl, ?_⟩) (by assumption) ?_
    rotate_left
    · (intro w hSw; (try dsimp only at hSw); go_simp; (try with_reducible rfl))
    try simp only [List.getElem_toArray, List.getElem_cons_succ, List.getElem_cons_zero, Act.put, List.setIfInBounds_toArray, List.set_cons_zero, List.set_cons_succ]
    refine wpAnyH_take (i := 10) (v := ?_) rfl (by kernel_rfl) (by kernel_rfl) (by kernel_rfl) (fun _ _ _ h => h) (Or.inl ⟨by kernel_rfl, ?_⟩) (by assumption) ?_
    rotate_left
    · (intro w hSw; (try dsimp only at hSw); go_simp; (try with_reducible rfl))
    try simp only [List.getElem_toArray, List.getElem_cons_succ, List.getElem_cons_zero, Act.put, List.setIfInBounds_toArray, List.set_cons_zero, List.set_cons_succ]
    refine wpAnyH_take (i := 11) (v := ?_) rfl (by kernel_rfl) (by kernel_rfl) (by kernel_rfl) (fun _ _ _ h => h) (Or.inl ⟨by kernel_rfl, ?_⟩) (by assumption) ?_
    rotate_left
    · (intro w hSw; (try dsimp only at hSw); go_simp; (try with_reducible rfl))
    try simp only [List.getElem_toArray, List.getElem_cons_succ, List.getElem_cons_zero, Act.put, List.setIfInBounds_toArray, List.set_cons_zero, List.set_cons_succ]
    refine wpAnyH_take (i := 12) (v := ?_) rfl (by kernel_rfl) (by kernel_rfl) (by kernel_rfl) (fun _ _ _ h => h) (Or.inl ⟨by kernel_rfl, ?_⟩) (by assumption) ?_
    rotate_left
    · (intro w hSw; (try dsimp only at hSw); go_simp; (try with_reducible rfl))
    try simp only [List.getElem_toArray, List.getElem_cons_succ, List.getElem_cons_zero, Act.put, List.setIfInBounds_toArray, List.set_cons_zero, List.set_cons_succ]
    refine wpAnyH_take (i := 13) (v := ?_) rfl (by kernel_rfl) (by kernel_rfl) (by kernel_rfl) (fun _ _ _ h => h) (Or.inl ⟨by kernel_rfl, ?_⟩) (by assumption) ?_
    rotate_left
    · (intro w hSw; (try dsimp only at hSw); go_simp; (try with_reducible rfl))
    try simp only [List.getElem_toArray, List.getElem_cons_succ, List.getElem_cons_zero, Act.put, List.setIfInBounds_toArray, List.set_cons_zero, List.set_cons_succ]
    refine wpAnyH_take (i := 14) (v := ?_) rfl (by kernel_rfl) (by kernel_rfl) (by kernel_rfl) (fun _ _ _ h => h) (Or.inl ⟨by kernel_rfl, ?_⟩) (by assumption) ?_
    rotate_left
    · (intro w hSw; (try dsimp only at hSw); go_simp; (try with_reducible rfl))
    try simp only [List.getElem_toArray, List.getElem_cons_succ, List.getElem_cons_zero, Act.put, List.setIfInBounds_toArray, List.set_cons_zero, List.set_cons_succ]
    refine wpAnyH_take (i := 15) (v := ?_) rfl (by kernel_rfl) (by kernel_rfl) (by kernel_rfl) (fun _ _ _ h => h) (Or.inl ⟨by kernel_rfl, ?_⟩) (by assumption) ?_
    rotate_left
    · (intro w hSw; (try dsimp only at hSw); go_simp; (try with_reducible rfl))
    try simp only [List.getElem_toArray, List.getElem_cons_succ, List.getElem_cons_zero, Act.put, List.setIfInBounds_toArray, List.set_cons_zero, List.set_cons_succ]
    refine wpAnyH_take (i := 16) (v := ?_) rfl (by kernel_rfl) (by kernel_rfl) (by kernel_rfl) (fun _ _ _ h => h) (Or.inl ⟨by kernel_rfl, ?_⟩) (by assumption) ?_
    rotate_left
    · (intro w hSw; (try dsimp only at hSw); go_simp; (try with_reducible rfl))
    try simp only [List.getElem_toArray, List.getElem_cons_succ, List.getElem_cons_zero, Act.put, List.setIfInBounds_toArray, List.set_cons_zero, List.set_cons_succ]
    refine wpAnyH_take (i := 17) (v := ?_) rfl (by kernel_rfl) (by kernel_rfl) (by kernel_rfl) (fun _ _ _ h => h) (Or.inl ⟨by kernel_rfl, ?_⟩) (by assumption) ?_
    rotate_left
    · (intro w hSw; (try dsimp only at hSw); go_simp; (try with_reducible rfl))
    try simp only [List.getElem_toArray, List.getElem_cons_succ, List.getElem_cons_zero, Act.put, List.setIfInBounds_toArray, List.set_cons_zero, List.set_cons_succ]
    refine wpAnyH_take (i := 18) (v := ?_) rfl (by kernel_rfl) (by kernel_rfl) (by kernel_rfl) (fun _ _ _ h => h) (Or.inl ⟨by kernel_rfl, ?_⟩) (by assumption) ?_
    rotate_left
    · (intro w hSw; (try dsimp only at hSw); go_simp; (try with_reducible rfl))
    try simp only [List.getElem_toArray, List.getElem_cons_succ, List.getElem_cons_zero, Act.put, List.setIfInBounds_toArray, List.set_cons_zero, List.set_cons_succ]
    refine wpAnyH_ready (rs := [19]) (by kernel_rfl) (by simp) ?_
    refine AllReadyH.cons rfl (fun K hK => ?_) AllReadyH.nil
    go_simp
    refine (need_no _).mono ?_
    rintro e w2 ⟨rfl, hw2⟩
    rw [hw2]
    exact ⟨rfl, rfl, below_drewN q 1⟩
end Go.Proofs.Ythbjcafldbocpaa
namespace Go.Proofs.Ythbjcafldbocpaa
open Go.RowKit
set_option linter.unusedVariables false
set_option linter.unusedSimpArgs false

structure LkG (base gk gr gs go gd nr no reads n : Nat) : Prop where
  bk : base ≤ gk
  br : base ≤ gr
  bs : base ≤ gs
  bo : base ≤ go
  bd : base ≤ gd
  n1 : gs ≠ gk
  n2 : gr ≠ gk
  n3 : gr ≠ gs
  n4 : gd ≠ gk
  n5 : go ≠ gk
  n6 : go ≠ gd
  n7 : gs ≠ go
  n8 : gr ≠ go
  n9 : gs ≠ gd
  n10 : gr ≠ gd
  hn : n ≤ 64
  hreads : reads < 2 ^ 64
theorem some_none {α : Type} {o : Option α} {x : α} {P : Prop} (h : o = some x) (h' : o = none) : P := by rw [h] at h'; cases h'
def somes (rs : List (Option (List UInt8))) : List Bool := rs.map (·.isSome)
structure LkW (w : World) (gk gr gs go gd nr no reads n : Nat) (AS : Option Addr) (nS cS at_ : Nat) (st : VS) : Prop where
  hk : Row w gk 82 (lkV AS nS cS nr no reads n at_ gr gs go gd st.loads)
  hs : Row w gs 4 (bolVs (somes st.regs))
  hr : Row w gr 87 (bVs (flatR st.regs))
  hd : Row w gd 4 (bolVs (somes st.outs))
  ho : Row w go 87 (bVs (flatR st.outs))
  ok : st.Ok nr no n
  hl : st.loads < 2 ^ 64
structure Fr (base gk gr gs go gd : Nat) (w w' : World) : Prop where
  low : Below base w w'
  keep : ∀ k, k < w.heap.size → k ≠ gk → k ≠ gr → k ≠ gs → k ≠ go → k ≠ gd → w'.heap[k]? = w.heap[k]?
theorem Fr.trans {base gk gr gs go gd : Nat} {w w' w'' : World} (h : Fr base gk gr gs go gd w w') (h' : Fr base gk gr gs go gd w' w'') : Fr base gk gr gs go gd w w'' :=
  ⟨h.low.trans h'.low, fun k hk a b c d e => (h'.keep k (Nat.lt_of_lt_of_le hk h.low.size) a b c d e).trans (h.keep k hk a b c d e)⟩
theorem Fr.row {base gk gr gs go gd : Nat} {w w' : World} (h : Fr base gk gr gs go gd w w') {g : Nat} {t : TypeId} {ys : List Value} (hr : Row w g t ys) (a : g ≠ gk) (b : g ≠ gr) (c : g ≠ gs) (d : g ≠ go) (e : g ≠ gd) : Row w' g t ys := (h.keep g hr.lt a b c d e).trans hr
theorem Chg3.low {B a b c base : Nat} {w w' : World} (h : Chg3 B a b c w w') (hB : base ≤ B) (ha : base ≤ a) (hb : base ≤ b) (hc : base ≤ c) : Below base w w' :=
  ⟨h.os, h.tape, h.output, h.size, fun k hk => h.block k (by omega) (by omega) (by omega) (by omega)⟩
theorem Chg3.fr {a b c base gk gr gs go gd : Nat} {w w' : World} (h : Chg3 w.heap.size a b c w w') (hB : base ≤ w.heap.size) (ha : base ≤ a) (hb : base ≤ b) (hc : base ≤ c) (hi : ∀ x, (x = a ∨ x = b ∨ x = c) → x = gk ∨ x = gr ∨ x = gs ∨ x = go ∨ x = gd) : Fr base gk gr gs go gd w w' :=
  ⟨h.low hB ha hb hc, fun k hk n1 n2 n3 n4 n5 => h.block k hk (fun e => by have := hi k (.inl e); omega) (fun e => by have := hi k (.inr (.inl e)); omega) (fun e => by have := hi k (.inr (.inr e)); omega)⟩
theorem Fr.of_below {base gk gr gs go gd : Nat} {w w' : World} (h : Below w.heap.size w w') (hB : base ≤ w.heap.size) : Fr base gk gr gs go gd w w' := ⟨h.mono hB, fun k hk _ _ _ _ _ => h.block k hk⟩
theorem somes_set (rs : List (Option (List UInt8))) (D : Nat) (l : List UInt8) : (somes rs).set D true = somes (rs.set D (some l)) := by simp [somes, List.map_set]
theorem noReg_of {st : VS} {nr no n : Nat} (h : st.Ok nr no n) {r : Nat} (hr : st.regs.getD r none = none) : NoReg nr (somes st.regs) r := by
  rcases Nat.lt_or_ge r nr with hlt | hge
  · refine .inr ⟨hlt, ?_⟩
    rw [List.getD_eq_getElem?_getD, List.getElem?_eq_getElem (by rw [h.lr]; exact hlt)] at hr
    simp only [Option.getD_some] at hr
    rw [somes, List.getElem?_map, List.getElem?_eq_getElem (by rw [h.lr]; exact hlt), hr]
    rfl
  · exact .inl hge
theorem isReg_of {rs : List (Option (List UInt8))} {r : Nat} {l : List UInt8} (hr : rs.getD r none = some l) : r < rs.length ∧ (somes rs)[r]? = some true := by
  rcases Nat.lt_or_ge r rs.length with hlt | hge
  · refine ⟨hlt, ?_⟩
    rw [List.getD_eq_getElem?_getD, List.getElem?_eq_getElem hlt] at hr
    simp only [Option.getD_some] at hr
    rw [somes, List.getElem?_map, List.getElem?_eq_getElem hlt, hr]
    rfl
  · rw [List.getD_eq_getElem?_getD, List.getElem?_eq_none hge] at hr; cases hr
theorem seg_flat {rs : List (Option (List UInt8))} (h : Short rs) {r : Nat} (hr : r < rs.length) : seg (flatR rs) r = pad (rs.getD r none) := flatR_drop h r hr
theorem bVs_zeros (k : Nat) : bVs (List.replicate k 0) = List.replicate k (.int .u8 0) := by simp [bVs]
theorem bVs_unit (s : Nat) : bVs ((List.replicate 64 0).set s 1) = (List.replicate 64 (.int .u8 0)).set s (.int .u8 1) := by
  rw [← bVs_zeros, ← bVs_set]; rfl
theorem or_lt (a s : Nat) (h : a < 2 ^ 64) (hs : s < 64) : a ||| 1 <<< s < 2 ^ 64 :=
  Nat.or_lt_two_pow h (by rw [Nat.one_shiftLeft]; exact Nat.pow_lt_pow_right (by decide) hs)
set_option maxHeartbeats 1000000 in
theorem step_calls {base gk gr gs go gd nr no reads n nS cS at_ : Nat} {AS : Option Addr} {st : VS} {w : World} (G : LkG base gk gr gs go gd nr no reads n) (h : LkW w gk gr gs go gd nr no reads n AS nS cS at_ st)
    (k D S : Nat) (C : UInt8) (hk : k = 1 ∨ k = 2 ∨ k = 3 ∨ k = 4) :
    Calls Try.prog 64 #[.pointer (some ⟨gk, 0, none⟩), .agg #[.int .u8 (k : Int), .int .i64 (D : Int), .int .i64 (S : Int), .int .u8 (C.toNat : Int)]] w fun e w' =>
      Fr base gk gr gs go gd w w' ∧ (∀ st', vStep nr no reads n st k D S C = some st' → e = .returned (.tuple #[]) ∧ LkW w' gk gr gs go gd nr no reads n AS nS cS at_ st') ∧
      (vStep nr no reads n st k D S C = none → e = .panicked giveUp ∧ Row w' gk 82 (lkV AS nS cS nr no reads n at_ gr gs go gd st.loads)) := by
  have hB : base ≤ w.heap.size := Nat.le_trans G.bk (Nat.le_of_lt h.hk.lt)
  have sr := Short.of_ok h.ok G.hn
  have so := Short.of_ok' h.ok G.hn
  have lf : (bVs (flatR st.regs)).length = nr * 64 := by rw [bVs_length, flatR_length sr, h.ok.lr]
  have lf' : (flatR st.regs).length = nr * 64 := by rw [flatR_length sr, h.ok.lr]
  have lo' : (flatR st.outs).length = no * 64 := by rw [flatR_length so, h.ok.lo]
  have lb : (somes st.regs).length = nr := by rw [somes, List.length_map, h.ok.lr]
  have ld : (somes st.outs).length = no := by rw [somes, List.length_map, h.ok.lo]
  -- a way that gives up and writes nothing below
  have gone : ∀ {v : Array Value}, vStep nr no reads n st k D S C = none → Calls Try.prog 64 v w (fun e w' => e = .panicked giveUp ∧ Below w.heap.size w w') → Calls Try.prog 64 v w fun e w' => Fr base gk gr gs go gd w w' ∧ (∀ st', vStep nr no reads n st k D S C = some st' → e = .returned (.tuple #[]) ∧ LkW w' gk gr gs go gd nr no reads n AS nS cS at_ st') ∧ (vStep nr no reads n st k D S C = none → e = .panicked giveUp ∧ Row w' gk 82 (lkV AS nS cS nr no reads n at_ gr gs go gd st.loads)) := by
    intro v hv hc
    refine hc.mono ?_
    rintro e w' ⟨he, hb⟩
    exact ⟨Fr.of_below hb hB, fun st' h' => some_none h' hv, fun _ => ⟨he, h.hk.below hb h.hk.lt⟩⟩
  rcases hk with rfl | rfl | rfl | rfl
  · by_cases hD : D < nr
    · have hv : vStep nr no reads n st 1 D S C = some { st with regs := st.regs.set D (some (List.replicate n 0)) } := by simp [vStep, hD]
      refine (step_clear gk gr gs go gd nr no reads n at_ st.loads nS cS AS D S C (somes st.regs) _ w h.hk h.hs h.hr lb lf hD G.n1 G.n2 G.n3).mono ?_
      rintro e w' ⟨rfl, k1, k2, k3, k4⟩
      refine ⟨k4.fr hB G.bs G.br G.br (by omega), fun st' h' => ?_, fun h' => some_none hv h'⟩
      rw [hv] at h'
      injection h' with h'
      subst h'
      refine ⟨rfl, k1, by rw [← somes_set]; exact k2, ?_, k4.row h.hd h.hd.lt (Ne.symm G.n9) (Ne.symm G.n10) (Ne.symm G.n10), k4.row h.ho h.ho.lt (Ne.symm G.n7) (Ne.symm G.n8) (Ne.symm G.n8), h.ok.set D _ (by simp) st.loads, h.hl⟩
      have e := layAt_pad sr D (by rw [h.ok.lr]; exact hD) (some (List.replicate n 0)) (fun l hl => by injection hl with hl; rw [← hl, List.length_replicate]; exact G.hn)
      rw [pad_zero n G.hn, bVs_zeros] at e
      rw [← e]
      exact k3
    · exact gone (by simp [vStep, hD]) (step_far gk gr gs go gd nr no reads n at_ st.loads nS cS AS D S C w h.hk (by omega))
  · by_cases hD : D < nr
    · refine (step_load gk gr gs go gd nr no reads n at_ st.loads nS cS AS D S C (somes st.regs) _ w h.hk h.hs h.hr lb lf hD G.hn G.hreads h.hl G.n1 G.n2 G.n3).mono ?_
      rintro e w' ⟨hy, hno⟩
      by_cases hc : S < n ∧ reads.testBit S = true
      · have hv : vStep nr no reads n st 2 D S C = some { st with regs := st.regs.set D (some (unitR n S)), loads := st.loads ||| 1 <<< S } := by simp [vStep, hD, hc.1, hc.2]
        obtain ⟨rfl, k1, k2, k3, k4⟩ := hy hc
        refine ⟨k4.fr hB G.bs G.br G.bk (by omega), fun st' h' => ?_, fun h' => some_none hv h'⟩
        rw [hv] at h'
        injection h' with h'
        subst h'
        refine ⟨rfl, k1, by rw [← somes_set]; exact k2, ?_, k4.row h.hd h.hd.lt (Ne.symm G.n9) (Ne.symm G.n10) G.n4, k4.row h.ho h.ho.lt (Ne.symm G.n7) (Ne.symm G.n8) G.n5, h.ok.set D _ (unitR_length _ _) _, or_lt _ _ h.hl (by have := G.hn; omega)⟩
        have e := layAt_pad sr D (by rw [h.ok.lr]; exact hD) (some (unitR n S)) (fun l hl => by injection hl with hl; rw [← hl, unitR_length]; exact G.hn)
        rw [pad_unit n S G.hn hc.1, bVs_unit] at e
        rw [← e]
        exact k3
      · have hv : vStep nr no reads n st 2 D S C = none := by
          unfold vStep
          rw [if_neg (by decide), if_pos rfl, if_neg (fun h => hc h.2)]
        obtain ⟨rfl, k1, k4⟩ := hno hc
        exact ⟨k4.fr hB G.bs G.br G.bk (by omega), fun st' h' => some_none h' hv, fun _ => ⟨rfl, k1⟩⟩
    · exact gone (by simp [vStep, hD]) (step_far2 gk gr gs go gd nr no reads n at_ st.loads nS cS AS D S C w h.hk (by omega))
  · by_cases hDS : D = S
    · subst hDS
      exact gone (by simp [vStep]) (step_self gk D C w)
    · cases hd : st.regs.getD D none with
      | none =>
        refine gone ?_ (step_mac_no gk gr gs go gd nr no reads n at_ st.loads nS cS AS D S C (somes st.regs) w h.hk h.hs (.inl (noReg_of h.ok hd)) hDS)
        unfold vStep
        rw [if_neg (by decide), if_neg (by decide), if_pos rfl, if_neg hDS, hd]
      | some d =>
        obtain ⟨hD, bD⟩ := isReg_of hd
        rw [h.ok.lr] at hD
        cases hs : st.regs.getD S none with
        | none =>
          refine gone ?_ (step_mac_no gk gr gs go gd nr no reads n at_ st.loads nS cS AS D S C (somes st.regs) w h.hk h.hs (.inr ⟨hD, bD, noReg_of h.ok hs⟩) hDS)
          unfold vStep
          rw [if_neg (by decide), if_neg (by decide), if_pos rfl, if_neg hDS, hd, hs]
        | some s =>
          obtain ⟨hS, bS⟩ := isReg_of hs
          rw [h.ok.lr] at hS
          have hv : vStep nr no reads n st 3 D S C = some { st with regs := st.regs.set D (some (Gf.macL d C s)) } := by
            unfold vStep
            rw [if_neg (by decide), if_neg (by decide), if_pos rfl, if_neg hDS, hd, hs]
          have ln : d.length = n := h.ok.wr _ _ hd
          have lsn : s.length = n := h.ok.wr _ _ hs
          refine (step_mac gk gr gs go gd nr no reads n at_ st.loads nS cS AS D S C (somes st.regs) (flatR st.regs) w h.hk h.hs h.hr lf' G.n1 G.n2 G.n3 hD hS bD bS hDS).mono ?_
          rintro e w' ⟨rfl, k1, k2, k3, k4⟩
          refine ⟨k4.fr hB G.br G.br G.br (by omega), fun st' h' => ?_, fun h' => some_none hv h'⟩
          rw [hv] at h'
          injection h' with h'
          subst h'
          have hml : (Gf.macL d C s).length = n := by rw [macL_length C (ln.trans lsn.symm), ln]
          refine ⟨rfl, k1, ?_, ?_, k4.row h.hd h.hd.lt (Ne.symm G.n10) (Ne.symm G.n10) (Ne.symm G.n10), k4.row h.ho h.ho.lt (Ne.symm G.n8) (Ne.symm G.n8) (Ne.symm G.n8), h.ok.set D _ hml st.loads, h.hl⟩
          · have e : somes (st.regs.set D (some (Gf.macL d C s))) = somes st.regs := by
              rw [← somes_set]
              apply List.ext_getElem?
              intro i
              rw [List.getElem?_set]
              split
              · rename_i hi; subst hi; rw [bD, if_pos (by rw [lb]; exact hD)]
              · rfl
            rw [e]; exact k2
          · have e := layAt_pad sr D (by rw [h.ok.lr]; exact hD) (some (Gf.macL d C s)) (fun l hl => by injection hl with hl; rw [← hl, hml]; exact G.hn)
            rw [pad_mac d s C (ln.trans lsn.symm) (by rw [ln]; exact G.hn)] at e
            rw [seg_flat sr (by rw [h.ok.lr]; exact hD), seg_flat sr (by rw [h.ok.lr]; exact hS), hd, hs] at k3
            rw [← e]
            exact k3
  · cases hs : st.regs.getD S none with
    | none =>
      refine gone ?_ (step_out_no gk gr gs go gd nr no reads n at_ st.loads nS cS AS D S C (somes st.regs) w h.hk h.hs (noReg_of h.ok hs))
      unfold vStep
      rw [if_neg (by decide), if_neg (by decide), if_neg (by decide), if_pos rfl, hs]
    | some s =>
      obtain ⟨hS, bS⟩ := isReg_of hs
      rw [h.ok.lr] at hS
      by_cases hc : D < no ∧ st.outs.getD D none = none
      · have hv : vStep nr no reads n st 4 D S C = some { st with outs := st.outs.set D (some s) } := by
          unfold vStep
          rw [if_neg (by decide), if_neg (by decide), if_neg (by decide), if_pos rfl, hs]
          simp only [if_pos hc]
        have lsn : s.length = n := h.ok.wr _ _ hs
        have bD : (somes st.outs)[D]? = some false := by
          have := hc.2
          rw [List.getD_eq_getElem?_getD, List.getElem?_eq_getElem (by rw [h.ok.lo]; exact hc.1)] at this
          simp only [Option.getD_some] at this
          rw [somes, List.getElem?_map, List.getElem?_eq_getElem (by rw [h.ok.lo]; exact hc.1), this]
          rfl
        refine (step_out gk gr gs go gd nr no reads n at_ st.loads nS cS AS D S C (somes st.regs) (somes st.outs) (flatR st.regs) (flatR st.outs) w h.hk h.hs h.hr lf' h.hd h.ho ld lo' G.n4 G.n5 G.n6 G.n7 G.n8 G.n9 G.n10 hS bS hc.1 bD).mono ?_
        rintro e w' ⟨rfl, k1, k2, k3, k4⟩
        refine ⟨k4.fr hB G.bd G.bo G.bo (by omega), fun st' h' => ?_, fun h' => some_none hv h'⟩
        rw [hv] at h'
        injection h' with h'
        have hok := vStep_ok h.ok (by rw [hv, h'])
        subst h'
        refine ⟨rfl, k1, k4.row h.hs h.hs.lt G.n9 G.n7 G.n7, k4.row h.hr h.hr.lt G.n10 G.n8 G.n8, by rw [← somes_set]; exact k2, ?_, hok, h.hl⟩
        have e := layAt_pad so D (by rw [h.ok.lo]; exact hc.1) (some s) (fun l hl => by injection hl with hl; rw [← hl, lsn]; exact G.hn)
        rw [seg_flat sr (by rw [h.ok.lr]; exact hS), hs] at k3
        rw [← e]
        exact k3
      · refine gone ?_ (step_out_bad gk gr gs go gd nr no reads n at_ st.loads nS cS AS D S C (somes st.regs) (somes st.outs) w h.hk h.hs h.hd hS bS ?_)
        · unfold vStep
          rw [if_neg (by decide), if_neg (by decide), if_neg (by decide), if_pos rfl, hs]
          simp only [if_neg hc]
        · rcases Nat.lt_or_ge D no with hlt | hge
          · refine .inr ⟨hlt, ?_⟩
            cases ho : st.outs.getD D none with
            | none => exact absurd ⟨hlt, ho⟩ hc
            | some l => exact (isReg_of ho).2
          · exact .inl hge
end Go.Proofs.Ythbjcafldbocpaa
namespace Go.Proofs.Ythbjcafldbocpaa
open Go.RowKit
set_option linter.unusedVariables false
set_option linter.unusedSimpArgs false
def PanQ (p : Addr) (ds : List Deferred) (R : World → Prop) (Q : Exit → Act → World → Prop) : Exit → Act → World → Prop
  | .panic c, a, w => c = giveUp ∧ a.tmps[2]? = some (.pointer (some p)) ∧ a.defers = ds ∧ R w
  | e, a, w => Q e a w
theorem PanQ.put {p : Addr} {ds : List Deferred} {R : World → Prop} {Q : Exit → Act → World → Prop} {d : Nat} (hd : d ≠ 2) {v : Value} (c : List PanicEntry) (a : Act) (w : World) (h : PanQ p ds R Q (.panic c) (a.put (some d) v) w) : PanQ p ds R Q (.panic c) a w := by
  obtain ⟨h1, h2, h3, h4⟩ := h
  refine ⟨h1, ?_, h3, h4⟩
  rw [← h2]
  simp only [Act.put]
  rw [Array.getElem?_setIfInBounds_ne hd]
theorem wp_panQ {P : Program} {id : Nat} {ops : Array Oper} {b : Bool} {Q : Exit → Act → World → Prop} {a : Act} {w : World} (p : Addr) (ds : List Deferred) (R : World → Prop) (h : (Code.region id ops b).wp P (PanQ p ds R Q) a w) (hq : ∀ a w, a.tmps[2]? = some (.pointer (some p)) → a.defers = ds → R w → Q (.panic giveUp) a w) : (Code.region id ops b).wp P Q a w := by
  refine Code.wp_mono (fun e a w h => ?_) h
  cases e with
  | panic c => obtain ⟨rfl, h2, h3, h4⟩ := h; exact hq a w h2 h3 h4
  | _ => exact h
theorem door_panic {R : Ending → World → Prop} {a : Act} {w : World} {g : Nat} {u : Value} (ht : a.tmps[2]? = some (.pointer (some ⟨g, 0, none⟩))) (hd : a.defers = [{ target := .fn (Fn.func 63) #[.pointer (some ⟨g, 0, none⟩)], args := #[] }])
    (hr : Row w g 4 [u]) (h : R (.returned (.bool false)) ((w.alloc (.cells #[] 125)).setCell ⟨g, 0, none⟩ (.bool false))) : bodyPostD Try.prog Try.f49 R (.panic giveUp) a w := by
  show Leaves Try.prog Try.f49 a.tmps R a.defers (.panicking giveUp) w
  rw [hd]
  refine leaves_cons (f := 63) (args := #[.pointer (some ⟨g, 0, none⟩)]) (by simp) (by simp [go_sem]) ?_
  refine (catch_panic g w u hr).mono ?_
  rintro e u' w'' ⟨rfl, rfl, rfl⟩
  have hc := ((hr.alloc (.cells #[] 125)).set 0 (.bool false)).cell 0
  simp [Leaves, settle, results, Try.results49, go_sem, ht, hc, h]
theorem door_ret {R : Ending → World → Prop} {a : Act} {w : World} {g : Nat} {b : Bool} (ht : a.tmps[2]? = some (.pointer (some ⟨g, 0, none⟩))) (hd : a.defers = [{ target := .fn (Fn.func 63) #[.pointer (some ⟨g, 0, none⟩)], args := #[] }])
    (hr : Row w g 4 [.bool b]) (h : R (.returned (.bool b)) w) : bodyPostD Try.prog Try.f49 R .ret a w := by
  show Leaves Try.prog Try.f49 a.tmps R a.defers .returning w
  rw [hd]
  refine leaves_cons (f := 63) (args := #[.pointer (some ⟨g, 0, none⟩)]) (by simp) (by simp [go_sem]) ?_
  refine (catch_idle ⟨g, 0, none⟩ w).mono ?_
  rintro e u' w'' ⟨rfl, rfl, rfl⟩
  have hc := hr.cell 0
  simp [Leaves, settle, results, Try.results49, go_sem, ht, hc, h]
end Go.Proofs.Ythbjcafldbocpaa
