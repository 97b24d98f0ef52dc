/- A run of cells of a row written anew; what a looker's step leaves alone. -/
import Derived.Test.YthbjcafldbocpaaVreg
import Derived.Test.YthbjcafldbocpaaMem
import Derived.Laws.IdiomCopy
namespace Go.Proofs.Ythbjcafldbocpaa
open Go.RowKit
set_option linter.unusedVariables false
set_option linter.unusedSimpArgs false

/-- the list with vs laid from place o on -/
def layAt (ys : List Value) (o : Nat) (vs : List Value) : List Value := ys.take o ++ vs ++ ys.drop (o + vs.length)
theorem layAt_length (ys : List Value) (o : Nat) (vs : List Value) (h : o + vs.length ≤ ys.length) : (layAt ys o vs).length = ys.length := by
  simp [layAt]; omega
theorem Row.lay {w : World} {g : Nat} {t : TypeId} {ys : List Value} (h : Row w g t ys) (o : Nat) (vs : List Value) (ho : o + vs.length ≤ ys.length) : Row (w.setCells g o vs) g t (layAt ys o vs) := by
  obtain ⟨cur, h1, h2, h3⟩ := Go.Proofs.YthbjcafldbocpaaW.PrintWords.setCells_row vs o w ys.toArray h (by simpa using ho)
  unfold Row
  rw [h1, show cur = (layAt ys o vs).toArray from Array.toList_inj.1 (by simpa [layAt] using h3)]
theorem Row.farLay {w : World} {g b : Nat} {t : TypeId} {ys : List Value} (h : Row w g t ys) (hne : g ≠ b) (o : Nat) (vs : List Value) : Row (w.setCells b o vs) g t ys :=
  (Go.Proofs.YthbjcafldbocpaaW.PrintWords.setCells_far vs o g hne).trans h

/-- only the blocks a, b, c of those below B have changed -/
structure Chg3 (B a b c : Nat) (w w' : World) : Prop where
  os : w'.os = w.os
  tape : w'.tape = w.tape
  output : w'.output = w.output
  size : w.heap.size ≤ w'.heap.size
  block : ∀ k, k < B → k ≠ a → k ≠ b → k ≠ c → w'.heap[k]? = w.heap[k]?
theorem Chg3.of_below {B a b c : Nat} {w w' : World} (h : Below B w w') : Chg3 B a b c w w' := ⟨h.os, h.tape, h.output, h.size, fun k hk _ _ _ => h.block k hk⟩
theorem Chg3.trans {B a b c : Nat} {w w' w'' : World} (h : Chg3 B a b c w w') (h' : Chg3 B a b c w' w'') : Chg3 B a b c w w'' :=
  ⟨h'.os.trans h.os, h'.tape.trans h.tape, h'.output.trans h.output, Nat.le_trans h.size h'.size, fun k hk x y z => (h'.block k hk x y z).trans (h.block k hk x y z)⟩
theorem Chg3.set {B a b c : Nat} {w w' : World} (h : Chg3 B a b c w w') {g : Nat} (hg : g = a ∨ g = b ∨ g = c ∨ B ≤ g) (i : Nat) (v : Value) : Chg3 B a b c w (w'.setCell ⟨g, i, none⟩ v) :=
  ⟨h.os, h.tape, h.output, by simpa [World.setCell] using h.size, fun k hk x y z => (Below.heap_setCell w' ⟨g, i, none⟩ v k (by rintro rfl; omega)).trans (h.block k hk x y z)⟩
theorem Chg3.lay {B a b c : Nat} {w w' : World} (h : Chg3 B a b c w w') {g : Nat} (hg : g = a ∨ g = b ∨ g = c ∨ B ≤ g) (o : Nat) (vs : List Value) : Chg3 B a b c w (w'.setCells g o vs) := by
  obtain ⟨h1, h2, h3, h4⟩ := Go.Proofs.YthbjcafldbocpaaW.PrintWords.setCells_same g vs o w'
  exact ⟨h1.trans h.os, h2.trans h.tape, h3.trans h.output, by rw [h4]; exact h.size, fun k hk x y z => (Go.Proofs.YthbjcafldbocpaaW.PrintWords.setCells_far vs o k (by rintro rfl; omega)).trans (h.block k hk x y z)⟩
theorem Chg3.drewN {B a b c : Nat} {w w' : World} (h : Chg3 B a b c w w') (n : Nat) : Chg3 B a b c w (w'.drewN n) := ⟨h.os, h.tape, h.output, h.size, h.block⟩
theorem Chg3.row {B a b c : Nat} {w w' : World} (h : Chg3 B a b c w w') {g : Nat} {t : TypeId} {ys : List Value} (hr : Row w g t ys) (hg : g < B) (x : g ≠ a) (y : g ≠ b) (z : g ≠ c) : Row w' g t ys := (h.block g hg x y z).trans hr
end Go.Proofs.Ythbjcafldbocpaa
