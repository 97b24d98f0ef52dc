/- Words for the walks: proofs that stand again and again, each once. -/
import Derived.ArgAppend
import Derived.Below
import Derived.BigQuiet
import Derived.BigRegion
import Derived.ChangeOld
import Derived.Deep.AppendLies
import Derived.Deep.Cut
import Derived.Deep.CutBlock
import Derived.Deep.CutRange
import Derived.Deep.DeepCutAuto
import Derived.Deep.Draws
import Derived.Deep.LoopGhost
import Derived.Deep.OwnRows
import Derived.Deep.QuietTactic
import Derived.Deep.RegionHeld3
import Derived.Deep.WholeRow
import Derived.Ground.SlbCloneProg
import Derived.Ground.SlbNamesProg
import Derived.IntWalk
import Derived.KernelRfl
import Derived.Laws.BitsAllLaws
import Derived.Laws.BitsLemmas
import Derived.Laws.BytesArg
import Derived.Laws.CopyOwn
import Derived.Laws.IdiomCopy
import Derived.Laws.MakeOwn
import Derived.Laws.NewBlocks
import Derived.Laws.OwnMore
import Derived.Laws.Rows
import Derived.Laws.Slices
import Derived.Laws.StructEq
import Derived.Lib.AppendStr
import Derived.Lib.Bytes
import Derived.Lib.ConvBytes
import Derived.Lib.Hide
import Derived.Lib.SmallJoins
import Derived.Maps.AppendAt
import Derived.OpenShut
import Derived.OrdersHeld
import Derived.OwnWalk
import Derived.ProofKit
import Derived.RegionTactic
import Derived.RowKit
import Derived.RowKit3
import Derived.Shelf.Bytes.SlClone
import Derived.Shelf.Bytes.SlJoin
import Derived.SizedLaws
import Derived.Tactics
import Derived.WalkKit
import Derived.WalkLawsBesides
import Derived.WalkMore
import Derived.WalkSpells
import Derived.WideLaws
import Derived.Test.YteofcbkjhdadpaaCBuildFreshw1
namespace Go.Proofs
open Go.RowKit Go.Proofs.aG.aX
theorem gM {Q P : Prop} (a : Q) (h : Q→P:=by intro h_;(with_reducible repeat first | apply aD | apply aH | apply aE);exact h_) : P:=h a
theorem eQ {Q P : Prop} (a : Q) (h : Q→P:=by intro h_;(with_reducible repeat first | apply Kd.cK | apply Kd.cJ | apply Kd.cC);exact h_) : P:=h a
theorem cG {p P : Prop} (a : aA p) (h : aA p→P:=by intro HB;repeat (first | (with_reducible first | exact HB.out | apply fU | apply fV | apply dT) | exact HB.out)) : P:=h a
theorem cE {p p0 P : Prop} (a : aA p) (c0 : aA p0) (h : aA p→aA p0→P:=by intro HB g0;repeat (first | (with_reducible first | exact HB.out | apply fU | apply fV | apply dT | refine eT ?_ g0.out) | exact HB.out)) : P:=h a c0
theorem cR {p p0 p1 P : Prop} (a : aA p) (c0 : aA p0) (c1 : aA p1) (h : aA p→aA p0→aA p1→P:=by intro HB g0 g1;repeat (first | (with_reducible first | exact HB.out | apply fU | apply fV | apply dT | refine eT ?_ g0.out | refine eT ?_ g1.out) | exact HB.out)) : P:=h a c0 c1
theorem jU {p p0 p1 p2 P : Prop} (a : aA p) (c0 : aA p0) (c1 : aA p1) (c2 : aA p2) (h : aA p→aA p0→aA p1→aA p2→P:=by intro HB g0 g1 g2;repeat (first | (with_reducible first | exact HB.out | apply fU | apply fV | apply dT | refine eT ?_ g0.out | refine eT ?_ g1.out | refine eT ?_ g2.out) | exact HB.out)) : P:=h a c0 c1 c2
theorem wL {p p0 p1 p2 p3 P : Prop} (a : aA p) (c0 : aA p0) (c1 : aA p1) (c2 : aA p2) (c3 : aA p3) (h : aA p→aA p0→aA p1→aA p2→aA p3→P:=by intro HB g0 g1 g2 g3;repeat (first | (with_reducible first | exact HB.out | apply fU | apply fV | apply dT | refine eT ?_ g0.out | refine eT ?_ g1.out | refine eT ?_ g2.out | refine eT ?_ g3.out) | exact HB.out)) : P:=h a c0 c1 c2 c3
theorem aWc {p p0 p1 p2 p3 p4 P : Prop} (a : aA p) (c0 : aA p0) (c1 : aA p1) (c2 : aA p2) (c3 : aA p3) (c4 : aA p4) (h : aA p→aA p0→aA p1→aA p2→aA p3→aA p4→P:=by intro HB g0 g1 g2 g3 g4;repeat (first | (with_reducible first | exact HB.out | apply fU | apply fV | apply dT | refine eT ?_ g0.out | refine eT ?_ g1.out | refine eT ?_ g2.out | refine eT ?_ g3.out | refine eT ?_ g4.out) | exact HB.out)) : P:=h a c0 c1 c2 c3 c4
theorem mS {P : Prop} (h : P:=by (try simp only [List.map_toArray,List.map_cons,List.map_nil]);first | done | rfl | (simp only [List.length_drop,List.length_take];rfl)) : P:=h
theorem nL {P : Prop} (h : P:=by first | rfl | (simp;done) | (simp [*];done)) : P:=h
theorem uB {P : Prop} (h : P:=by first | rfl | (simp [errW_none,errW_some] <;> rfl) | (simp [*,errW_none,errW_some] <;> rfl)) : P:=h
theorem MR {P : Prop} (h : P:=by first | exact Kd.AQ _ _ _ _ _ | exact Kd.aRH _ _ _ _ _ | exact Kd.aMW _ _ _ _ _ | exact Kd.aRG _ _ _ _ _ | exact Kd.aRF _ _ _ _ _) : P:=h
theorem mK {P : Prop} (h : P:=by first | (with_reducible assumption) | assumption) : P:=h
theorem q_0 {P : Prop} (h : P:=by repeat (first | exact nX.refl _ | apply nX.step)) : P:=h
theorem q_o {P : Prop} (h : P:=by first | omega | exact Nat.le_refl _) : P:=h
theorem cH {g : Nat} {o : Obj} {w0 w : World} (a : aA (w0.heap[g]? = some o)) (h : w0.heap[g]? = some o→w.heap[g]? = some o:=by intro h_;(with_reducible repeat first | apply aD | apply aH | apply aE);exact h_) : w.heap[g]? = some o:=h a.out
theorem cO {α : Type _} (l : List α) (i : Nat) (a : α) : l.toArray.setIfInBounds i a = (l.set i a).toArray:=List.setIfInBounds_toArray l i a
theorem cL {α : Type _} {x : α} {xs : List α} {a : α} : (x :: xs).set 0 a = a :: xs:=List.set_cons_zero
theorem cP {α : Type _} {x : α} {xs : List α} {i : Nat} {a : α} : (x :: xs).set (i + 1) a = x :: xs.set i a:=List.set_cons_succ
def eH (n k : Nat) : Array Bool:=((List.range n).map fun i => k.testBit i).toArray
theorem bO {w : World} {g : Nat} {cs : Array Value} {t : TypeId} (a : aA (w.heap[g]? = some (.cells cs t (0,0)))) (i : Nat) (v : Value) (e : cs[i]? = some v) : w.cell? ⟨g,i,none⟩ = some v:=(aY a.out i).trans e
theorem pZ {Q P : Prop} (a : Q) (h : Q→P:=by intro h_;repeat (first | exact h_ | (with_reducible refine Kd.aMc ?_ _) | (with_reducible refine Kd.aMb ?_ _) | (with_reducible refine Kd.aOR ?_))) : P:=h a
theorem lK {P : Program} {ops : Array Oper} {rest : List Oper} {o : Oper} {a : Act} {Q : Exit→Act→World→Prop} {W : World} {N : Tmp} {cs : Array Value} {t : TypeId} (h : ∀ g,g = W.heap.size → ∀ w1,w1.heap[g]? = some (.cells cs t (0,0))→Below W.heap.size W w1→wpList P ops Q rest (a.put o.dst (.pointer (some ⟨g,0,none⟩))) w1) (hgd : o.guard = none:=by rfl) (hd : o.dst = some N:=by rfl) (hrun : (execOp a.eval o).run P W = .ok (.value (.pointer (some ⟨W.heap.size,0,none⟩))) (W.alloc (.cells cs t (0,0))):=by first | (go_simp;done) | (go_simp;rfl)) : wpList P ops Q (o :: rest) a W:=aGy hgd hd hrun h
theorem q_j {α : Type} {d : Kd α} {e : Nat} {w : World} {base : Nat} {ok : Nat→Prop} {v : Value} {xs : List α} {g t : Nat} {cells : Array Value} (h : d.R e w base ok v xs) (hb : w.heap[g]? = some (.cells cells t (0,0))) (u0 u1 u2 : Value) (ht : ∀ q,q∈e :: d.E→q≠t:=by decide) : d.R e (((w.setCell ⟨g,0,none⟩ u0).setCell ⟨g,1,none⟩ u1).setCell ⟨g,2,none⟩ u2) base ok v xs:=Kd.cN (Kd.dD (p:=⟨g,2,none⟩) (Kd.dD (p:=⟨g,1,none⟩) (Kd.dD (p:=⟨g,0,none⟩) (Kd.eC h hb ht) (fun _ hk => hk.2) u0) (fun _ hk => hk.2) u1) (fun _ hk => hk.2) u2) (fun _ h_ => h_.1)
theorem wK {g g' : Nat} {W : World} {o : Obj} (hg : g = W.heap.size) (h : W.heap[g']? = some o) : g≠g':=by rw [hg];exact Nat.ne_of_gt (pL h)
theorem wJ {g g' : Nat} {W : World} {o : Obj} (hg : g = W.heap.size) (h : W.heap[g']? = some o) : g'≠g:=by rw [hg];exact Nat.ne_of_lt (pL h)
theorem eW {g : Nat} {w W : World} (hg : g = W.heap.size) (h : Below w.heap.size w W) : w.heap.size≤g:=by rw [hg];exact bU h
end Go.Proofs
