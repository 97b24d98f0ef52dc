/- Words of the kit's print (print.sh), trimmed to what the law BuildFresh wants, laid aGW by program (wip/merge.py of the session's repo). -/
import Derived.Below
import Derived.Deep.Draws
import Derived.Deep.AppendLies
import Derived.Maps.AppendAt
import Derived.OwnWalk
import Derived.Laws.BytesArg
import Derived.Laws.MakeOwn
import Derived.Laws.OwnMore
import Derived.Deep.OwnRows
import Derived.Tactics
import Derived.Lib.ConvBytes
import Derived.Laws.Slices
import Derived.WalkKit
import Derived.KernelRfl
import Derived.RowKit3
import Derived.Deep.LoopGhost
import Derived.Deep.QuietTactic
import Derived.BigQuiet
import Derived.WideLaws
import Derived.Deep.DeepCutAuto
import Derived.Deep.CutBlock
import Derived.Deep.RegionHeld3
import Derived.Laws.Rows
import Derived.Lib.AppendStr
import Derived.ArgAppend
import Derived.Laws.IdiomCopy
import Derived.RowKit
import Derived.OrdersHeld
import Derived.Laws.BitsLemmas
import Derived.Laws.StructEq
set_option linter.unusedSimpArgs false
set_option linter.unusedVariables false
section
namespace Go.Proofs.aG.aX
open Go.RowKit
structure aA (p : Prop) : Prop where mk :: (out : p)
structure nX (w w' : World) : Prop where mk :: (out : ∃ n,w' = w.drewN n)
theorem nX.refl (w : World) : nX w w:=⟨⟨0,rfl⟩⟩
theorem nX.step {w w' : World} (h : nX w w') (n : Nat) : nX w (w'.drewN n):=by
 obtain ⟨m,rfl⟩:=h;exact ⟨⟨m + n,World.drewN_drewN ..⟩⟩
theorem nX.grown {w w' : World} (h : nX w w') : Grown w w':=by
 obtain ⟨n,rfl⟩:=h
 induction n with
 | zero => exact Grown.refl _
 | succ n ih => rw [← World.drew_drewN];exact Grown.drew ih
theorem nX.below {w w' : World} (h : nX w w') : Below w.heap.size w w':=by
 obtain ⟨n,rfl⟩:=h
 induction n with
 | zero => exact Below.refl _ _
 | succ n ih => rw [← World.drew_drewN];exact ih.drew
/-! ### 1. Values and lists -/
def rd (xs : List Int) (i : Int) : Int:=xs.getD i.toNat 0
def bt (s : ByteArray) (i : Int) : Int:=if h : i.toNat < s.size then ((s[i.toNat]'h).toNat : Int) else 0
/-! ### 2. The world -/
theorem fU {w W : World} (h : Below w.heap.size w W) (o : Obj) : Below w.heap.size w (W.alloc o):=h.alloc h.size o
theorem FL {B : Nat} {w W : World} (h : Below B w W) : Below B w W.drew:=⟨h.os,h.tape,h.output,h.size,h.block⟩
theorem fV {B : Nat} {w W : World} (h : Below B w W) (n : Nat) : Below B w (W.drewN n):=⟨h.os,h.tape,h.output,h.size,h.block⟩
theorem aCG {B : Nat} {w w1 w2 : World} (h : Below B w w1) (hB : B≤w1.heap.size) (k : Below w1.heap.size w1 w2) : Below B w w2 :=
 h.trans ⟨k.os,k.tape,k.output,k.size,fun i hi => k.block i (Nat.lt_of_lt_of_le hi hB)⟩
theorem QM {w w1 : World} (h : Below w.heap.size w w1) (row : Option Nat) : w.grownBy w1 row:=⟨h.os,h.tape,h.output,h.size,fun i hi _ => h.block i hi⟩
theorem xZ {w w1 : World} (h : Below w.heap.size w w1) {a : Addr} {v : Value} (hc : w.cell? a = some v) : w1.cell? a = some v:=(h.cell (World.block_lt_of_cell? w a hc)).trans hc
theorem add_plain (g j : Nat) : (⟨g,0,none⟩ : Addr).add j = ⟨g,j,none⟩:=by unfold Addr.add;split <;> simp_all
/-! ### 3. A slice of whole numbers that is read;nil,empty and other slices alike -/
def iB (w : World) (k : IntKind) (A : Option Addr) (n : Nat) (xs : List Int) : Prop :=
 xs.length = n∧n≤9223372036854775807∧(0 < n → ∃ ad,A = some ad ∧ ∀ j,j < n→w.cell? (ad.add j) = some (.int k (xs.getD j 0)))
theorem iB.at_ {w : World} {k : IntKind} {A : Option Addr} {n : Nat} {xs : List Int} (h : iB w k A n xs) (i : Int) (h0 : 0≤i) (h1 : i < n) : ∃ ad,A = some ad∧w.cell? (ad.add i.toNat) = some (.int k (rd xs i)):=by
 obtain ⟨ad,e,hc⟩:=h.2.2 (by omega);exact ⟨ad,e,hc _ (by omega)⟩
theorem iB.below {w w1 : World} {k : IntKind} {A : Option Addr} {n : Nat} {xs : List Int} (h : iB w k A n xs) (hb : Below w.heap.size w w1) : iB w1 k A n xs :=
 ⟨h.1,h.2.1,fun hn => by
  obtain ⟨ad,e,hc⟩:=h.2.2 hn;exact ⟨ad,e,fun j hj => xZ hb (hc j hj)⟩⟩
/-! ### 4. A row of the call's own -/
theorem aKh (W : World) (base : Nat) (e : TypeId) (size : Nat) : W.ownsRow base e size (.slice none 0 0) 0 []:=⟨by simp,.inl ⟨rfl,rfl⟩⟩
theorem BJ {w : World} {base : Nat} {e : TypeId} {size n : Nat} {v : Value} {xs : List Value} (h : w.ownsRow base e size v n xs) (k : Nat) (hk : v.ownBlock = some k) : base≤k:=by
 rcases h.2 with ⟨rfl,_⟩ | ⟨g,cap,cur,rfl,hb,_⟩
 ·simp [Value.ownBlock] at hk
 ·have : g = k:=by simpa [Value.ownBlock] using hk
  omega
theorem aHH {w : World} {base : Nat} {e : TypeId} {size n : Nat} {v : Value} {xs : List Value} (h : w.ownsRow base e size v n xs) (k : Nat) (hk : v.ownBlock = some k) : k < w.heap.size:=by
 rcases h.2 with ⟨rfl,_⟩ | ⟨g,cap,cur,rfl,hb,hh,_⟩
 ·simp [Value.ownBlock] at hk
 ·have : g = k:=by simpa [Value.ownBlock] using hk
  subst this;exact (Array.getElem?_eq_some_iff.1 hh).1
theorem WJ {w w1 : World} {base : Nat} {e : TypeId} {size n : Nat} {v : Value} {xs : List Value} (h : w.ownsRow base e size v n xs) (hb : Below w.heap.size w w1) : w1.ownsRow base e size v n xs :=
 h.kept (QM hb none) (by cases v.ownBlock <;> simp)
theorem aFI {w w1 : World} {base : Nat} {e : TypeId} {size n : Nat} {v : Value} {xs : List Value} (h : w.ownsRow base e size v n xs) {row : Option Nat} (hg : w.grownBy w1 row) (hne : v.ownBlock = none ∨ v.ownBlock≠row) : w1.ownsRow base e size v n xs:=h.kept hg hne
theorem aFH {w : World} {base n : Nat} {e : TypeId} {size : Nat} {v : Value} {xs : List Value} (h : w.ownsRow base e size v n xs) : ∃ A c,v = .slice A n c:=by
 rcases h.2 with ⟨rfl,rfl⟩ | ⟨g,cap,cur,rfl,_⟩
 ·exact ⟨none,0,rfl⟩
 ·exact ⟨_,cap,rfl⟩
/-! ### 5. append(v,x): behind 'at_builtin';the goal's world is 'W.aOB of the variadic's box -/
section
variable {P : Program} {ops : Array Oper} {rest : List Oper} {o : Oper} {a : Act} {Q : Exit→Act→World→Prop}
end
/-! ### 6. make([]T,n),n an Int;a literal -/
section
variable {P : Program}
end
/-! ### 7. v[i] read and v[i] = x,v a row of the call's own: 'obtain ⟨g,cap,rfl,hgb,hgl⟩:=HO.out.form (by omega)' first -/
/-! ### 8. append(v,ys...): ys a slice that is read,nil let in;behind 'at_builtin' -/
section
variable {P : Program} {ops : Array Oper} {rest : List Oper} {o : Oper} {a : Act} {Q : Exit→Act→World→Prop}
end
/-! ### 9. []byte(s): a slice that is read (its row bears a conversion's mark: no row of one's own);cuts of a slice that is read -/
def bytesOf (s : ByteArray) : List Int:=s.data.toList.map fun b => (b.toNat : Int)
theorem iB.gP {w : World} {k : IntKind} {A : Option Addr} {n : Nat} {xs : List Int} (h : iB w k A n xs) (i : Nat) (hi : i≤n) : iB w k A i (xs.take i):=by
 refine ⟨by rw [List.length_take,h.1];omega,by have:=h.2.1;omega,fun hp => ?_⟩;obtain ⟨ad,e,hc⟩:=h.2.2 (by omega);refine ⟨ad,e,fun j hj => ?_⟩;rw [hc j (by omega)]
 simp [List.getD_eq_getElem?_getD,hj]
/-! ### 10. Rounds: more rounds give the same answer;what ends gives a number of rounds -/
def RZ {α : Type} (a b : Option α) : Prop:=∀ r,a = some r→b = some r
theorem RZ.refl {α : Type} (a : Option α) : RZ a a:=fun _ h => h
theorem RZ.none {α : Type} (b : Option α) : RZ Option.none b:=fun _ h => by cases h
theorem RZ.trans {α : Type} {a b c : Option α} (h : RZ a b) (k : RZ b c) : RZ a c:=fun r hr => k r (h r hr)
theorem RZ.bind {α β : Type} {a a' : Option α} {f f' : α→Option β} (h : RZ a a') (k : ∀ x,RZ (f x) (f' x)) : RZ (a.bind f) (a'.bind f'):=by
 intro r hr;obtain ⟨x,hx,hf⟩:=Option.bind_eq_some_iff.1 hr;exact Option.bind_eq_some_iff.2 ⟨x,h x hx,k x r hf⟩
theorem RZ.map {α β : Type} {a a' : Option α} (f : α→β) (h : RZ a a') : RZ (a.map f) (a'.map f):=by
 intro r hr;obtain ⟨x,hx,hf⟩:=Option.map_eq_some_iff.1 hr;exact Option.map_eq_some_iff.2 ⟨x,h x hx,hf⟩
theorem LO {α : Type} {g : Nat→Option α} (h : ∀ k,RZ (g k) (g (k + 1))) (k : Nat) : ∀ j,RZ (g k) (g (k + j))
 | 0 => RZ.refl _
 | j + 1 => (LO h k j).trans (h (k + j))
theorem KV {α : Type} {g : Nat→Option α} (h : ∀ k,RZ (g k) (g (k + 1))) {k k' : Nat} (hk : k≤k') {r : α} (hr : g k = some r) : g k' = some r:=by
 have:=LO h k (k' - k) r hr
 rwa [Nat.add_sub_cancel' hk] at this
theorem aGW {α β : Type} {g : Nat→Option α} {f : Nat→Option β} (hg : ∀ k,RZ (g k) (g (k + 1))) (hf : ∀ k,RZ (f k) (f (k + 1))) {r : α} {q : β} (h : ∃ k,g k = some r) (h' : ∃ k,f k = some q) : ∃ k,g k = some r∧f k = some q:=by
 obtain ⟨k,hk⟩:=h;obtain ⟨k',hk'⟩:=h';exact ⟨max k k',KV hg (Nat.le_max_left _ _) hk,KV hf (Nat.le_max_right _ _) hk'⟩
/-! ### 11. Rows of elements of several cells (structs): read,made. R: what an element's cells say ('RepItem w': printed for each type) -/
def eF {α : Type} (R : α→List Value→Prop) (size : Nat) (ps : List α) (cs : List Value) : Prop :=
 cs.length = ps.length * size ∧ ∀ j p,ps[j]? = some p→R p ((cs.drop (j * size)).take size)
theorem eF.none {α : Type} (R : α→List Value→Prop) (size : Nat) : eF R size [] []:=⟨by simp,fun j p h => by simp at h⟩
theorem eF.snoc {α : Type} {R : α→List Value→Prop} {size : Nat} {ps : List α} {cs c : List Value} {p : α} (h : eF R size ps cs) (hp : R p c) (hc : c.length = size) : eF R size (ps ++ [p]) (cs ++ c):=by
 refine ⟨by rw [List.length_append,h.1,hc,List.length_append,List.length_singleton,Nat.add_mul,Nat.one_mul],fun j q hq => ?_⟩
 rcases Nat.lt_or_ge j ps.length with hj | hj
 ·rw [List.getElem?_append_left hj] at hq
  have h1 : j * size + size≤cs.length:=by rw [h.1,← Nat.succ_mul];exact Nat.mul_le_mul_right _ hj
  have h2:=h.2 j q hq;rw [List.drop_append_of_le_length (by omega),List.take_append_of_le_length (by rw [List.length_drop];omega)];exact h2
 ·have hj' : j = ps.length:=by
   have:=(List.getElem?_eq_some_iff.1 hq).1;rw [List.length_append,List.length_singleton] at this;omega
  subst hj';have hq' : p = q:=by simpa using hq
  subst hq';rw [← h.1,List.drop_left,← hc,List.take_length];exact hp
theorem eF.zY {α : Type} {R R' : α→List Value→Prop} {size : Nat} {ps : List α} {cs : List Value} (h : eF R size ps cs) (hR : ∀ p c,R p c→R' p c) : eF R' size ps cs:=⟨h.1,fun j p hj => hR _ _ (h.2 j p hj)⟩
def kU {α : Type} (R : α→List Value→Prop) (size : Nat) (w : World) (A : Option Addr) (n : Nat) (ps : List α) : Prop :=
 ps.length = n∧n≤9223372036854775807∧(0 < n → ∃ ad,A = some ad ∧ ∀ j p,ps[j]? = some p → ∃ c,c.length = size∧R p c ∧ ∀ i u,c[i]? = some u→w.cell? (ad.add (j * size + i)) = some u)
theorem kU.zY {α : Type} {R R' : α→List Value→Prop} {size : Nat} {w w1 : World} {A : Option Addr} {n : Nat} {ps : List α} (h : kU R size w A n ps) (hb : Below w.heap.size w w1) (hR : ∀ p c,R p c→R' p c) : kU R' size w1 A n ps :=
 ⟨h.1,h.2.1,fun hn => by
  obtain ⟨ad,e,hc⟩:=h.2.2 hn;refine ⟨ad,e,fun j p hj => ?_⟩;obtain ⟨c,hs,hr,hcell⟩:=hc j p hj;exact ⟨c,hs,hR _ _ hr,fun i u hu => xZ hb (hcell i u hu)⟩⟩
theorem SX {α : Type} {R : α→List Value→Prop} {w : World} {base n size : Nat} {e : TypeId} {v : Value} {ps : List α} {cs : List Value} (h : w.ownsRow base e size v n cs) (hR : eF R size ps cs) (hn : ps.length = n) :
  ∃ A c,v = .slice A n c∧kU R size w A n ps:=by
 rcases Nat.eq_zero_or_pos n with h0 | h0
 ·rcases h.2 with ⟨rfl,rfl⟩ | ⟨g,cap,cur,rfl,_⟩
  ·exact ⟨none,0,rfl,hn,by omega,fun hp => absurd hp (by omega)⟩
  ·exact ⟨_,cap,rfl,hn,by omega,fun hp => absurd hp (by omega)⟩
 ·obtain ⟨g,cap,rfl,_,_⟩:=h.form h0
  have hm : n≤9223372036854775807:=by
   rcases h.2 with ⟨_,h1⟩ | ⟨g',cap',cur,he,_,_,h1,h2,_⟩
   ·omega
   ·simp only [maxLen] at h2
    omega
  refine ⟨_,cap,rfl,hn,hm,fun _ => ⟨_,rfl,fun j p hj => ⟨(cs.drop (j * size)).take size,?_,hR.2 j p hj,fun i u hu => ?_⟩⟩⟩
  ·have hjl:=(List.getElem?_eq_some_iff.1 hj).1
   have h1 : j * size + size≤cs.length:=by rw [hR.1,← Nat.succ_mul];exact Nat.mul_le_mul_right _ hjl
   rw [List.length_take,List.length_drop];omega
  ·refine h.cells (g:=g) rfl _ u ?_
   rw [List.getElem?_take] at hu
   split at hu
   ·rw [List.getElem?_drop] at hu
    exact hu
   ·cases hu
section
variable {P : Program} {ops : Array Oper} {rest : List Oper} {o : Oper} {a : Act} {Q : Exit→Act→World→Prop}
theorem vR {w0 W : World} (base : Nat) (hgd : o.guard = none) (s x : Operand) (t e : TypeId) (z : Value) (size bytes : Nat)
  (ho : o.op = .call { callee:=.builtin .append,args:=#[s,x],argTypes:=#[t,t] })
  (ht : P.underlying t = some (.slice e)) (hinfo : (P.info? e).map (fun i => (i.zero,i.size,i.bytes)) = some (some z,size,bytes)) (hz : z.cells.size = size) (hs0 : 0 < size) (hb0 : 0 < bytes)
  (v : Value) (n : Nat) (xs ys : List Value) (hs : a.eval s = v) (hx : a.eval x = .slice (some ⟨W.heap.size,0,none⟩) 1 1) (hys : ys.length = size) (h1 : ∀ u∈ys,u.oneCell' = true)
  (HO : W.ownsRow base e size v n xs) (HB : Below base w0 W) (hbase : base≤W.heap.size) (hl : (n + 1) * bytes≤140737488355328)
  (h : ∀ v1 w1,w1.ownsRow base e size v1 (n + 1) (xs ++ ys)→Below base w0 w1→W.grownBy w1 v.ownBlock→(v1.ownBlock = v.ownBlock ∨ ∃ b,v1.ownBlock = some b∧W.heap.size≤b)→wpList P ops Q rest (a.put o.dst v1) w1) :
  wpList P ops Q (o :: rest) a (W.alloc (.cells ys.toArray e)):=by
 obtain ⟨i0,hi,hzz⟩:=Option.map_eq_some_iff.1 hinfo;simp only [Prod.mk.injEq] at hzz;obtain ⟨hz0,hz1,hz2⟩:=hzz;have hlen : n + 1≤140737488355328:=Nat.le_trans (Nat.le_mul_of_pos_right _ hb0) hl;refine wpList_append_own_at (W.alloc (.cells ys.toArray e)) hgd s x t ho base e i0 z size bytes ht hi hz0 hz1 hz2 hz hs0 v n xs hs (HO.alloc _) ⟨W.heap.size,0,none⟩ 1 1 ys hx (by rw [hys];simp)
  (by simpa using World.news_of_block (cs:=ys.toArray) (t:=e) (fr:=(0,0)) (heap_alloc_new W (.cells ys.toArray e))) h1 (by simp only [maxLen];omega) hl (by simp;omega) ?_
 intro v1 w1 hown hg _ hat;refine h v1 w1 hown ((HB.alloc hbase _).grown hg (by simp;omega) (BJ HO)) (World.grownBy.trans (World.grownBy_alloc W _ _) hg) ?_
 rcases hat with hat | hat
 ·exact .inl hat
 ·exact .inr ⟨_,hat,by simp⟩
end
/-! ### 12. A block of one's own that is a state: its cells,what a store leaves -/
theorem aHF {w : World} {base : Nat} {e t : TypeId} {size n g : Nat} {v : Value} {xs : List Value} {cs : Array Value} (h : w.ownsRow base e size v n xs) (hg : w.heap[g]? = some (.cells cs t (0,0))) (hne : e≠t) : some g≠v.ownBlock:=by
 rcases h.2 with ⟨rfl,_⟩ | ⟨g',cap,cur,rfl,_,hh,_⟩
 ·simp [Value.ownBlock]
 ·intro he
  have : g = g':=by simpa [Value.ownBlock] using he
  subst this;rw [hg] at hh;injection hh with hh;injection hh with _ ht;exact hne ht.symm
theorem aEE {w : World} {g : Nat} {t : TypeId} {cs : Array Value} (h : w.heap[g]? = some (.cells cs t (0,0))) (i : Nat) (u : Value) : (w.setCell ⟨g,i,none⟩ u).heap[g]? = some (.cells (cs.setIfInBounds i u) t (0,0)):=by
 simp [World.setCell,Array.getElem?_modify,h]
theorem bF {w : World} {g : Nat} {t : TypeId} {cs : Array Value} (h : w.heap[g]? = some (.cells cs t (0,0))) {p : Addr} (hp : g≠p.block) (u : Value) : (w.setCell p u).heap[g]? = some (.cells cs t (0,0)):=(Below.heap_setCell w p u g hp).trans h
theorem pL {w : World} {g : Nat} {o : Obj} (h : w.heap[g]? = some o) : g < w.heap.size:=(Array.getElem?_eq_some_iff.1 h).1
theorem aY {w : World} {g : Nat} {t : TypeId} {cs : Array Value} (h : w.heap[g]? = some (.cells cs t (0,0))) (i : Nat) : w.cell? ⟨g,i,none⟩ = cs[i]? := cell_of_row w g i cs t (0,0) h
theorem aC {w : World} {g : Nat} {t : TypeId} {cs : Array Value} (h : w.heap[g]? = some (.cells cs t (0,0))) (i : Nat) : w.frozen? ⟨g,i,none⟩ = false:=by simp [World.frozen?,h]
theorem dJ {w w1 : World} {g : Nat} {o : Obj} {row : Option Nat} (h : w.heap[g]? = some o) (hg : w.grownBy w1 row) (hne : some g≠row) : w1.heap[g]? = some o:=(hg.block g (pL h) hne).trans h
/-! ### 13. Two states at once: what a call on the state at block g (its row before: 'row') has turned -/
def kC (w w' : World) (g : Nat) (row : Option Nat) : Prop:=w.heap.size≤w'.heap.size ∧ ∀ i,i < w.heap.size→i≠g→some i≠row→w'.heap[i]? = w.heap[i]?
theorem kC.refl (w : World) (g : Nat) (row : Option Nat) : kC w w g row:=⟨Nat.le_refl _,fun _ _ _ _ => rfl⟩
theorem kC.trans {w w1 w2 : World} {g : Nat} {row row1 : Option Nat} (h : kC w w1 g row) (k : kC w1 w2 g row1) (hr : row1 = row ∨ ∃ b,row1 = some b∧w.heap.size≤b) : kC w w2 g row :=
 ⟨Nat.le_trans h.1 k.1,fun i hi hg hn => by
  refine (k.2 i (Nat.lt_of_lt_of_le hi h.1) hg ?_).trans (h.2 i hi hg hn)
  rcases hr with rfl | ⟨b,rfl,hb⟩
  ·exact hn
  ·intro e
   injection e with e;omega⟩
theorem kC.blk {w w1 : World} {g g' : Nat} {row : Option Nat} {o : Obj} (h : kC w w1 g row) (hb : w.heap[g']? = some o) (hg : g'≠g) (hr : some g'≠row) : w1.heap[g']? = some o:=(h.2 g' (pL hb) hg hr).trans hb
theorem kC.own {w w1 : World} {g : Nat} {row : Option Nat} {base : Nat} {e : TypeId} {size n : Nat} {v : Value} {xs : List Value} (h : kC w w1 g row) (ho : w.ownsRow base e size v n xs) (hg : v.ownBlock≠some g) (hr : v.ownBlock = none ∨ v.ownBlock≠row) : w1.ownsRow base e size v n xs:=by
 obtain ⟨h1,h2⟩:=ho;refine ⟨h1,?_⟩
 rcases h2 with h2 | ⟨b,cap,cur,rfl,hb,hh,r⟩
 ·exact .inl h2
 ·refine .inr ⟨b,cap,cur,rfl,hb,h.blk hh ?_ ?_,r⟩
  ·intro e
   exact hg (by rw [← e];rfl)
  ·rcases hr with hr | hr
   ·simp [Value.ownBlock] at hr
   ·exact hr
/-! ### 10b. From some number of rounds on -/
def Ev {α : Type} (g : Nat→Option α) (r : α) : Prop:=∃ K,∀ k,K≤k→g k = some r
theorem Ev.of {α : Type} {g : Nat→Option α} {r : α} (hg : ∀ k,RZ (g k) (g (k + 1))) {k : Nat} (h : g k = some r) : Ev g r:=⟨k,fun _ hk => KV hg hk h⟩
theorem Ev.now {α : Type} (r : α) : Ev (fun _ => some r) r:=⟨0,fun _ _ => rfl⟩
theorem Ev.rounds {α : Type} {g : Nat→Option α} {r : α} (h : Ev g r) : ∃ k,g k = some r:=by
 obtain ⟨K,h⟩:=h;exact ⟨K,h K (Nat.le_refl _)⟩
theorem Ev.bind {α β : Type} {g : Nat→Option α} {f : Nat→α→Option β} {a : α} {r : β} (h : Ev g a) (k : Ev (fun n => f n a) r) : Ev (fun n => (g n).bind (f n)) r:=by
 obtain ⟨K,h⟩:=h;obtain ⟨K',k⟩:=k;refine ⟨max K K',fun n hn => ?_⟩;have h1:=h n (by omega);have h2:=k n (by omega);simp only [h1,Option.bind_some];exact h2
theorem Ev.step {α : Type} {g f : Nat→Option α} {r : α} (h : ∀ k,g (k + 1) = f k) (k : Ev f r) : Ev g r:=by
 obtain ⟨K,k⟩:=k;refine ⟨K + 1,fun n hn => ?_⟩;obtain ⟨m,rfl⟩ : ∃ m,n = m + 1:=⟨n - 1,by omega⟩
 rw [h];exact k m (by omega)
theorem Ev.congr {α : Type} {g f : Nat→Option α} {r : α} (h : ∀ k,g k = f k) (k : Ev f r) : Ev g r:=by
 obtain ⟨K,k⟩:=k;exact ⟨K,fun n hn => (h n).trans (k n hn)⟩
/-! ### 14. append as_ one step of a region that draws its order: for 'go_region_law' (and a region walked by hand) -/
section
variable {P : Program} {ops : Array Oper} {o : Oper} {a : Act} {Q : Exit→Act→World→Prop} {K : Act→World→Prop}
end
/-! ### 15. A row's base may be lowered -/
theorem aCk {w : World} {base base' : Nat} {e : TypeId} {size n : Nat} {v : Value} {xs : List Value} (h : w.ownsRow base e size v n xs) (hb : base'≤base) : w.ownsRow base' e size v n xs:=by
 obtain ⟨h1,h2⟩:=h;refine ⟨h1,?_⟩
 rcases h2 with h2 | ⟨g,cap,cur,rfl,hg,r⟩
 ·exact .inl h2
 ·exact .inr ⟨g,cap,cur,rfl,Nat.le_trans hb hg,r⟩
/-! ### 16. Parts 3 to 9 for ANY element of one cell: 'enc' (Value.int k,Value.string,Value.bool),a default 'd' -/
section
variable {α : Type} {enc : α→Value} {d : α}
def wN (enc : α→Value) (xs : List α) : List Value:=xs.map enc
def aHr (d : α) (xs : List α) (i : Int) : α:=xs.getD i.toNat d
theorem LZ (xs : List α) : (wN enc xs).length = xs.length:=by simp [wN]
theorem aIs (xs : List α) (j : Nat) (h : j < xs.length) : (wN enc xs)[j]? = some (enc (xs.getD j d)):=by
 simp [wN,List.getElem?_eq_getElem h,List.getD_eq_getElem?_getD]
def hJ (enc : α→Value) (d : α) (w : World) (A : Option Addr) (n : Nat) (xs : List α) : Prop :=
 xs.length = n∧n≤9223372036854775807∧(0 < n → ∃ ad,A = some ad ∧ ∀ j,j < n→w.cell? (ad.add j) = some (enc (xs.getD j d)))
theorem hJ.at_ {w : World} {A : Option Addr} {n : Nat} {xs : List α} (h : hJ enc d w A n xs) (i : Int) (h0 : 0≤i) (h1 : i < n) : ∃ ad,A = some ad∧w.cell? (ad.add i.toNat) = some (enc (aHr d xs i)):=by
 obtain ⟨ad,e,hc⟩:=h.2.2 (by omega);exact ⟨ad,e,hc _ (by omega)⟩
theorem hJ.below {w w1 : World} {A : Option Addr} {n : Nat} {xs : List α} (h : hJ enc d w A n xs) (hb : Below w.heap.size w w1) : hJ enc d w1 A n xs :=
 ⟨h.1,h.2.1,fun hn => by
  obtain ⟨ad,e,hc⟩:=h.2.2 hn;exact ⟨ad,e,fun j hj => xZ hb (hc j hj)⟩⟩
theorem hJ.gP {w : World} {A : Option Addr} {n : Nat} {xs : List α} (h : hJ enc d w A n xs) (i : Nat) (hi : i≤n) : hJ enc d w A i (xs.take i):=by
 refine ⟨by rw [List.length_take,h.1];omega,by have:=h.2.1;omega,fun hp => ?_⟩;obtain ⟨ad,e,hc⟩:=h.2.2 (by omega);refine ⟨ad,e,fun j hj => ?_⟩;rw [hc j (by omega)]
 simp [List.getD_eq_getElem?_getD,hj]
theorem aFK {W : World} {base g n cap : Nat} {e : TypeId} {xs : List α} (h : W.ownsRow base e 1 (.slice (some ⟨g,0,none⟩) n cap) n (wN enc xs)) (i : Int) (h0 : 0≤i) (h1 : i < n) :
  W.cell? ⟨g,i.toNat,none⟩ = some (enc (aHr d xs i))∧W.frozen? ⟨g,i.toNat,none⟩ = false:=by
 have hl : xs.length = n:=by have:=h.1;simp [wN] at this;exact this
 constructor
 ·have hc:=h.cells (g:=g) rfl i.toNat _ (aIs (d:=d) xs i.toNat (by omega))
  rwa [add_plain] at hc
 ·rcases h.2 with ⟨h',_⟩ | ⟨g',cap',cur,h',_,hh,_⟩
  ·cases h'
  ·have : g = g':=by injection h' with h';injection h' with h';injection h' with h'
   subst this
   simp [World.frozen?,hh]
theorem WN {W : World} {base g n cap : Nat} {e : TypeId} {xs : List α} (h : W.ownsRow base e 1 (.slice (some ⟨g,0,none⟩) n cap) n (wN enc xs)) (i : Int) (x : α) :
  (W.setCell ⟨g,i.toNat,none⟩ (enc x)).ownsRow base e 1 (.slice (some ⟨g,0,none⟩) n cap) n (wN enc (xs.set i.toNat x))∧W.grownBy (W.setCell ⟨g,i.toNat,none⟩ (enc x)) (some g):=by
 have hs:=h.stored i.toNat (enc x);have he : (wN enc xs).set i.toNat (enc x) = wN enc (xs.set i.toNat x):=by simp [wN,List.map_set]
 rwa [he] at hs
end
section
variable {α : Type} {P : Program} {ops : Array Oper} {rest : List Oper} {o : Oper} {a : Act} {Q : Exit→Act→World→Prop}
end
/-! ### 17. Rows of one element type held at once: no two share a block -/
/-! ### 18. A block behind a new one;behind a draw -/
theorem aE {w : World} {g : Nat} {o : Obj} (h : w.heap[g]? = some o) (o' : Obj) : (w.alloc o').heap[g]? = some o:=(Below.heap_alloc w o' g (pL h)).trans h
theorem aH {w : World} {g : Nat} {o : Obj} (h : w.heap[g]? = some o) : w.drew.heap[g]? = some o:=h
theorem aD {w : World} {g : Nat} {o : Obj} (h : w.heap[g]? = some o) (n : Nat) : (w.drewN n).heap[g]? = some o:=h
theorem aM {w w1 : World} {g : Nat} {o : Obj} (h : w.heap[g]? = some o) (hb : Below w.heap.size w w1) : w1.heap[g]? = some o:=(hb.block g (pL h)).trans h
theorem aLG (w : World) (o : Obj) : (w.alloc o).heap[w.heap.size]? = some o:=heap_alloc_new w o
/-! ### 19. Results that lie in memory beside others -/
section
variable {P : Program}
theorem dE {fn : Func} {p u : Tmp} {ty : TypeId} (h : fn.results = #[.cell p ty,.tmp u]) (tmps : Array Value) (w : World) (g : Nat) (t : TypeId) (cs : Array Value) (fr : Nat×Nat) (d : TypeDesc)
  (hp : tmps.getD p undef = .pointer (some ⟨g,0,none⟩)) (hg : w.heap[g]? = some (.cells cs t fr))
  (hu : P.underlying ty = some d) (hd : (match d with | .struct _ | .array _ _ => true | _ => false) = true) (hi : (P.info? ty).map (·.size) = some cs.size) :
  (results fn tmps).run P w = .ok (.tuple #[.agg cs,tmps.getD u undef]) w:=by
 have hp' : tmps[p]?.getD undef = .pointer (some ⟨g,0,none⟩):=by simpa using hp
 simp [results,h,hp',asAddr,run_loadVar_row w g t ty cs fr d hg hu hd hi]
end
/-! ### 20. Rows of elements of any kind: R is what an element's cells say -/
theorem aOa {w : World} {base n m c size : Nat} {e : TypeId} {A : Option Addr} {xs : List Value} (h : w.ownsRow base e size (.slice A m c) n xs) : m≤c:=by
 rcases h.2 with ⟨he,_⟩ | ⟨g,cap,cur,he,_,_,hnc,_⟩
 ·injection he with _ h2 h3
  omega
 ·injection he with _ h2 h3
  omega
def gX {α : Type} (R : α→List Value→Prop) (e : TypeId) (size : Nat) (w : World) (base : Nat) (v : Value) (ps : List α) : Prop :=
 ∃ inner,w.ownsRow base e size v ps.length inner∧eF R size ps inner
section
variable {α : Type} {R R' : α→List Value→Prop} {e : TypeId} {size : Nat} {w w1 : World} {base : Nat} {v : Value} {ps : List α}
theorem gX.none_ (R : α→List Value→Prop) (e : TypeId) (size : Nat) (w : World) (base : Nat) : gX R e size w base (.slice none 0 0) []:=⟨[],aKh _ _ _ _,eF.none _ _⟩
theorem gX.zY (h : gX R e size w base v ps) (hR : ∀ p c,R p c→R' p c) : gX R' e size w base v ps:=by
 obtain ⟨inner,ho,hr⟩:=h;exact ⟨inner,ho,hr.zY hR⟩
theorem gX.below (h : gX R e size w base v ps) (hb : Below w.heap.size w w1) : gX R e size w1 base v ps:=by
 obtain ⟨inner,ho,hr⟩:=h;exact ⟨inner,WJ ho hb,hr⟩
theorem gX.other (h : gX R e size w base v ps) {row : Option Nat} (hg : w.grownBy w1 row) (hne : v.ownBlock = none ∨ v.ownBlock≠row) : gX R e size w1 base v ps:=by
 obtain ⟨inner,ho,hr⟩:=h;exact ⟨inner,aFI ho hg hne,hr⟩
theorem gX.qA (h : gX R e size w base v ps) {g : Nat} {t : TypeId} {cells : Array Value} (hb : w.heap[g]? = some (.cells cells t (0,0))) (ht : e≠t) (hk : kC w w1 g none) : gX R e size w1 base v ps:=by
 obtain ⟨inner,ho,hr⟩:=h;exact ⟨inner,hk.own ho (Ne.symm (aHF ho hb ht)) (by cases v.ownBlock <;> simp),hr⟩
theorem gX.reads (h : gX R e size w base v ps) : ∃ A c,v = .slice A ps.length c∧ps.length≤c∧kU R size w A ps.length ps:=by
 obtain ⟨inner,ho,hr⟩:=h;obtain ⟨A,c,rfl,hrow⟩:=SX ho hr rfl;exact ⟨A,c,rfl,aOa ho,hrow⟩
theorem gX.aHN (h : gX R e size w base v ps) {g : Nat} {t : TypeId} {cells : Array Value} (hb : w.heap[g]? = some (.cells cells t (0,0))) (ht : e≠t) : some g≠v.ownBlock:=by
 obtain ⟨inner,ho,hr⟩:=h;exact aHF ho hb ht
theorem gX.lit (W : World) (base : Nat) {inner : List Value} (hr : eF R size ps inner) (hb : base≤W.heap.size) (hm : ps.length≤9223372036854775807) :
  gX R e size (W.alloc (.cells inner.toArray e)) base (.slice (some ⟨W.heap.size,0,none⟩) ps.length ps.length) ps:=by
 have h:=World.ownsRow_lit (base:=base) (e:=e) (size:=size) W inner.toArray ps.length hb (by simpa [maxLen] using hm) (by simpa using hr.1);exact ⟨inner,by simpa using h,hr⟩
end
section
variable {P : Program} {ops : Array Oper} {rest : List Oper} {o : Oper} {a : Act} {Q : Exit→Act→World→Prop} {α : Type} {R : α→List Value→Prop}
theorem gX.append {w0 W : World} (base : Nat) (hgd : o.guard = none) (s x : Operand) (t e : TypeId) (z : Value) (size bytes : Nat)
  (ho : o.op = .call { callee:=.builtin .append,args:=#[s,x],argTypes:=#[t,t] })
  (ht : P.underlying t = some (.slice e)) (hinfo : (P.info? e).map (fun i => (i.zero,i.size,i.bytes)) = some (some z,size,bytes)) (hz : z.cells.size = size) (hs0 : 0 < size) (hb0 : 0 < bytes)
  (v : Value) (ps : List α) (p : α) (cs : List Value) (hs : a.eval s = v) (hx : a.eval x = .slice (some ⟨W.heap.size,0,none⟩) 1 1) (hp : R p cs) (hcs : cs.length = size) (h1 : ∀ u∈cs,u.oneCell' = true)
  (HO : gX R e size W base v ps) (HB : Below base w0 W) (hbase : base≤W.heap.size) (hl : (ps.length + 1) * bytes≤140737488355328)
  (h : ∀ v1 w1,gX R e size w1 base v1 (ps ++ [p])→Below base w0 w1→W.grownBy w1 v.ownBlock→(v1.ownBlock = v.ownBlock ∨ ∃ b,v1.ownBlock = some b∧W.heap.size≤b)→wpList P ops Q rest (a.put o.dst v1) w1) :
  wpList P ops Q (o :: rest) a (W.alloc (.cells cs.toArray e)):=by
 obtain ⟨inner,hown,hr⟩:=HO;refine vR base hgd s x t e z size bytes ho ht hinfo hz hs0 hb0 v ps.length inner cs hs hx hcs h1 hown HB hbase hl ?_;intro v1 w1 hown1 hb1 hg1 hat1;exact h v1 w1 ⟨inner ++ cs,by rw [List.length_append,List.length_singleton];exact hown1,hr.snoc hp hcs⟩ hb1 hg1 hat1
end
section
variable {P : Program} {ops : Array Oper} {o : Oper} {a : Act} {Q : Exit→Act→World→Prop} {K : Act→World→Prop} {α : Type} {R : α→List Value→Prop}
end
theorem kU.aIb {α : Type} {R : α→List Value→Prop} {size : Nat} {w : World} {ad : Addr} {n : Nat} {ps : List α} (h : kU R size w (some ad) n ps) :
  ∃ inner,eF R size ps inner ∧ ∀ j u,inner[j]? = some u→w.cell? (ad.add j) = some u:=by
 have key : ∀ m,m≤ps.length → ∃ inner,eF R size (ps.take m) inner ∧ ∀ j u,inner[j]? = some u→w.cell? (ad.add j) = some u:=by
  intro m
  induction m with
  | zero => exact fun _ => ⟨[],eF.none _ _,fun j u hu => by simp at hu⟩
  | succ m ih =>
   intro hm;obtain ⟨inner,hr,hc⟩:=ih (by omega);obtain ⟨ad',he,hcell⟩:=h.2.2 (by have:=h.1;omega);injection he with he;subst he;obtain ⟨c,hcl,hp,hcc⟩:=hcell m _ (List.getElem?_eq_getElem (show m < ps.length by omega));refine ⟨inner ++ c,?_,fun j u hu => ?_⟩
   ·rw [List.take_succ_eq_append_getElem (show m < ps.length by omega)]
    exact hr.snoc hp hcl
   ·have hil : inner.length = m * size:=by rw [hr.1,List.length_take,Nat.min_eq_left (by omega)]
    rcases Nat.lt_or_ge j inner.length with hj | hj
    ·rw [List.getElem?_append_left hj] at hu
     exact hc j u hu
    ·rw [List.getElem?_append_right hj] at hu
     have:=hcc (j - inner.length) u hu
     rwa [hil,Nat.add_sub_cancel' (by omega)] at this
 obtain ⟨inner,hr,hc⟩:=key ps.length (Nat.le_refl _);rw [List.take_length] at hr;exact ⟨inner,hr,hc⟩
/-! ### 21. Cuts of a slice that came in,lengths spelled as_ the lists' -/
section
variable {α : Type} {P : Program}
theorem SV (enc : α→Value) (d : α) (t e : TypeId) (kl : IntKind) {i : TypeInfo} (ht : P.underlying t = some (.slice e)) (hi : P.info? e = some i) (hsz : i.size = 1) (A : Option Addr) (c : Nat) (xs : List α) (j : Int) (h0 : 0≤j) (hm : j≤xs.length) (hc : xs.length≤c) :
  (∀ W : World,(Instr.slice t (.slice A xs.length c) none (some (.int kl j)) none).run P W = .ok (.slice A (xs.take j.toNat).length c) W) ∧
   (∀ w : World,hJ enc d w A xs.length xs→hJ enc d w A (xs.take j.toNat).length (xs.take j.toNat))∧(xs.take j.toNat).length≤c:=by
 have hl : (xs.take j.toNat).length = j.toNat:=by rw [List.length_take];omega
 refine ⟨fun W => ?_,fun w h => by rw [hl];exact h.gP j.toNat (by omega),by rw [hl];omega⟩;have hel : P.elem t = e:=by simp [Program.elem,ht]
 have hu : P.underlying t = some (.slice (P.elem t)):=by rw [hel];exact ht
 have ha : (A.map fun x => x.add 0) = A:=by cases A <;> simp [Addr.add]
 rw [run_slice_h W t A xs.length c hu kl j h0 (by omega),hel,hl]
 simp [sizeOf,typeInfo,hi,hsz,sliced,Result.andThen,ha]
end
/-! ### 22. append([]byte,s...),s a string;behind 'at_builtin'. (No word on where the new row lies: two rows of bytes at once don't go by it.) -/
section
variable {P : Program} {ops : Array Oper} {rest : List Oper} {o : Oper} {a : Act} {Q : Exit→Act→World→Prop}
end
/-! ### 23. KINDS: what a value's cells say,read (K) and made (M),kind by kind;every mover proved once -/
structure Kd (α : Type) where
 sz : Nat
 E : List Nat
 K : World→α→List Value→Prop
 M : World→Nat→(Nat→Prop)→α→List Value→Prop
 K_len : ∀ {w x cs},K w x cs→cs.length = sz
 K_one : ∀ {w x cs},K w x cs → ∀ u∈cs,u.oneCell' = true
 K_below : ∀ {w w1 : World} {x cs},Below w.heap.size w w1→K w x cs→K w1 x cs
 K_of_M : ∀ {w base ok x cs},M w base ok x cs→K w x cs
 M_mono : ∀ {w base ok ok' x cs},(∀ k,ok k→ok' k)→M w base ok x cs→M w base ok' x cs
 M_bound : ∀ {w : World} {base ok x cs},M w base ok x cs→M w base (fun k => ok k∧base≤k∧k < w.heap.size ∧ ∃ q,q∈E ∧ ∃ cells,w.heap[k]? = some (.cells cells q (0,0))) x cs
 M_move : ∀ {w w1 : World} {base ok x cs},(∀ k,ok k→w1.heap[k]? = w.heap[k]?)→M w base ok x cs→M w1 base ok x cs
 M_lower : ∀ {w base base' ok x cs},base'≤base→M w base ok x cs→M w base' ok x cs
theorem aHG {w w1 : World} {base : Nat} {e : TypeId} {size n : Nat} {v : Value} {xs : List Value} (h : w.ownsRow base e size v n xs) (hm : ∀ k,v.ownBlock = some k→w1.heap[k]? = w.heap[k]?) : w1.ownsRow base e size v n xs:=by
 obtain ⟨h1,h2⟩:=h;refine ⟨h1,?_⟩
 rcases h2 with h2 | ⟨g,cap,cur,rfl,hg,hh,r⟩
 ·exact .inl h2
 ·exact .inr ⟨g,cap,cur,rfl,hg,(hm g (by simp [Value.ownBlock])).trans hh,r⟩
theorem KH {w : World} {base : Nat} {e : TypeId} {size n : Nat} {v : Value} {xs : List Value} (h : w.ownsRow base e size v n xs) (k : Nat) (hk : v.ownBlock = some k) : ∃ cells,w.heap[k]? = some (.cells cells e (0,0)):=by
 rcases h.2 with ⟨rfl,_⟩ | ⟨g,cap,cur,rfl,hg,hh,r⟩
 ·simp [Value.ownBlock] at hk
 ·have : g = k:=by simpa [Value.ownBlock] using hk
  subst this;exact ⟨cur,hh⟩
namespace Kd
def C {α : Type} (d : Kd α) (w : World) (A : Option Addr) (n : Nat) (xs : List α) : Prop:=kU (d.K w) d.sz w A n xs
def R {α : Type} (d : Kd α) (e : Nat) (w : World) (base : Nat) (ok : Nat→Prop) (v : Value) (xs : List α) : Prop :=
 (∀ k,v.ownBlock = some k→ok k)∧gX (d.M w base (fun k => ok k∧some k≠v.ownBlock)) e d.sz w base v xs
section
variable {α : Type} {d : Kd α} {e : Nat} {w w1 : World} {base : Nat} {ok ok' : Nat→Prop} {v : Value} {xs : List α}
theorem cV {A : Option Addr} {n : Nat} (h : d.C w A n xs) (hb : Below w.heap.size w w1) : d.C w1 A n xs:=kU.zY h hb (fun _ _ hp => d.K_below hb hp)
theorem AQ (d : Kd α) (e : Nat) (w : World) (base : Nat) (ok : Nat→Prop) : d.R e w base ok (.slice none 0 0) []:=⟨fun k hk => by simp [Value.ownBlock] at hk,gX.none_ _ _ _ _ _⟩
theorem cN (h : d.R e w base ok v xs) (hok : ∀ k,ok k→ok' k) : d.R e w base ok' v xs:=⟨fun k hk => hok k (h.1 k hk),h.2.zY (fun _ _ hp => d.M_mono (fun k hk => ⟨hok k hk.1,hk.2⟩) hp)⟩
theorem AF (h : d.R e w base ok v xs) : d.R e w base (fun k => ok k∧base≤k∧k < w.heap.size ∧ ∃ q,q∈e :: d.E ∧ ∃ cells,w.heap[k]? = some (.cells cells q (0,0))) v xs:=by
 obtain ⟨h0,inner,ho,hr⟩:=h;refine ⟨fun k hk => ?_,inner,ho,hr.zY (fun _ _ hp => d.M_mono (fun k hk => ?_) (d.M_bound hp))⟩
 ·obtain ⟨cells,hc⟩:=KH ho k hk
  exact ⟨h0 k hk,BJ ho k hk,aHH ho k hk,e,List.mem_cons_self,cells,hc⟩
 ·obtain ⟨⟨h1,h2⟩,h3,h4,q,hq,hc⟩:=hk
  exact ⟨⟨h1,h3,h4,q,List.mem_cons_of_mem _ hq,hc⟩,h2⟩
theorem RN (h : d.R e w base ok v xs) (hm : ∀ k,ok k→w1.heap[k]? = w.heap[k]?) : d.R e w1 base ok v xs:=by
 obtain ⟨h0,inner,ho,hr⟩:=h;exact ⟨h0,inner,aHG ho (fun k hk => hm k (h0 k hk)),hr.zY (fun _ _ hp => d.M_move (fun k hk => hm k hk.1) hp)⟩
theorem dS {base' : Nat} (h : d.R e w base ok v xs) (hb : base'≤base) : d.R e w base' ok v xs:=by
 obtain ⟨h0,inner,ho,hr⟩:=h;exact ⟨h0,inner,aCk ho hb,hr.zY (fun _ _ hp => d.M_lower hb hp)⟩
theorem aIZ (h : d.R e w base ok v xs) (hm : ∀ k,ok k→k < w.heap.size→w1.heap[k]? = w.heap[k]?) : d.R e w1 base ok v xs :=
 cN (RN (AF h) (fun k hk => hm k hk.1 hk.2.2.1)) (fun _ hk => hk.1)
theorem aJc {x : α} {cs : List Value} (h : d.M w base ok x cs) (hm : ∀ k,ok k→k < w.heap.size→w1.heap[k]? = w.heap[k]?) : d.M w1 base ok x cs :=
 d.M_mono (fun _ hk => hk.1) (d.M_move (fun k hk => hm k hk.1 hk.2.2.1) (d.M_bound h))
theorem cW (h : d.R e w base ok v xs) (hb : Below w.heap.size w w1) : d.R e w1 base ok v xs:=aIZ h (fun k _ hk => hb.block k hk)
theorem aEJ {x : α} {cs : List Value} (h : d.M w base ok x cs) (hb : Below w.heap.size w w1) : d.M w1 base ok x cs:=aJc h (fun k _ hk => hb.block k hk)
theorem dD (h : d.R e w base ok v xs) {p : Addr} (hok : ∀ k,ok k→k≠p.block) (u : Value) : d.R e (w.setCell p u) base ok v xs:=aIZ h (fun k ho _ => Below.heap_setCell w p u k (hok k ho))
theorem eC (h : d.R e w base ok v xs) {g t : Nat} {cells : Array Value} (hb : w.heap[g]? = some (.cells cells t (0,0))) (ht : ∀ q,q∈e :: d.E→q≠t) : d.R e w base (fun k => ok k∧k≠g) v xs :=
 cN (AF h) (fun k hk => ⟨hk.1,by
  obtain ⟨_,_,_,q,hq,cells',hc⟩:=hk;rintro rfl;rw [hc] at hb;injection hb with hb;injection hb with _ hb;exact ht q hq hb⟩)
theorem OU (h : d.R e w base ok v xs) : ∃ A c,v = .slice A xs.length c∧xs.length≤c∧d.C w A xs.length xs:=by
 obtain ⟨A,c,he,hl,hr⟩:=gX.reads h.2;exact ⟨A,c,he,hl,hr.zY (Below.refl _ _) (fun _ _ hp => d.K_of_M hp)⟩
theorem cM (h : d.R e w base ok v xs) : ∃ A c,v = .slice A xs.length c:=by
 obtain ⟨A,c,he,_⟩:=OU h;exact ⟨A,c,he⟩
theorem aEI (h : d.R e w base ok v xs) : ∃ inner,w.ownsRow base e d.sz v xs.length inner:=by
 obtain ⟨_,inner,ho,_⟩:=h;exact ⟨inner,ho⟩
theorem jE (h : d.R e w base ok v xs) {g t : Nat} {cells : Array Value} (hb : w.heap[g]? = some (.cells cells t (0,0))) (ht : e≠t) : some g≠v.ownBlock:=gX.aHN h.2 hb ht
end
/-! #### the kinds -/
def scalar {α : Type} (enc : α→Value) (h1 : ∀ x,(enc x).oneCell' = true) : Kd α where
 sz:=1
 E:=[]
 K:=fun _ x cs => cs = [enc x]
 M:=fun _ _ _ x cs => cs = [enc x]
 K_len:=fun h => by rw [h];rfl
 K_one:=fun h u hu => by
  rw [h] at hu;rw [List.mem_singleton.1 hu];exact h1 _
 K_below:=fun _ h => h
 K_of_M:=fun h => h
 M_mono:=fun _ h => h
 M_bound:=fun h => h
 M_move:=fun _ h => h
 M_lower:=fun _ h => h
def int (k : IntKind) : Kd Int:=scalar (Value.int k) (fun _ => rfl)
def bool : Kd Bool:=scalar Value.bool (fun _ => rfl)
def string : Kd ByteArray:=scalar Value.string (fun _ => rfl)
def slice {α : Type} (e : Nat) (d : Kd α) : Kd (List α) where
 sz:=1
 E:=e :: d.E
 K:=fun w xs cs => ∃ A c,cs = [.slice A xs.length c]∧xs.length≤c∧d.C w A xs.length xs
 M:=fun w base ok xs cs => ∃ v,cs = [v]∧d.R e w base ok v xs
 K_len:=by
  rintro w x cs ⟨A,c,rfl,_⟩;rfl
 K_one:=by
  rintro w x cs ⟨A,c,rfl,_⟩ u hu;rw [List.mem_singleton.1 hu];rfl
 K_below:=by
  rintro w w1 x cs hb ⟨A,c,rfl,hl,hr⟩;exact ⟨A,c,rfl,hl,cV hr hb⟩
 K_of_M:=by
  rintro w base ok x cs ⟨v,rfl,h⟩;obtain ⟨A,c,rfl,hl,hr⟩:=OU h;exact ⟨A,c,rfl,hl,hr⟩
 M_mono:=by
  rintro w base ok ok' x cs hok ⟨v,rfl,h⟩;exact ⟨v,rfl,cN h hok⟩
 M_bound:=by
  rintro w base ok x cs ⟨v,rfl,h⟩;exact ⟨v,rfl,AF h⟩
 M_move:=by
  rintro w w1 base ok x cs hm ⟨v,rfl,h⟩;exact ⟨v,rfl,RN h hm⟩
 M_lower:=by
  rintro w base base' ok x cs hb ⟨v,rfl,h⟩;exact ⟨v,rfl,dS h hb⟩
def bot {α : Type} (sz : Nat) (E : List Nat) : Kd α where
 sz:=sz
 E:=E
 K:=fun _ _ _ => False
 M:=fun _ _ _ _ _ => False
 K_len:=fun h => h.elim
 K_one:=fun h => h.elim
 K_below:=fun _ h => h
 K_of_M:=fun h => h
 M_mono:=fun _ h => h
 M_bound:=fun h => h
 M_move:=fun _ h => h
 M_lower:=fun _ h => h
def upto {α : Type} (F : Kd α→Kd α) (sz : Nat) (E : List Nat) : Nat→Kd α
 | 0 => bot sz E
 | n + 1 => F (upto F sz E n)
/-! #### an element of a row that is read;an element appended -/
theorem aCJ {α : Type} {d : Kd α} {e base : Nat} {ok okp : Nat→Prop} {W w1 : World} {v v1 : Value} {xs : List α} {p : α} {inner cs : List Value} (h0 : ∀ k,v.ownBlock = some k→ok k) (hr : eF (d.M W base (fun k => ok k∧some k≠v.ownBlock)) d.sz xs inner) (hp : d.M W base okp p cs) (hokp : ∀ k,okp k→ok k∧some k≠v.ownBlock) (hfresh : ∀ k,W.heap.size≤k→ok k)
  (hown : w1.ownsRow base e d.sz v1 (xs.length + 1) (inner ++ cs)) (hg : W.grownBy w1 v.ownBlock) (hat : v1.ownBlock = v.ownBlock ∨ ∃ b,v1.ownBlock = some b∧W.heap.size≤b) : d.R e w1 base ok v1 (xs ++ [p]):=by
 have hne : ∀ k,some k≠v.ownBlock→k < W.heap.size→some k≠v1.ownBlock:=by
  intro k hk hlt
  rcases hat with hat | ⟨b,hb,hle⟩
  ·rw [hat];exact hk
  ·rw [hb]
   intro he;injection he with he;omega
 have step : ∀ {q : α} {c : List Value} {o : Nat→Prop},d.M W base o q c→(∀ k,o k→ok k∧some k≠v.ownBlock)→d.M w1 base (fun k => ok k∧some k≠v1.ownBlock) q c:=by
  intro q c o hq ho;have h1:=d.M_move (w1:=w1) (fun k hk => hg.block k hk.2.2.1 (ho k hk.1).2) (d.M_bound hq);exact d.M_mono (fun k hk => ⟨(ho k hk.1).1,hne k (ho k hk.1).2 hk.2.2.1⟩) h1
 refine ⟨fun k hk => ?_,inner ++ cs,by rw [List.length_append,List.length_singleton];exact hown,?_⟩
 ·rcases hat with hat | ⟨b,hb,hle⟩
  ·exact h0 k (hat ▸ hk)
  ·rw [hb] at hk
   injection hk with hk;exact hfresh k (by omega)
 ·exact (hr.zY (fun _ _ hq => step hq (fun _ hk => hk))).snoc (step hp hokp) (d.K_len (d.K_of_M hp))
section
variable {P : Program} {ops : Array Oper} {rest : List Oper} {o : Oper} {a : Act} {Q : Exit→Act→World→Prop} {α : Type}
theorem aBk (d : Kd α) {w0 W : World} (base : Nat) (hgd : o.guard = none) (s x : Operand) (t e : TypeId) (z : Value) (bytes : Nat)
  (ho : o.op = .call { callee:=.builtin .append,args:=#[s,x],argTypes:=#[t,t] })
  (ht : P.underlying t = some (.slice e)) (hinfo : (P.info? e).map (fun i => (i.zero,i.size,i.bytes)) = some (some z,d.sz,bytes)) (hz : z.cells.size = d.sz) (hs0 : 0 < d.sz) (hb0 : 0 < bytes)
  (v : Value) (xs : List α) (p : α) (cs : List Value) (ok okp : Nat→Prop) (hs : a.eval s = v) (hx : a.eval x = .slice (some ⟨W.heap.size,0,none⟩) 1 1) (hp : d.M W base okp p cs) (hokp : ∀ k,okp k→ok k∧some k≠v.ownBlock) (hfresh : ∀ k,W.heap.size≤k→ok k)
  (HO : d.R e W base ok v xs) (HB : Below base w0 W) (hbase : base≤W.heap.size) (hl : (xs.length + 1) * bytes≤140737488355328)
  (h : ∀ v1 w1,d.R e w1 base ok v1 (xs ++ [p])→Below base w0 w1→W.grownBy w1 v.ownBlock→(v1.ownBlock = v.ownBlock ∨ ∃ b,v1.ownBlock = some b∧W.heap.size≤b)→wpList P ops Q rest (a.put o.dst v1) w1) :
  wpList P ops Q (o :: rest) a (W.alloc (.cells cs.toArray e)):=by
 obtain ⟨h0,inner,hown,hr⟩:=HO;refine vR base hgd s x t e z d.sz bytes ho ht hinfo hz hs0 hb0 v xs.length inner cs hs hx (d.K_len (d.K_of_M hp)) (d.K_one (d.K_of_M hp)) hown HB hbase hl ?_;intro v1 w1 hown1 hb1 hg1 hat1;exact h v1 w1 (aCJ h0 hr hp hokp hfresh hown1 hg1 hat1) hb1 hg1 hat1
end
section
variable {P : Program} {ops : Array Oper} {o : Oper} {a : Act} {Q : Exit→Act→World→Prop} {Kc : Act→World→Prop} {α : Type}
end
theorem aAg {α : Type} {enc : α→Value} (xs : List α) : eF (fun (x : α) (cs : List Value) => cs = [enc x]) 1 xs (wN enc xs):=by
 refine ⟨by simp [wN],fun j p hj => ?_⟩;obtain ⟨hl,hp⟩:=List.getElem?_eq_some_iff.1 hj;have hl' : j < (wN enc xs).length:=by rw [LZ];exact hl
 rw [Nat.mul_one,List.drop_eq_getElem_cons hl']
 simp [wN,hp]
theorem tW {α : Type} {enc : α→Value} {h1 : ∀ x,(enc x).oneCell' = true} {e : Nat} {w : World} {base : Nat} {ok : Nat→Prop} {v : Value} {xs : List α} (ho : w.ownsRow base e 1 v xs.length (wN enc xs)) (hok : ∀ k,v.ownBlock = some k→ok k) : (scalar enc h1).R e w base ok v xs:=⟨hok,wN enc xs,ho,aAg xs⟩
theorem GU {α : Type} {enc : α→Value} {h1 : ∀ x,(enc x).oneCell' = true} {e : Nat} {w : World} {base : Nat} {ok : Nat→Prop} {v : Value} {xs : List α} (h : (scalar enc h1).R e w base ok v xs) : w.ownsRow base e 1 v xs.length (wN enc xs):=by
 obtain ⟨_,inner,ho,hr⟩:=h;have : inner = wN enc xs:=by
  apply List.ext_getElem?;intro j
  rcases Nat.lt_or_ge j xs.length with hj | hj
  ·have h2:=hr.2 j _ (List.getElem?_eq_getElem hj)
   have hl : j < inner.length:=by have:=hr.1;simp [scalar] at this;omega
   have h3 : (inner.drop (j * 1)).take 1 = [enc xs[j]]:=h2;rw [Nat.mul_one,List.drop_eq_getElem_cons hl] at h3;have h4 : inner[j] = enc xs[j]:=by
    have h5:=congrArg List.head? h3;rw [List.take_succ_cons] at h5;exact Option.some.inj h5
   rw [List.getElem?_eq_getElem hl,h4]
   simp [wN,List.getElem?_eq_getElem hj]
  ·have h3 : inner.length = xs.length:=by have:=hr.1;simp [scalar] at this;omega
   rw [List.getElem?_eq_none (by omega),List.getElem?_eq_none (by rw [LZ];omega)]
 rw [← this];exact ho
theorem aCN {α : Type} {enc : α→Value} {d : α} {h1 : ∀ x,(enc x).oneCell' = true} {w : World} {A : Option Addr} {n : Nat} {xs : List α} (h : hJ enc d w A n xs) : (scalar enc h1).C w A n xs:=by
 refine ⟨h.1,h.2.1,fun hn => ?_⟩;obtain ⟨ad,e,hc⟩:=h.2.2 hn;refine ⟨ad,e,fun j p hj => ⟨[enc p],rfl,rfl,fun i u hu => ?_⟩⟩;obtain ⟨hl,hp⟩:=List.getElem?_eq_some_iff.1 hj;have h2:=hc j (by have:=h.1;omega);rw [List.getD_eq_getElem?_getD,hj] at h2
 cases i with
 | zero =>
  have : enc p = u:=by simpa using hu
  subst this
  simpa [scalar] using h2
 | succ i => simp at hu
theorem ET {α : Type} {enc : α→Value} {d : α} {h1 : ∀ x,(enc x).oneCell' = true} {w : World} {A : Option Addr} {n : Nat} {xs : List α} (h : (scalar enc h1).C w A n xs) : hJ enc d w A n xs:=by
 refine ⟨h.1,h.2.1,fun hn => ?_⟩;obtain ⟨ad,e,hc⟩:=h.2.2 hn;refine ⟨ad,e,fun j hj => ?_⟩;have hl : j < xs.length:=by have:=h.1;omega
 obtain ⟨c,_,hK,hcell⟩:=hc j _ (List.getElem?_eq_getElem hl);have hK' : c = [enc xs[j]]:=hK;subst hK';have:=hcell 0 _ rfl
 simpa [scalar,List.getD_eq_getElem?_getD,List.getElem?_eq_getElem hl] using this
end Kd
/-! ### 24. Kinds nested in themselves -/
namespace Kd
structure bAX {α β : Type} (F : Kd α→Kd β) : Prop where
 sz : ∀ d d' : Kd α,d.sz = d'.sz→(F d).sz = (F d').sz
 K : ∀ d d' : Kd α,d.sz = d'.sz→(∀ w x cs,d.K w x cs→d'.K w x cs) → ∀ w x cs,(F d).K w x cs→(F d').K w x cs
 M : ∀ d d' : Kd α,d.sz = d'.sz→(∀ w base ok x cs,d.M w base ok x cs→d'.M w base ok x cs) → ∀ w base ok x cs,(F d).M w base ok x cs→(F d').M w base ok x cs
section
variable {α : Type} {F : Kd α→Kd α} {sz : Nat} {E : List Nat} {hs : ∀ n,(upto F sz E n).sz = sz} {hE : ∀ n q,q∈(upto F sz E n).E→q∈E}
theorem bounded {P : Nat→Nat→Prop} (hP : ∀ n m j,n≤m→P n j→P m j) : ∀ m,(∀ j,j < m → ∃ n,P n j) → ∃ N,∀ j,j < m→P N j
 | 0,_ => ⟨0,fun j hj => absurd hj (Nat.not_lt_zero j)⟩
 | m + 1,h => by
  obtain ⟨N,hN⟩:=bounded hP m (fun j hj => h j (by omega));obtain ⟨n,hn⟩:=h m (by omega);refine ⟨max N n,fun j hj => ?_⟩
  rcases Nat.lt_or_ge j m with hj' | hj'
  ·exact hP N _ j (Nat.le_max_left _ _) (hN j hj')
  ·have : j = m:=by omega
   subst this;exact hP n _ j (Nat.le_max_right _ _) hn
end
end Kd
/-! ### 25. What is held while another row is written: 'ok' says that its rows are none of that row's block -/
namespace Kd
theorem uY {α : Type} {d : Kd α} {e base : Nat} {ok : Nat→Prop} {W w1 : World} {u v v1 : Value} {xs : List α} (h : d.R e W base (fun k => ok k∧some k≠v.ownBlock) u xs) (hg : W.grownBy w1 v.ownBlock) (hat : v1.ownBlock = v.ownBlock ∨ ∃ b,v1.ownBlock = some b∧W.heap.size≤b) : d.R e w1 base (fun k => ok k∧some k≠v1.ownBlock) u xs:=by
 refine cN (RN (AF h) (fun k hk => hg.block k hk.2.2.1 hk.1.2)) (fun k hk => ⟨hk.1.1,?_⟩)
 rcases hat with hat | ⟨b,hb,hle⟩
 ·rw [hat];exact hk.1.2
 ·rw [hb]
  intro he;injection he with he;have:=hk.2.2.1;omega
end Kd
/-! ### 26. Words for a printer that takes every slice by its kind -/
namespace Kd
section
variable {α β : Type} {d : Kd α} {d' : Kd β} {e e' : Nat} {w w1 W : World} {base b b' : Nat} {ok ok' okv oku : Nat→Prop} {v u : Value} {xs : List α} {ys : List β}
theorem cK (h : d.R e w base ok v xs) (o : Obj) : d.R e (w.alloc o) base ok v xs:=cW h (fU (Below.refl _ _) o)
theorem cC (h : d.R e w base ok v xs) : d.R e w.drew base ok v xs:=cW h (FL (Below.refl _ _))
theorem cJ (h : d.R e w base ok v xs) (m : Nat) : d.R e (w.drewN m) base ok v xs:=cW h (fV (Below.refl _ _) m)
theorem aMc {A : Option Addr} {n : Nat} (h : d.C w A n xs) (o : Obj) : d.C (w.alloc o) A n xs:=cV h (fU (Below.refl _ _) o)
theorem aOR {A : Option Addr} {n : Nat} (h : d.C w A n xs) : d.C w.drew A n xs:=cV h (FL (Below.refl _ _))
theorem aMb {A : Option Addr} {n : Nat} (h : d.C w A n xs) (m : Nat) : d.C (w.drewN m) A n xs:=cV h (fV (Below.refl _ _) m)
theorem aSr (d : Kd α) (w : World) : d.C w none ([] : List α).length []:=⟨rfl,by simp,fun h => absurd h (Nat.lt_irrefl 0)⟩
theorem cD {A : Option Addr} {n c : Nat} (h : d.R e w base ok (.slice A n c) xs) : n = xs.length∧n≤c∧d.C w A xs.length xs:=by
 obtain ⟨A',c',he,hl,hr⟩:=OU h;injection he with h1 h2 h3;subst h1;exact ⟨h2,by omega,hr⟩
theorem uX (h : d.R e w base ok v xs) : ∀ k,v.ownBlock = some k→k < w.heap.size:=by
 obtain ⟨inner,ho⟩:=aEI h;exact aHH ho
theorem lW (h : d.R e w base ok v xs) : ∀ k,v.ownBlock = some k→base≤k:=by
 obtain ⟨inner,ho⟩:=aEI h;exact BJ ho
theorem AE (h : d.R e w base ok v xs) (hp : 0 < xs.length) : ∃ g cap,v = .slice (some ⟨g,0,none⟩) xs.length cap∧base≤g∧g < w.heap.size ∧ ∃ cells,w.heap[g]? = some (.cells cells e (0,0)):=by
 obtain ⟨inner,ho⟩:=aEI h;obtain ⟨g,cap,he,hb,hl⟩:=ho.form hp;obtain ⟨cells,hc⟩:=KH ho g (by rw [he];simp [Value.ownBlock]);exact ⟨g,cap,he,hb,hl,cells,hc⟩
end
/-! #### scalars -/
section
variable {w W : World} {A : Option Addr} {n : Nat}
theorem nU {k : IntKind} {xs : List Int} (h : (Kd.int k).C w A n xs) (i : Int) (h0 : 0≤i) (h1 : i < n) : ∃ ad,A = some ad∧w.cell? (ad.add i.toNat) = some (.int k (rd xs i)) :=
 hJ.at_ (ET (enc:=Value.int k) (d:=(0 : Int)) (h1:=fun _ => rfl) h) i h0 h1
variable {α : Type} {enc : α→Value} {h1 : ∀ x,(enc x).oneCell' = true} {e base g cap : Nat} {ok : Nat→Prop} {xs : List α}
theorem aOD (d : α) (h : (scalar enc h1).R e W base ok (.slice (some ⟨g,0,none⟩) xs.length cap) xs) (i : Int) (h0 : 0≤i) (hi : i < xs.length) : W.cell? ⟨g,i.toNat,none⟩ = some (enc (aHr d xs i))∧W.frozen? ⟨g,i.toNat,none⟩ = false:=aFK (GU h) i h0 hi
theorem aMX (h : (scalar enc h1).R e W base ok (.slice (some ⟨g,0,none⟩) xs.length cap) xs) (i : Int) (x : α) : (scalar enc h1).R e (W.setCell ⟨g,i.toNat,none⟩ (enc x)) base ok (.slice (some ⟨g,0,none⟩) xs.length cap) (xs.set i.toNat x)∧W.grownBy (W.setCell ⟨g,i.toNat,none⟩ (enc x)) (some g):=by
 obtain ⟨ho,hg⟩:=WN (GU h) i x;exact ⟨tW (by rw [List.length_set];exact ho) h.1,hg⟩
end
/-! #### events: a letter for what make and a literal leave -/
section
variable {P : Program} {ops : Array Oper} {rest : List Oper} {o : Oper} {a : Act} {Q : Exit→Act→World→Prop}
theorem US {W w1 : World} {v : Value} (hgd : o.guard = none) (hrun : (execOp a.eval o).run P W = .ok (.value v) w1) (h : wpList P ops Q rest (a.put o.dst v) w1) : wpList P ops Q (o :: rest) a W:=by
 refine wpList_plain hgd fun K hK => ?_
 unfold Oper.wp;rw [hrun];exact hK _ _ h
variable {α : Type}
theorem aJa (d : Kd α) {w0 W : World} (base e : Nat) (hgd : o.guard = none) {N : Tmp} (_hd : o.dst = some N) {xs : List α} {inner : List Value} {ok okp : Nat→Prop}
  (hrun : (execOp a.eval o).run P W = .ok (.value (.slice (some ⟨W.heap.size,0,none⟩) xs.length xs.length)) (W.alloc (.cells inner.toArray e)))
  (hrep : eF (d.M W base okp) d.sz xs inner) (hok : ∀ k,okp k→ok k) (hfresh : ok W.heap.size) (HB : Below base w0 W) (hbase : base≤W.heap.size) (hm : xs.length≤9223372036854775807)
  (h : ∀ v1 w1,d.R e w1 base ok v1 xs→Below base w0 w1→W.grownBy w1 none→(∃ b,v1.ownBlock = some b∧W.heap.size≤b)→wpList P ops Q rest (a.put o.dst v1) w1) : wpList P ops Q (o :: rest) a W:=by
 refine US hgd hrun (h _ _ ⟨fun k hk => ?_,inner,?_,?_⟩ (HB.alloc hbase _) (World.grownBy_alloc W _ none) ⟨W.heap.size,by simp [Value.ownBlock],Nat.le_refl _⟩)
 ·have : W.heap.size = k:=by simpa [Value.ownBlock] using hk
  subst this;exact hfresh
 ·have h2:=World.ownsRow_lit (base:=base) (e:=e) (size:=d.sz) W inner.toArray xs.length hbase (by simpa [maxLen] using hm) (by simpa using hrep.1)
  simpa using h2
 ·refine hrep.zY (fun p c hp => d.M_mono (fun k hk => ⟨hok k hk.1,fun he => ?_⟩) (aEJ (d.M_bound hp) (fU (Below.refl _ _) _)))
  have h3 : k = W.heap.size:=by simpa [Value.ownBlock] using he
  have:=hk.2.2.1;omega
theorem aFr {α : Type} {R : α→List Value→Prop} {z : Value} {size : Nat} {z0 : α} (hz : z.cells.size = size) (hs : 0 < size) (h0 : R z0 z.cells.toList) (m : Nat) : eF R size (List.replicate m z0) (madeCells z.cells (m * size)).toList:=by
 refine ⟨by simp [size_madeCells],fun j p hj => ?_⟩;obtain ⟨hjl,hp⟩:=List.getElem?_eq_some_iff.1 hj;have hjm : j < m:=by simpa using hjl
 have hp' : z0 = p:=by simpa using hp
 subst hp';have hle : j * size + size≤m * size:=by rw [← Nat.succ_mul];exact Nat.mul_le_mul_right _ hjm
 have : ((madeCells z.cells (m * size)).toList.drop (j * size)).take size = z.cells.toList:=by
  apply List.ext_getElem
  ·simp [size_madeCells,hz]
   omega
  ·intro i h1 h2
   have hi : i < size:=by rw [Array.length_toList,hz] at h2;exact h2
   have hmod : (j * size + i) % size = i:=by
    rw [Nat.mul_comm,Nat.mul_add_mod];exact Nat.mod_eq_of_lt hi
   simp [madeCells,hz,hmod]
   rw [getElem!_pos z.cells i (by omega)]
 rw [this];exact h0
theorem RO (d : Kd α) {w0 W : World} (base e : Nat) (hgd : o.guard = none) {N : Tmp} (hd : o.dst = some N) (t : TypeId) (x y : Operand) (ho : o.op = .makeSlice t x y) (n : Int) (hx : a.eval x = .int .i64 n) (hy : a.eval y = .int .i64 n)
  (ht : P.underlying t = some (.slice e)) (z : Value) (bytes : Nat) (hinfo : (P.info? e).map (fun i => (i.zero,i.size,i.bytes)) = some (some z,d.sz,bytes)) (hz : z.cells.size = d.sz) (hs0 : 0 < d.sz) (hb0 : 0 < bytes)
  (z0 : α) {ok okp : Nat→Prop} (hzero : d.M W base okp z0 z.cells.toList) (hok : ∀ k,okp k→ok k) (hfresh : ok W.heap.size) (h0 : 0≤n) (hl : n.toNat * bytes≤281474976710656) (HB : Below base w0 W) (hbase : base≤W.heap.size)
  (h : ∀ v1 w1,d.R e w1 base ok v1 (List.replicate n.toNat z0)→Below base w0 w1→W.grownBy w1 none→(∃ b,v1.ownBlock = some b∧W.heap.size≤b)→wpList P ops Q rest (a.put o.dst v1) w1) : wpList P ops Q (o :: rest) a W:=by
 obtain ⟨m,rfl⟩:=Int.eq_ofNat_of_zero_le h0;simp only [Int.toNat_natCast] at hl h;obtain ⟨i0,hi,hzz⟩:=Option.map_eq_some_iff.1 hinfo;simp only [Prod.mk.injEq] at hzz;obtain ⟨hz0,hz1,hz2⟩:=hzz;have hm : m≤281474976710656:=Nat.le_trans (Nat.le_mul_of_pos_right _ hb0) hl;have hr:=run_make (P:=P) W t e i0 z ht hi hz0 .i64 .i64 (m : Int) (m : Int) (by omega) (by omega)
  (by
   have h3 : ((i0.bytes * m : Nat) : Int)≤281474976710656:=by rw [hz2,Nat.mul_comm];omega
   rwa [Int.natCast_mul] at h3) (by omega)
 simp only [Int.toNat_natCast] at hr;rw [hz1] at hr;refine aJa d base e hgd hd (xs:=List.replicate m z0) (inner:=(madeCells z.cells (m * d.sz)).toList) (okp:=okp) (ok:=ok) ?_ (aFr hz hs0 hzero m) hok hfresh HB hbase (by simp;omega) h
 simp [execOp,ho,hx,hy,hr]
end
end Kd
/-! ### 27. Cuts of a row of one's own: 'xs = xs[:n]' stays a row (aIY);'xs = xs[k:]' is a row that begins inside its block (Kd.Q),append goes on it too -/
theorem aHD {w : World} {base n m c size : Nat} {e : TypeId} {A : Option Addr} {xs : List Value} (h : w.ownsRow base e size (.slice A n c) n xs) (hm : m≤n) : w.ownsRow base e size (.slice A m c) m (xs.take (m * size)):=by
 obtain ⟨h1,h2⟩:=h;refine ⟨by rw [List.length_take,h1];exact Nat.min_eq_left (Nat.mul_le_mul_right _ hm),?_⟩
 rcases h2 with ⟨he,h0⟩ | ⟨g,cap,cur,he,hb,hh,hnc,hcm,hcs,ht⟩
 ·injection he with ha _ hc
  subst ha;subst hc;exact .inl ⟨by rw [show m = 0 by omega],by omega⟩
 ·injection he with ha _ hc
  subst ha;subst hc;refine .inr ⟨g,c,cur,rfl,hb,hh,by omega,hcm,hcs,?_⟩;rw [← ht,List.take_take,Nat.min_eq_left (Nat.mul_le_mul_right _ hm)]
section
variable {P : Program}
end
def aGB (w : World) (base : Nat) (e : TypeId) (size : Nat) (v : Value) (n : Nat) (xs : List Value) : Prop :=
 xs.length = n * size ∧
 (
  (n = 0 ∧ ∃ A,v = .slice A 0 0 ∧ ∀ a,A = some a→base≤a.block ∧ ∃ cur,w.heap[a.block]? = some (.cells cur e (0,0))) ∨
  ∃ g off cap cur,v = .slice (some ⟨g,off * size,none⟩) n cap∧base≤g∧w.heap[g]? = some (.cells cur e (0,0))∧n≤cap∧off + cap≤maxLen∧cur.size = (off + cap) * size∧(cur.toList.drop (off * size)).take (n * size) = xs)
section
variable {w w1 : World} {base n size : Nat} {e : TypeId} {v : Value} {xs : List Value}
theorem aHt (h : w.ownsRow base e size v n xs) : aGB w base e size v n xs:=by
 obtain ⟨h1,h2⟩:=h;refine ⟨h1,?_⟩
 rcases h2 with ⟨rfl,h0⟩ | ⟨g,cap,cur,rfl,hb,hh,hnc,hcm,hcs,ht⟩
 ·exact .inl ⟨h0,none,rfl,fun a ha => by cases ha⟩
 ·exact .inr ⟨g,0,cap,cur,by rw [Nat.zero_mul],hb,hh,hnc,by rw [Nat.zero_add];exact hcm,by rw [Nat.zero_add];exact hcs,by rw [Nat.zero_mul,List.drop_zero];exact ht⟩
theorem aKa (h : aGB w base e size v n xs) (k : Nat) (hk : v.ownBlock = some k) : base≤k ∧ ∃ cells,w.heap[k]? = some (.cells cells e (0,0)):=by
 rcases h.2 with ⟨_,A,rfl,hA⟩ | ⟨g,off,cap,cur,rfl,hg,hh,r⟩
 ·cases A with
  | none => simp [Value.ownBlock] at hk
  | some a =>
   have : a.block = k:=by simpa [Value.ownBlock] using hk
   subst this;exact hA a rfl
 ·have : g = k:=by simpa [Value.ownBlock] using hk
  subst this;exact ⟨hg,cur,hh⟩
theorem aKb (h : aGB w base e size v n xs) : ∃ A c,v = .slice A n c∧n≤c:=by
 rcases h.2 with ⟨h0,A,rfl,_⟩ | ⟨g,off,cap,cur,rfl,hg,hh,hnc,r⟩
 ·exact ⟨A,0,by rw [h0],by omega⟩
 ·exact ⟨_,cap,rfl,hnc⟩
theorem aPA (h : aGB w base e size v n xs) : n≤9223372036854775807:=by
 rcases h.2 with ⟨h0,_⟩ | ⟨g,off,cap,cur,rfl,hg,hh,hnc,hm,r⟩
 ·omega
 ·simp only [maxLen] at hm
  omega
theorem aIU (g o j : Nat) : (⟨g,o,none⟩ : Addr).add j = ⟨g,o + j,none⟩:=by unfold Addr.add;split <;> simp_all
theorem aDg {A : Option Addr} {c : Nat} (h : aGB w base e size (.slice A n c) n xs) (hn : 0 < n) : ∃ ad,A = some ad ∧ ∀ j u,xs[j]? = some u→w.cell? (ad.add j) = some u:=by
 rcases h.2 with ⟨h0,_⟩ | ⟨g,off,cap,cur,he,hg,hh,hnc,hm,hcs,ht⟩
 ·omega
 ·injection he with ha _ hc
  subst ha;refine ⟨_,rfl,fun j u hu => ?_⟩;rw [aIU,cell_of_row w g _ cur e (0,0) hh];rw [← ht,List.getElem?_take] at hu
  split at hu
  ·rw [List.getElem?_drop] at hu
   rw [← Array.getElem?_toList];exact hu
  ·cases hu
theorem GJ {g : Nat} : ∀ (vs : List Value) (o : Nat) {w : World} (k : Nat),k≠g→(w.setCells g o vs).heap[k]? = w.heap[k]?
 | [],_,_,_,_ => rfl
 | v :: r,o,w,k,hk => by
  rw [World.setCells,GJ r (o + 1) k hk];exact Below.heap_setCell w ⟨g,o,none⟩ v k hk
theorem DZ (g : Nat) : ∀ (vs : List Value) (o : Nat) (w : World),(w.setCells g o vs).os = w.os∧(w.setCells g o vs).tape = w.tape∧(w.setCells g o vs).output = w.output∧(w.setCells g o vs).heap.size = w.heap.size
 | [],_,_ => ⟨rfl,rfl,rfl,rfl⟩
 | v :: r,o,w => by
  obtain ⟨h1,h2,h3,h4⟩:=DZ g r (o + 1) (w.setCell ⟨g,o,none⟩ v);rw [World.setCells];exact ⟨h1,h2,h3,by rw [h4];simp [World.setCell]⟩
theorem GI {g : Nat} {e : TypeId} : ∀ (vs : List Value) (o : Nat) (w : World) (cur : Array Value),w.heap[g]? = some (.cells cur e (0,0))→o + vs.length≤cur.size →
  ∃ cur',(w.setCells g o vs).heap[g]? = some (.cells cur' e (0,0))∧cur'.size = cur.size∧cur'.toList = cur.toList.take o ++ vs ++ cur.toList.drop (o + vs.length)
 | [],o,w,cur,h,_ => ⟨cur,h,rfl,by simp⟩
 | v :: r,o,w,cur,h,hl => by
  have h2:=aEE h o v;simp only [List.length_cons] at hl;obtain ⟨cur',h3,h4,h5⟩:=GI r (o + 1) (w.setCell ⟨g,o,none⟩ v) _ h2 (by simp;omega);refine ⟨cur',h3,by rw [h4];simp,?_⟩;rw [h5,Array.toList_setIfInBounds];have ho : o < cur.toList.length:=by rw [Array.length_toList];omega
  rw [List.take_set,List.drop_set_of_lt (by omega)];simp only [List.length_cons];rw [show o + 1 + r.length = o + (r.length + 1) by omega]
  congr 1
  rw [List.take_succ_eq_append_getElem ho,List.set_append_right _ _ (by rw [List.length_take];omega)];have ho' : o < cur.size:=by omega
  simp [Nat.min_eq_left (Nat.le_of_lt ho')]
end
section
variable {P : Program}
end
/-! ### 28. The kinds' words for cuts: aIY;Q (a row that may begin inside its block) with all of R's movers -/
namespace Kd
theorem aFq {α : Type} {R : α→List Value→Prop} {size m : Nat} {ps : List α} {cs : List Value} (h : eF R size ps cs) (hm : m≤ps.length) : eF R size (ps.take m) (cs.take (m * size)):=by
 refine ⟨by rw [List.length_take,List.length_take,h.1,Nat.min_eq_left hm,Nat.min_eq_left (Nat.mul_le_mul_right _ hm)],fun j p hj => ?_⟩;rw [List.getElem?_take] at hj
 split at hj
 ·rename_i hjm
  have:=h.2 j p hj;have hle : j * size + size≤m * size:=by rw [← Nat.succ_mul];exact Nat.mul_le_mul_right _ hjm
  rw [List.drop_take,List.take_take,Nat.min_eq_left (by omega)];exact this
 ·cases hj
theorem aIY {α : Type} {d : Kd α} {e m n c : Nat} {w : World} {base : Nat} {ok : Nat→Prop} {A : Option Addr} {xs : List α} (h : d.R e w base ok (.slice A n c) xs) (hm : m≤xs.length) : d.R e w base ok (.slice A m c) (xs.take m):=by
 obtain ⟨h0,inner,ho,hr⟩:=h;have hn : n = xs.length:=by
  obtain ⟨A',c',he⟩:=aFH ho;injection he
 subst hn;have hb : ∀ x y : Nat,(Value.slice A x c).ownBlock = (Value.slice A y c).ownBlock:=by
  intro x y
  cases A <;> rfl
 refine ⟨fun k hk => h0 k (by rw [hb _ m];exact hk),inner.take (m * d.sz),?_,?_⟩
 ·rw [List.length_take,Nat.min_eq_left hm]
  exact aHD ho hm
 ·rw [hb m xs.length]
  exact aFq hr hm
def Q {α : Type} (d : Kd α) (e : Nat) (w : World) (base : Nat) (ok : Nat→Prop) (v : Value) (xs : List α) : Prop :=
 (∀ k,v.ownBlock = some k→ok k) ∧ ∃ inner,aGB w base e d.sz v xs.length inner∧eF (d.M w base (fun k => ok k∧some k≠v.ownBlock)) d.sz xs inner
section
variable {α : Type} {d : Kd α} {e : Nat} {w w1 W : World} {base : Nat} {ok ok' : Nat→Prop} {v : Value} {xs : List α}
theorem aOF (h : d.R e w base ok v xs) : d.Q e w base ok v xs:=by
 obtain ⟨h0,inner,ho,hr⟩:=h;exact ⟨h0,inner,aHt ho,hr⟩
theorem aRG (d : Kd α) (e : Nat) (w : World) (base : Nat) (ok : Nat→Prop) : d.Q e w base ok (.slice none 0 0) []:=aOF (AQ d e w base ok)
theorem RQ {A : Option Addr} {n c : Nat} (h : d.Q e w base ok (.slice A n c) xs) : n = xs.length∧n≤c∧d.C w A xs.length xs:=by
 obtain ⟨_,inner,ho,hr⟩:=h;obtain ⟨A',c',he,hl⟩:=aKb ho;injection he with h1 h2 h3;subst h1;subst h2;subst h3;refine ⟨rfl,hl,rfl,aPA ho,fun hp => ?_⟩;obtain ⟨ad,ha,hc⟩:=aDg ho hp;refine ⟨ad,ha,fun j p hj => ⟨(inner.drop (j * d.sz)).take d.sz,?_,d.K_of_M (hr.2 j p hj),fun i u hu => ?_⟩⟩
 ·have hjl:=(List.getElem?_eq_some_iff.1 hj).1
  have h1 : j * d.sz + d.sz≤inner.length:=by rw [hr.1,← Nat.succ_mul];exact Nat.mul_le_mul_right _ hjl
  rw [List.length_take,List.length_drop];omega
 ·refine hc _ u ?_
  rw [List.getElem?_take] at hu
  split at hu
  ·rw [List.getElem?_drop] at hu
   exact hu
  ·cases hu
end
section
variable {P : Program} {ops : Array Oper} {rest : List Oper} {o : Oper} {a : Act} {Q' : Exit→Act→World→Prop} {Kc : Act→World→Prop} {α : Type}
end
end Kd
/-! ### 29. Movers that ask of another row no more than they need: for R and for Q -/
namespace Kd
section
variable {α : Type} {d : Kd α} {e e' : Nat} {w w1 W : World} {base : Nat} {ok : Nat→Prop} {u v : Value} {xs : List α}
theorem xQ (h : d.R e w base ok v xs) : ∀ k,v.ownBlock = some k → ∃ cells,w.heap[k]? = some (.cells cells e (0,0)):=by
 obtain ⟨inner,ho⟩:=aEI h;exact fun k hk => KH ho k hk
theorem AD (h : d.R e W base ok u xs) (hty : ∀ k,v.ownBlock = some k → ∃ cells,W.heap[k]? = some (.cells cells e' (0,0))) (ht : ∀ q,q∈e :: d.E→q≠e') (hg : W.grownBy w1 v.ownBlock) : d.R e w1 base ok u xs:=by
 refine cN (RN (AF h) (fun k hk => hg.block k hk.2.2.1 (fun he => ?_))) (fun _ hk => hk.1);obtain ⟨_,_,_,q,hq,cells,hc⟩:=hk;obtain ⟨cells',hc'⟩:=hty k he.symm;rw [hc] at hc';injection hc' with hc';injection hc' with _ hc';exact ht q hq hc'
theorem gS (hu : d.R e W base ok u xs) (hbase : ∀ k,v.ownBlock = some k→W.heap.size≤k) (hb : Below W.heap.size W w1) : d.R e w1 base (fun k => ok k∧some k≠v.ownBlock) u xs :=
 cN (RN (AF hu) (fun k hk => hb.block k hk.2.2.1)) (fun k hk => ⟨hk.1,fun he => by have:=hbase k he.symm;have:=hk.2.2.1;omega⟩)
theorem mM (h : d.R e w1 W.heap.size ok v xs) (hlt : ∀ k,u.ownBlock = some k→k < W.heap.size) : d.R e w1 W.heap.size (fun k => ok k∧some k≠u.ownBlock) v xs :=
 cN (AF h) (fun k hk => ⟨hk.1,fun he => by have:=hlt k he.symm;have:=hk.2.1;omega⟩)
theorem KM (hlt : ∀ k,u.ownBlock = some k→k < W.heap.size) : ∀ k,W.heap.size≤k→some k≠u.ownBlock:=fun k hk he => by have:=hlt k he.symm;omega
end
end Kd
/-! ### 30. Elements written: x[i] = T{..},x[i].f = v,swaps,in a row of elements of any kind -/
theorem GK {α : Type} (a seg : List α) (o : Nat) (h : o + seg.length≤a.length) (q : Nat) :
  (a.take o ++ seg ++ a.drop (o + seg.length))[q]? = if q < o then a[q]? else if q < o + seg.length then seg[q - o]? else a[q]? := by
 have hl : (a.take o).length = o:=by rw [List.length_take];omega
 rw [List.append_assoc]
 by_cases h1 : q < o
 ·rw [if_pos h1,List.getElem?_append_left (by omega),List.getElem?_take,if_pos h1]
 ·rw [if_neg h1,List.getElem?_append_right (by omega),hl]
  by_cases h2 : q < o + seg.length
  ·rw [if_pos h2,List.getElem?_append_left (by omega)]
  ·rw [if_neg h2,List.getElem?_append_right (by omega),List.getElem?_drop]
   congr 1
   omega
namespace Kd
section
variable {α : Type} {d : Kd α} {e base g n cap : Nat} {ok okp : Nat→Prop} {W : World} {xs : List α}
end
end Kd
/-! ### 31. What came in,put into what is made: 'fixed d w0' (read in w0,whatever happens since),'or_ a b','mix' (a slice that came in,or one that is made) -/
namespace Kd
section
variable {α : Type} {F : Kd α→Kd α} {sz : Nat} {E : List Nat} {hs : ∀ n,(upto F sz E n).sz = sz} {hE : ∀ n q,q∈(upto F sz E n).E→q∈E}
end
end Kd
/-! ### 32. A whole row appended,of elements of any kind;copy onto a row of scalars of one's own -/
namespace Kd
theorem LJ {α : Type} {R : α→List Value→Prop} {size : Nat} {ps qs : List α} {cs ds : List Value} (h : eF R size ps cs) (h' : eF R size qs ds) : eF R size (ps ++ qs) (cs ++ ds):=by
 refine ⟨by rw [List.length_append,List.length_append,h.1,h'.1,Nat.add_mul],fun j p hj => ?_⟩
 rcases Nat.lt_or_ge j ps.length with hlt | hge
 ·rw [List.getElem?_append_left hlt] at hj
  have hle : j * size + size≤cs.length:=by rw [h.1,← Nat.succ_mul];exact Nat.mul_le_mul_right _ hlt
  rw [List.drop_append_of_le_length (by omega),List.take_append_of_le_length (by rw [List.length_drop];omega)];exact h.2 j p hj
 ·rw [List.getElem?_append_right hge] at hj
  have h2:=h'.2 (j - ps.length) p hj;have hle : ps.length * size≤j * size:=Nat.mul_le_mul_right _ hge;rw [List.drop_append,List.drop_eq_nil_of_le (by rw [h.1];exact hle),List.nil_append,h.1,← Nat.sub_mul];exact h2
section
variable {P : Program} {ops : Array Oper} {rest : List Oper} {o : Oper} {a : Act} {Q : Exit→Act→World→Prop} {α : Type}
theorem yJ (d : Kd α) {Rr : α→List Value→Prop} {w0 W : World} (base : Nat) (hgd : o.guard = none) (s x : Operand) (t e : TypeId) (z : Value) (bytes : Nat)
  (ho : o.op = .call { callee:=.builtin .append,args:=#[s,x],argTypes:=#[t,t] })
  (ht : P.underlying t = some (.slice e)) (hinfo : (P.info? e).map (fun i => (i.zero,i.size,i.bytes)) = some (some z,d.sz,bytes)) (hz : z.cells.size = d.sz) (hs0 : 0 < d.sz) (hb0 : 0 < bytes)
  (v : Value) (xs ys : List α) (A : Option Addr) (m c : Nat) (ok okp : Nat→Prop) (hs : a.eval s = v) (hx : a.eval x = .slice A m c)
  (HO : d.R e W base ok v xs) (HR : kU Rr d.sz W A m ys) (hKM : ∀ x cs,Rr x cs→d.M W base okp x cs) (hokp : ∀ k,okp k→ok k∧some k≠v.ownBlock) (hfresh : ∀ k,W.heap.size≤k→ok k)
  (HB : Below base w0 W) (hbase : base≤W.heap.size) (hl : (xs.length + m) * bytes≤140737488355328)
  (h : ∀ v1 w1,d.R e w1 base ok v1 (xs ++ ys)→Below base w0 w1→W.grownBy w1 v.ownBlock→(v1.ownBlock = v.ownBlock ∨ ∃ b,v1.ownBlock = some b∧W.heap.size≤b)→wpList P ops Q rest (a.put o.dst v1) w1) :
  wpList P ops Q (o :: rest) a W:=by
 obtain ⟨i0,hi,hzz⟩:=Option.map_eq_some_iff.1 hinfo;simp only [Prod.mk.injEq] at hzz;obtain ⟨hz0,hz1,hz2⟩:=hzz;have hm : ys.length = m:=HR.1;have hlen : xs.length + m≤140737488355328:=Nat.le_trans (Nat.le_mul_of_pos_right _ hb0) hl;obtain ⟨hok,inner,hown,hr⟩:=HO;have hrun : ∃ v1 w1,(Builtin.append_ #[t,t] o.type #[v,.slice A m c]).run P W = .ok v1 w1∧d.R e w1 base ok v1 (xs ++ ys)∧W.grownBy w1 v.ownBlock∧(v1.ownBlock = v.ownBlock ∨ ∃ b,v1.ownBlock = some b∧W.heap.size≤b):=by
  rcases A with _ | ad
  ·have h0 : m = 0:=by
    rcases Nat.eq_zero_or_pos m with h0 | h0
    ·exact h0
    ·obtain ⟨ad,h,_⟩:=HR.2.2 h0
     cases h
   subst h0;obtain rfl : ys = []:=List.eq_nil_of_length_eq_zero hm;refine ⟨v,W,?_,by rw [List.append_nil];exact ⟨hok,inner,hown,hr⟩,World.grownBy.refl W _,.inl rfl⟩
   rcases hown.2 with ⟨rfl,hn⟩ | ⟨g,cap,cur,rfl,_,_,hnc,_⟩
   ·simp [Builtin.append_,run_underlying ht,sizeOf,typeInfo,hi,Builtin.lenOf,Builtin.firstCells]
   ·simp [Builtin.append_,run_underlying ht,sizeOf,typeInfo,hi,Builtin.lenOf,Builtin.firstCells,hnc,storeCells]
  ·obtain ⟨news,hnr,hnc⟩:=kU.aIb HR
   have hnM : eF (d.M W base okp) d.sz ys news:=hnr.zY (fun p c hp => hKM p c hp);have hone : ∀ u∈news,u.oneCell' = true:=by
    intro u hu;obtain ⟨q,hq,rfl⟩:=List.mem_iff_getElem.1 hu;have hql : q / d.sz < ys.length:=by
     rw [Nat.div_lt_iff_lt_mul hs0];rw [← hnM.1];exact hq
    have hc:=hnM.2 (q / d.sz) _ (List.getElem?_eq_getElem hql);refine d.K_one (d.K_of_M hc) _ ?_;rw [List.mem_iff_getElem?];refine ⟨q % d.sz,?_⟩;rw [List.getElem?_take,if_pos (Nat.mod_lt _ hs0),List.getElem?_drop,Nat.mul_comm,Nat.div_add_mod,List.getElem?_eq_getElem hq]
   obtain ⟨v1,w1,hrun,h2,hg,_,hat⟩:=run_append_own_at (P:=P) W base t o.type e i0 z d.sz bytes ht hi hz0 hz1 hz2 hz hs0 v xs.length inner hown ad m c news (by rw [hnM.1,hm]) hnc hone (by simp only [maxLen];omega) hl hbase;have hat' : v1.ownBlock = v.ownBlock ∨ ∃ b,v1.ownBlock = some b∧W.heap.size≤b:=by
    rcases hat with hat | hat
    ·exact .inl hat
    ·exact .inr ⟨_,hat,Nat.le_refl _⟩
   have hne : ∀ k,some k≠v.ownBlock→k < W.heap.size→some k≠v1.ownBlock:=by
    intro k hk hlt
    rcases hat' with hat | ⟨b,hb,hle⟩
    ·rw [hat];exact hk
    ·rw [hb]
     intro he;injection he with he;omega
   have step : ∀ {q : α} {c : List Value} {o : Nat→Prop},d.M W base o q c→(∀ k,o k→ok k∧some k≠v.ownBlock)→d.M w1 base (fun k => ok k∧some k≠v1.ownBlock) q c:=by
    intro q c o hq ho;have h1:=d.M_move (w1:=w1) (fun k hk => hg.block k hk.2.2.1 (ho k hk.1).2) (d.M_bound hq);exact d.M_mono (fun k hk => ⟨(ho k hk.1).1,hne k (ho k hk.1).2 hk.2.2.1⟩) h1
   refine ⟨v1,w1,hrun,⟨fun k hk => ?_,inner ++ news,by rw [List.length_append,hm];exact h2,LJ (hr.zY (fun _ _ hq => step hq (fun _ hk => hk))) (hnM.zY (fun _ _ hq => step hq hokp))⟩,hg,hat'⟩
   rcases hat' with hat | ⟨b,hb,hle⟩
   ·exact hok k (hat ▸ hk)
   ·rw [hb] at hk
    injection hk with hk;exact hfresh k (by omega)
 obtain ⟨v1,w1,hr1,h1,hg,hat⟩:=hrun;refine wpList_plain hgd fun K hK => ?_
 unfold Oper.wp execOp;simp only [ho,resolve,invoke,builtin,Sem.run_bind,Sem.run_pure,Result.andThen_ok,List.map_toArray,List.map_cons,List.map_nil,hs,hx,hr1];exact hK _ _ (h v1 w1 h1 (HB.grown hg hbase (BJ hown)) hg hat)
end
end Kd
/-! ### 33. A store into a row of one's own,as_ an event: no go_simp -/
namespace Kd
section
variable {P : Program} {ops : Array Oper} {rest : List Oper} {o : Oper} {a : Act} {Q : Exit→Act→World→Prop} {α : Type}
end
end Kd
/-! ### 34. Cuts that are only read,of any row -/
namespace Kd
section
variable {α : Type} {k : Kd α} {w : World} {A : Option Addr} {xs : List α} {m c : Nat}
end
end Kd
section
variable {P : Program}
end
/-! ### 35. string(b),b read (a cut too) -/
theorem MP {P : Program} {w : World} {src dst e : TypeId} {A : Option Addr} {n c : Nat} {xs : List Int} (hs : P.underlying src = some (.slice e)) (he : P.underlying e = some (.int .u8)) (hd : P.underlying dst = some .string)
  (h : iB w .u8 A n xs) : (convert src dst (.slice A n c)).run P w = .ok (.string (strOfNums xs)) w:=by
 have hn : xs.length = n:=h.1
 rcases A with _ | ad
 ·have h0 : n = 0:=by
   rcases Nat.eq_zero_or_pos n with h0 | h0
   ·exact h0
   ·obtain ⟨ad,h',_⟩:=h.2.2 h0
    cases h'
  subst h0;obtain rfl : xs = []:=List.eq_nil_of_length_eq_zero hn;exact run_convert_bytes_nil w src e hs he 0 c dst hd
 ·have hl : (loadCells ad n).run P w = .ok (xs.map (Value.int .u8)).toArray w:=by
   have:=run_loadCells_list (P:=P) w ad (xs.map (Value.int .u8)) (fun j v hj => by
    have hjl : j < xs.length:=by
     rcases Nat.lt_or_ge j xs.length with h' | h'
     ·exact h'
     ·rw [List.getElem?_eq_none (by rw [List.length_map];exact h')] at hj
      cases hj
    obtain ⟨ad',he',hc⟩:=h.2.2 (by omega);injection he' with he';subst he';rw [hc j (by omega)];rw [List.getElem?_map,List.getElem?_eq_getElem hjl] at hj
    simp at hj
    subst hj
    simp [List.getD_eq_getElem?_getD,List.getElem?_eq_getElem hjl])
   simpa [hn] using this
  rw [run_convert_bytes_string w src dst e _ n c hs he hd,run_bytesToString w ad n c xs hl,foldl_push_bytes]
  simp [strOfNums,ByteArray.empty,ByteArray.emptyWithCapacity]
  rfl
theorem Kd.aBv {P : Program} {w : World} {src dst e : TypeId} {A : Option Addr} {n c : Nat} {xs : List Int} (hs : P.underlying src = some (.slice e)) (he : P.underlying e = some (.int .u8)) (hd : P.underlying dst = some .string)
  (h : (Kd.int .u8).C w A n xs) : (convert src dst (.slice A n c)).run P w = .ok (.string (strOfNums xs)) w :=
 MP hs he hd (Kd.ET (enc:=Value.int .u8) (d:=(0 : Int)) (h1:=fun _ => rfl) h)
/-! ### 6. What the printer adds -/
theorem bU {w W : World} (h : Below w.heap.size w W) : w.heap.size≤W.heap.size:=h.size
theorem aQ {w W w2 : World} (h : Below w.heap.size w W) (k : Below W.heap.size W w2) : Below w.heap.size w w2:=aCG h h.size k
theorem iB.nil (W : World) (k : IntKind) : iB W k none ([] : List Int).length []:=⟨rfl,by simp,fun h => absurd h (Nat.lt_irrefl 0)⟩
theorem iB.drewN {W : World} {k : IntKind} {A : Option Addr} {n : Nat} {xs : List Int} (h : iB W k A n xs) (m : Nat) : iB (W.drewN m) k A n xs:=h
theorem eT {w W : World} {g j : Nat} {v : Value} (h : Below w.heap.size w W) (hg : w.heap.size≤g) : Below w.heap.size w (W.setCell ⟨g,j,none⟩ v):=h.setCell hg _
theorem UE {w W : World} {g : Nat} (h : kC w W g none) {a : Addr} {v : Value} (hc : w.cell? a = some v) (hne : a.block≠g) : W.cell? a = some v:=by
 have:=h.2 a.block (World.block_lt_of_cell? w a hc) hne (by simp)
 simpa [World.cell?,this] using hc
theorem VB (a : Addr) (i : Nat) : (a.add i).block = a.block:=by unfold Addr.add;split <;> rfl
theorem hJ.nil {α : Type} (enc : α→Value) (d : α) (W : World) : hJ enc d W none ([] : List α).length []:=⟨rfl,by simp,fun h => absurd h (Nat.lt_irrefl 0)⟩
theorem hJ.drewN {α : Type} {enc : α→Value} {d : α} {W : World} {A : Option Addr} {n : Nat} {xs : List α} (h : hJ enc d W A n xs) (m : Nat) : hJ enc d (W.drewN m) A n xs:=h
theorem iB.qA {w W : World} {k : IntKind} {A : Option Addr} {n g : Nat} {xs : List Int} (h : iB w k A n xs) (hk : kC w W g none) (hf : ∀ ad,A = some ad→0 < n→ad.block≠g) : iB W k A n xs :=
 ⟨h.1,h.2.1,fun hn => by
  obtain ⟨ad,e,hc⟩:=h.2.2 hn;exact ⟨ad,e,fun j hj => UE hk (hc j hj) (by rw [VB];exact hf ad e hn)⟩⟩
theorem hJ.qA {α : Type} {enc : α→Value} {d : α} {w W : World} {A : Option Addr} {n g : Nat} {xs : List α} (h : hJ enc d w A n xs) (hk : kC w W g none) (hf : ∀ ad,A = some ad→0 < n→ad.block≠g) : hJ enc d W A n xs :=
 ⟨h.1,h.2.1,fun hn => by
  obtain ⟨ad,e,hc⟩:=h.2.2 hn;exact ⟨ad,e,fun j hj => UE hk (hc j hj) (by rw [VB];exact hf ad e hn)⟩⟩
theorem cell_far {W : World} {p a : Addr} (h : a.block≠p.block) (u : Value) : (W.setCell p u).cell? a = W.cell? a:=by
 have:=Below.heap_setCell W p u a.block h
 simp [World.cell?,this]
theorem bA {w : World} {g : Nat} {t : TypeId} {cs cs' : Array Value} (h : w.heap[g]? = some (.cells cs t (0,0))) (i : Nat) (u : Value) (e : cs.setIfInBounds i u = cs') : (w.setCell ⟨g,i,none⟩ u).heap[g]? = some (.cells cs' t (0,0)):=e ▸ aEE h i u
theorem dT {base : Nat} {w W : World} (h : Below base w W) : Below base w W.drew:=h.drew
namespace Kd
section
variable {α β : Type} {d : Kd α} {d' : Kd β} {e e' base base' n : Nat} {ok ok' : Nat→Prop} {w W w1 W1 : World} {v u : Value} {xs : List α} {ys : List β} {A : Option Addr} {c : Nat}
end
section
variable {α : Type} {enc : α→Value} {h1 : ∀ x,(enc x).oneCell' = true} {w W : World} {A : Option Addr} {n g : Nat} {xs : List α}
end
end Kd
namespace Kd
section
variable {α : Type} {d : Kd α} {e base g : Nat} {ok : Nat→Prop} {w w1 : World} {v : Value} {xs : List α} {o : Obj}
theorem YR (hb : w.heap[g]? = some o) : ∀ k,w.heap.size≤k→k≠g:=fun k hk => by have:=pL hb;omega
end
end Kd
section
variable {P : Program} {ops : Array Oper} {rest : List Oper} {o : Oper} {a : Act} {Q : Exit→Act→World→Prop}
theorem aGy {W : World} (hgd : o.guard = none) {N : Tmp} (_hd : o.dst = some N) {cs : Array Value} {t : TypeId}
  (hrun : (execOp a.eval o).run P W = .ok (.value (.pointer (some ⟨W.heap.size,0,none⟩))) (W.alloc (.cells cs t (0,0))))
  (h : ∀ g,g = W.heap.size → ∀ w1,w1.heap[g]? = some (.cells cs t (0,0))→Below W.heap.size W w1→wpList P ops Q rest (a.put o.dst (.pointer (some ⟨g,0,none⟩))) w1) : wpList P ops Q (o :: rest) a W :=
 Kd.US hgd hrun (h _ rfl _ (aLG W _) (fU (Below.refl _ _) _))
end
namespace Kd
section
variable {α : Type} {enc : α→Value} {h1 : ∀ x,(enc x).oneCell' = true} {e base g n cap : Nat} {ok : Nat→Prop} {W : World} {xs : List α}
theorem nG (d : α) (h : (scalar enc h1).R e W base ok (.slice (some ⟨g,0,none⟩) n cap) xs) (i : Int) (h0 : 0≤i) (hi : i < n) : W.cell? ⟨g,i.toNat,none⟩ = some (enc (aHr d xs i))∧W.frozen? ⟨g,i.toNat,none⟩ = false:=by
 obtain ⟨rfl,_⟩:=cD h;exact aOD d h i h0 hi
theorem KX (h : (scalar enc h1).R e W base ok (.slice (some ⟨g,0,none⟩) n cap) xs) (i : Int) (x : α) : (scalar enc h1).R e (W.setCell ⟨g,i.toNat,none⟩ (enc x)) base ok (.slice (some ⟨g,0,none⟩) n cap) (xs.set i.toNat x):=by
 obtain ⟨rfl,_⟩:=cD h;exact (aMX h i x).1
end
end Kd
section
variable {P : Program} {ops : Array Oper} {rest : List Oper} {o : Oper} {a : Act} {Q : Exit→Act→World→Prop}
theorem tL {W w1 : World} (hgd : o.guard = none) {t : TypeId} {p : Tmp} {v : Operand} (_ho : o.op = .store t (.tmp p) v) (hN : o.dst = none)
  (hrun : (execOp a.eval o).run P W = .ok .skip w1) (h : ∀ w',w' = w1→wpList P ops Q rest a w') : wpList P ops Q (o :: rest) a W:=by
 refine wpList_plain hgd fun K hK => ?_
 unfold Oper.wp;rw [hrun];show K (a.put o.dst undef) w1;rw [hN];exact hK _ _ (h _ rfl)
end
namespace Kd
section
variable {α : Type} {enc : α→Value} {h1 : ∀ x,(enc x).oneCell' = true} {e base g n cap : Nat} {ok : Nat→Prop} {W : World} {xs : List α}
theorem RM (h : (scalar enc h1).R e W base ok (.slice (some ⟨g,0,none⟩) n cap) xs) (i : Int) (x : α) : (scalar enc h1).R e (W.setCell ⟨g,i.toNat,none⟩ (enc x)) base ok (.slice (some ⟨g,0,none⟩) n cap) (xs.set i.toNat x)∧W.grownBy (W.setCell ⟨g,i.toNat,none⟩ (enc x)) (some g):=by
 obtain ⟨rfl,_⟩:=cD h;exact aMX h i x
end
end Kd
section
variable {P : Program} {ops : Array Oper} {rest : List Oper} {o : Oper} {a : Act} {Q : Exit→Act→World→Prop} {W : World}
theorem bH {N : Tmp} (_hN : o.dst = some N) (h : wpList P ops Q (o :: rest) a W) : wpList P ops Q (o :: rest) a W:=h
theorem vX {t : TypeId} {p : Tmp} {v : Operand} (_ho : o.op = .store t (.tmp p) v) (h : wpList P ops Q (o :: rest) a W) : wpList P ops Q (o :: rest) a W:=h
end
/-! ### 36. Events as_ one step of a region that draws (for DS,aPo,aNE) -/
section
variable {P : Program} {ops : Array Oper} {o : Oper} {a : Act} {Q : Exit→Act→World→Prop} {Kc : Act→World→Prop}
theorem aCw {W w1 : World} {v : Value} (hw : Region.wanted o (yielded ops a.tmps) = true) (hrun : (execOp a.eval o).run P W = .ok (.value v) w1) (h : Kc (a.put o.dst v) w1) : if Region.wanted o (yielded ops a.tmps) = true then Oper.wp P o a W Kc Q else Kc (a.put o.dst undef) W:=by
 rw [if_pos hw];unfold Oper.wp;rw [hrun];exact h
namespace Kd
variable {α : Type}
theorem RP (d : Kd α) {w0 W : World} (base e : Nat) (hw : Region.wanted o (yielded ops a.tmps) = true) {N : Tmp} (_hd : o.dst = some N) {xs : List α} {inner : List Value} {ok okp : Nat→Prop}
  (hrun : (execOp a.eval o).run P W = .ok (.value (.slice (some ⟨W.heap.size,0,none⟩) xs.length xs.length)) (W.alloc (.cells inner.toArray e)))
  (hrep : eF (d.M W base okp) d.sz xs inner) (hok : ∀ k,okp k→ok k) (hfresh : ok W.heap.size) (HB : Below base w0 W) (hbase : base≤W.heap.size) (hm : xs.length≤9223372036854775807)
  (h : ∀ v1 w1,d.R e w1 base ok v1 xs→Below base w0 w1→W.grownBy w1 none→(∃ b,v1.ownBlock = some b∧W.heap.size≤b)→Kc (a.put o.dst v1) w1) : if Region.wanted o (yielded ops a.tmps) = true then Oper.wp P o a W Kc Q else Kc (a.put o.dst undef) W:=by
 refine aCw hw hrun (h _ _ ⟨fun k hk => ?_,inner,?_,?_⟩ (HB.alloc hbase _) (World.grownBy_alloc W _ none) ⟨W.heap.size,by simp [Value.ownBlock],Nat.le_refl _⟩)
 ·have : W.heap.size = k:=by simpa [Value.ownBlock] using hk
  subst this;exact hfresh
 ·have h2:=World.ownsRow_lit (base:=base) (e:=e) (size:=d.sz) W inner.toArray xs.length hbase (by simpa [maxLen] using hm) (by simpa using hrep.1)
  simpa using h2
 ·refine hrep.zY (fun p c hp => d.M_mono (fun k hk => ⟨hok k hk.1,fun he => ?_⟩) (aEJ (d.M_bound hp) (fU (Below.refl _ _) _)))
  have h3 : k = W.heap.size:=by simpa [Value.ownBlock] using he
  have:=hk.2.2.1;omega
theorem pM (d : Kd α) {Rr : α→List Value→Prop} {w0 W : World} (base : Nat) (hw : Region.wanted o (yielded ops a.tmps) = true) (s x : Operand) (t e : TypeId) (z : Value) (bytes : Nat)
  (ho : o.op = .call { callee:=.builtin .append,args:=#[s,x],argTypes:=#[t,t] })
  (ht : P.underlying t = some (.slice e)) (hinfo : (P.info? e).map (fun i => (i.zero,i.size,i.bytes)) = some (some z,d.sz,bytes)) (hz : z.cells.size = d.sz) (hs0 : 0 < d.sz) (hb0 : 0 < bytes)
  (v : Value) (xs ys : List α) (A : Option Addr) (m c : Nat) (ok okp : Nat→Prop) (hs : a.eval s = v) (hx : a.eval x = .slice A m c)
  (HO : d.R e W base ok v xs) (HR : kU Rr d.sz W A m ys) (hKM : ∀ x cs,Rr x cs→d.M W base okp x cs) (hokp : ∀ k,okp k→ok k∧some k≠v.ownBlock) (hfresh : ∀ k,W.heap.size≤k→ok k)
  (HB : Below base w0 W) (hbase : base≤W.heap.size) (hl : (xs.length + m) * bytes≤140737488355328)
  (h : ∀ v1 w1,d.R e w1 base ok v1 (xs ++ ys)→Below base w0 w1→W.grownBy w1 v.ownBlock→(v1.ownBlock = v.ownBlock ∨ ∃ b,v1.ownBlock = some b∧W.heap.size≤b)→Kc (a.put o.dst v1) w1) :
  if Region.wanted o (yielded ops a.tmps) = true then Oper.wp P o a W Kc Q else Kc (a.put o.dst undef) W:=by
 obtain ⟨i0,hi,hzz⟩:=Option.map_eq_some_iff.1 hinfo;simp only [Prod.mk.injEq] at hzz;obtain ⟨hz0,hz1,hz2⟩:=hzz;have hm : ys.length = m:=HR.1;have hlen : xs.length + m≤140737488355328:=Nat.le_trans (Nat.le_mul_of_pos_right _ hb0) hl;obtain ⟨hok,inner,hown,hr⟩:=HO;have hrun : ∃ v1 w1,(Builtin.append_ #[t,t] o.type #[v,.slice A m c]).run P W = .ok v1 w1∧d.R e w1 base ok v1 (xs ++ ys)∧W.grownBy w1 v.ownBlock∧(v1.ownBlock = v.ownBlock ∨ ∃ b,v1.ownBlock = some b∧W.heap.size≤b):=by
  rcases A with _ | ad
  ·have h0 : m = 0:=by
    rcases Nat.eq_zero_or_pos m with h0 | h0
    ·exact h0
    ·obtain ⟨ad,h,_⟩:=HR.2.2 h0
     cases h
   subst h0;obtain rfl : ys = []:=List.eq_nil_of_length_eq_zero hm;refine ⟨v,W,?_,by rw [List.append_nil];exact ⟨hok,inner,hown,hr⟩,World.grownBy.refl W _,.inl rfl⟩
   rcases hown.2 with ⟨rfl,hn⟩ | ⟨g,cap,cur,rfl,_,_,hnc,_⟩
   ·simp [Builtin.append_,run_underlying ht,sizeOf,typeInfo,hi,Builtin.lenOf,Builtin.firstCells]
   ·simp [Builtin.append_,run_underlying ht,sizeOf,typeInfo,hi,Builtin.lenOf,Builtin.firstCells,hnc,storeCells]
  ·obtain ⟨news,hnr,hnc⟩:=kU.aIb HR
   have hnM : eF (d.M W base okp) d.sz ys news:=hnr.zY (fun p c hp => hKM p c hp);have hone : ∀ u∈news,u.oneCell' = true:=by
    intro u hu;obtain ⟨q,hq,rfl⟩:=List.mem_iff_getElem.1 hu;have hql : q / d.sz < ys.length:=by
     rw [Nat.div_lt_iff_lt_mul hs0];rw [← hnM.1];exact hq
    have hc:=hnM.2 (q / d.sz) _ (List.getElem?_eq_getElem hql);refine d.K_one (d.K_of_M hc) _ ?_;rw [List.mem_iff_getElem?];refine ⟨q % d.sz,?_⟩;rw [List.getElem?_take,if_pos (Nat.mod_lt _ hs0),List.getElem?_drop,Nat.mul_comm,Nat.div_add_mod,List.getElem?_eq_getElem hq]
   obtain ⟨v1,w1,hrun,h2,hg,_,hat⟩:=run_append_own_at (P:=P) W base t o.type e i0 z d.sz bytes ht hi hz0 hz1 hz2 hz hs0 v xs.length inner hown ad m c news (by rw [hnM.1,hm]) hnc hone (by simp only [maxLen];omega) hl hbase;have hat' : v1.ownBlock = v.ownBlock ∨ ∃ b,v1.ownBlock = some b∧W.heap.size≤b:=by
    rcases hat with hat | hat
    ·exact .inl hat
    ·exact .inr ⟨_,hat,Nat.le_refl _⟩
   have hne : ∀ k,some k≠v.ownBlock→k < W.heap.size→some k≠v1.ownBlock:=by
    intro k hk hlt
    rcases hat' with hat | ⟨b,hb,hle⟩
    ·rw [hat];exact hk
    ·rw [hb]
     intro he;injection he with he;omega
   have step : ∀ {q : α} {c : List Value} {o : Nat→Prop},d.M W base o q c→(∀ k,o k→ok k∧some k≠v.ownBlock)→d.M w1 base (fun k => ok k∧some k≠v1.ownBlock) q c:=by
    intro q c o hq ho;have h1:=d.M_move (w1:=w1) (fun k hk => hg.block k hk.2.2.1 (ho k hk.1).2) (d.M_bound hq);exact d.M_mono (fun k hk => ⟨(ho k hk.1).1,hne k (ho k hk.1).2 hk.2.2.1⟩) h1
   refine ⟨v1,w1,hrun,⟨fun k hk => ?_,inner ++ news,by rw [List.length_append,hm];exact h2,LJ (hr.zY (fun _ _ hq => step hq (fun _ hk => hk))) (hnM.zY (fun _ _ hq => step hq hokp))⟩,hg,hat'⟩
   rcases hat' with hat | ⟨b,hb,hle⟩
   ·exact hok k (hat ▸ hk)
   ·rw [hb] at hk
    injection hk with hk;exact hfresh k (by omega)
 obtain ⟨v1,w1,hr1,h1,hg,hat⟩:=hrun;rw [if_pos hw];unfold Oper.wp execOp;simp only [ho,resolve,invoke,builtin,Sem.run_bind,Sem.run_pure,Result.andThen_ok,List.map_toArray,List.map_cons,List.map_nil,hs,hx,hr1];exact h v1 w1 h1 (HB.grown hg hbase (BJ hown)) hg hat
end Kd
end
/-! ### 37. Results of any shape -/
inductive aIV (P : Program) (tmps : Array Value) (w : World) : List ResultVar→List Value→Prop where
 | nil : aIV P tmps w [] []
 | tmp {u : Tmp} {rs : List ResultVar} {vs : List Value} (h : aIV P tmps w rs vs) : aIV P tmps w (.tmp u :: rs) (tmps.getD u undef :: vs)
 | cell {p : Tmp} {ty : TypeId} {rs : List ResultVar} {vs : List Value} (g : Nat) (t : TypeId) (cs : Array Value) (fr : Nat×Nat) (d : TypeDesc)
   (hp : tmps.getD p undef = .pointer (some ⟨g,0,none⟩)) (hg : w.heap[g]? = some (.cells cs t fr))
   (hu : P.underlying ty = some d) (hd : (match d with | .struct _ | .array _ _ => true | _ => false) = true) (hi : (P.info? ty).map (·.size) = some cs.size)
   (h : aIV P tmps w rs vs) : aIV P tmps w (.cell p ty :: rs) (.agg cs :: vs)
section
variable {P : Program} {tmps : Array Value} {w : World}
end
/-! ### 38. 'out = append(out[:k],out[k+1:]...)': an element taken out of a row of one's own,in place -/
namespace Kd
section
variable {P : Program} {α : Type}
end
section
variable {P : Program} {ops : Array Oper} {rest : List Oper} {o : Oper} {a : Act} {Q : Exit→Act→World→Prop} {Kc : Act→World→Prop} {α : Type}
end
end Kd
end Go.Proofs.aG.aX
end
section
/-
 PRINTED WORDS,second file: A REGION THAT DRAWS ITS ORDER,WALKED BY HAND,where its last store writes what its own loads read ('x.f = append(x.f,f(i))'). Plain theorems;no macro,no elab. A claim may hold it (turn the namespace's name).
 A load may be taken first in every world that meets S;behind the operations of ds nothing is shown;sound because each of ds waits for what is taken (Region.aAt). The kernel checks it.
 By an AI agent of Go's test side,Mon Nov 16 2026. No person has read it.
-/
namespace Go.Proofs.aG.dI
section
variable {P : Program} {ops : Array Oper} {Q : Exit→Act→World→Prop} {md : Region.Mode} {S : World→Prop} {ds : List Nat}
def Region.uD (md : Region.Mode) (ops : Array Oper) (i : Nat) : Nat→Nat→Bool
 | 0,_ => false
 | fuel + 1,d => match ops[d]? with
  | some o => o.after.any fun e => Region.binds md e && (e.on == i || Region.uD md ops i fuel e.on)
  | none => false
def Region.JD (md : Region.Mode) (ops : Array Oper) (listed : Array Bool) : Bool :=
 (List.range ops.size).all fun j => !listed.getD j false || match ops[j]? with
  | some o => o.after.all fun e => !Region.binds md e || listed.getD e.on false
  | none => true
def Region.aAt (md : Region.Mode) (ops : Array Oper) (listed : Array Bool) (ds : List Nat) (i : Nat) : Bool :=
 ds.all fun d => listed.getD d true || Region.uD md ops i ops.size d
def lX (md : Region.Mode) (ops : Array Oper) (listed : Array Bool) : Prop :=
 ∀ j oj,ops[j]? = some oj→listed.getD j false = true → ∀ e∈oj.after,Region.binds md e = true→listed.getD e.on false = true
theorem Region.YT {listed : Array Bool} (h : Region.JD md ops listed = true) : lX md ops listed:=by
 intro j oj hj hl e he hb;have hlt : j < ops.size:=(Array.getElem?_eq_some_iff.1 hj).1;have h1:=List.all_eq_true.1 h j (List.mem_range.2 hlt);simp only [hl,hj,Bool.not_true,Bool.false_or] at h1;have h2:=Array.all_eq_true_iff_forall_mem.1 h1 e he
 simpa [hb] using h2
theorem lX.set {listed : Array Bool} {i : Nat} (h : lX md ops listed) (hi : i∈Region.ready md ops listed) : lX md ops (listed.setIfInBounds i true):=by
 obtain ⟨_,oi,hoi,hall⟩:=mem_ready.1 hi;intro j oj hj hl e he hb
 by_cases hij : i = j
 ·subst hij
  have : oj = oi:=Option.some.inj (hj.symm.trans hoi);subst this;exact getD_set_true (hall e he hb)
 ·rw [getD_set_ne false hij] at hl
  exact getD_set_true (h j oj hj hl e he hb)
theorem Region.GQ {listed : Array Bool} {i : Nat} (hc : lX md ops listed) : ∀ (fuel d : Nat),Region.uD md ops i fuel d = true→listed.getD d false = true→listed.getD i false = true
 | 0,_,h,_ => by simp [Region.uD] at h
 | fuel + 1,d,h,hl => by
  unfold Region.uD at h
  cases ho : ops[d]? with
  | none => rw [ho] at h;simp at h
  | some o =>
   rw [ho] at h;obtain ⟨e,he,h1⟩:=Array.any_eq_true'.1 h;simp only [Bool.and_eq_true,Bool.or_eq_true,beq_iff_eq] at h1;have hle:=hc d o ho hl e he h1.1
   rcases h1.2 with h2 | h2
   ·rw [← h2];exact hle
   ·exact Region.GQ hc fuel e.on h2 hle
theorem Region.MQ {listed : Array Bool} {i d fuel : Nat} (hc : lX md ops listed) (hr : Region.uD md ops i fuel d = true) (hun : listed.getD i true = false) : d ∉ Region.ready md ops listed:=by
 intro hd;obtain ⟨_,o,ho,hall⟩:=mem_ready.1 hd;have hi : listed.getD i false = true:=by
  cases fuel with
  | zero => simp [Region.uD] at hr
  | succ n =>
   unfold Region.uD at hr;rw [ho] at hr;obtain ⟨e,he,h1⟩:=Array.any_eq_true'.1 hr;simp only [Bool.and_eq_true,Bool.or_eq_true,beq_iff_eq] at h1;have hle:=hall e he h1.1
   rcases h1.2 with h2 | h2
   ·rw [← h2];exact hle
   ·exact Region.GQ hc n e.on h2 hle
 rcases Nat.lt_or_ge i listed.size with h' | h'
 ·simp [h'] at hun hi
  rw [hun] at hi
  cases hi
 ·simp [Array.getElem?_eq_none h'] at hun
def cF (P : Program) (md : Region.Mode) (ops : Array Oper) (Q : Exit→Act→World→Prop) (S : World→Prop) (ds : List Nat) : Nat→Array Bool→Act→World→Prop
 | 0,listed,a,w => Region.ready md ops listed = []∧Q .normal a w
 | fuel + 1,listed,a,w =>
  (Region.ready md ops listed = []→Q .normal a w) ∧
  ∀ i∈Region.ready md ops listed,wpOp P ops Q i (fun a' w' => (i ∉ ds→S w→S w')∧cF P md ops Q S ds fuel (listed.setIfInBounds i true) a' w') a w
theorem DX : ∀ (fuel : Nat) (listed : Array Bool) (a : Act) (w : World),cF P md ops Q S ds fuel listed a w→wpAny P md ops Q fuel listed a w
 | 0,_,_,_,h => h
 | fuel + 1,_,_,_,h => ⟨h.1,fun i hi => wpOp_mono (fun a' w' h' => DX fuel _ a' w' h'.2) (h.2 i hi)⟩
theorem MJ {i : Nat} {oi : Oper} {v : Value} (hi : ops[i]? = some oi) (hsel : ∀ (j : Nat) (o : Oper) cs b,ops[j]? = some o→o.op≠.select cs b)
  (hQ : ∀ c a w,Q (.panic c) (a.put oi.dst v) w→Q (.panic c) a w) (n : Nat) :
  ∀ (fuel : Nat) (listed : Array Bool) (a : Act) (w : World),
   (∀ j oj,ops[j]? = some oj→j≠i→listed.getD j true = false→(∀ e∈oj.after,Region.binds md e = true→e.on≠i)→oi.apart ops oj = true) →
   lX md ops listed→(∀ d∈ds,listed.getD d true = false→Region.uD md ops i n d = true) →
   i∈Region.ready md ops listed→YieldsIf P ops S oi v a→S w →
   cF P md ops Q S ds fuel (listed.setIfInBounds i true) (a.put oi.dst v) w→cF P md ops Q S ds (fuel + 1) listed a w:=by
 intro fuel
 induction fuel with
 | zero =>
  intro listed a w _ _ _ hr hy hS H;refine ⟨fun h => (by rw [h] at hr;cases hr),fun j hj => ?_⟩
  by_cases hji : j = i
  ·subst hji;exact hy.wpOp hi hS ⟨fun _ h => h,H⟩
  ·have:=ready_mono hj hji
   rw [H.1] at this
   cases this
 | succ fuel ih =>
  intro listed a w hfree hc hd hr hy hS H;refine ⟨fun h => (by rw [h] at hr;cases hr),fun j hj => ?_⟩
  by_cases hji : j = i
  ·subst hji;exact hy.wpOp hi hS ⟨fun _ h => h,H⟩
  ·have h1:=H.2 j (ready_mono hj hji)
   obtain ⟨hjun,oj,hoj,hall⟩:=mem_ready.1 hj;have hiun:=(mem_ready.1 hr).1;have hnot : ∀ e∈oj.after,Region.binds md e = true→e.on≠i:=fun e he hb heq => by
    have h1:=hall e he hb;rw [heq] at h1
    rcases Nat.lt_or_ge i listed.size with h' | h'
    ·simp [h'] at hiun h1;rw [hiun] at h1;cases h1
    ·simp [Array.getElem?_eq_none h'] at h1
   have hjd : j ∉ ds:=fun hm => Region.MQ hc (hd j hm hjun) hiun hj
   have h2:=wpOp_putIf hoj (hfree j oj hoj hji hjun hnot) (fun cs b => hsel i oi cs b hi) (fun cs b => hsel j oj cs b hoj) hQ hy h1;have hfree' : ∀ k ok,ops[k]? = some ok→k≠i→(listed.setIfInBounds j true).getD k true = false →
     (∀ e∈ok.after,Region.binds md e = true→e.on≠i)→oi.apart ops ok = true:=fun k ok hk hki hun hno => by
    refine hfree k ok hk hki ?_ hno
    by_cases hjk : j = k
    ·subst hjk;exact hjun
    ·rw [getD_set_ne true hjk] at hun;exact hun
   have hd' : ∀ d∈ds,(listed.setIfInBounds j true).getD d true = false→Region.uD md ops i n d = true:=fun d hm hun => by
    refine hd d hm ?_
    by_cases hjk : j = d
    ·subst hjk;exact hjun
    ·rw [getD_set_ne true hjk] at hun;exact hun
   refine wpOp_mono (fun a' w' h3 => ⟨h3.2.1,ih (listed.setIfInBounds j true) a' w' hfree' (hc.set hj) hd' (ready_mono hr (Ne.symm hji)) h3.1 (h3.2.1 hjd hS) ?_⟩) h2;rw [Array.setIfInBounds_comm _ _ hji];exact h3.2.2
theorem SB {i : Nat} {oi : Oper} {v : Value} (hi : ops[i]? = some oi) (hsel : ∀ (j : Nat) (o : Oper) cs b,ops[j]? = some o→o.op≠.select cs b)
  (hQ : ∀ c a w,Q (.panic c) (a.put oi.dst v) w→Q (.panic c) a w) :
  ∀ (fuel : Nat) (listed : Array Bool) (a : Act) (w : World),
   (∀ j oj,ops[j]? = some oj→j≠i→listed.getD j true = false→(∀ e∈oj.after,Region.binds md e = true→e.on≠i)→oi.apart ops oj = true) →
   i∈Region.ready md ops listed→Yields P ops oi v a →
   cF P md ops Q S ds fuel (listed.setIfInBounds i true) (a.put oi.dst v) w→cF P md ops Q S ds (fuel + 1) listed a w:=by
 intro fuel
 induction fuel with
 | zero =>
  intro listed a w _ hr hy H;refine ⟨fun h => (by rw [h] at hr;cases hr),fun j hj => ?_⟩
  by_cases hji : j = i
  ·subst hji;exact (hy.yieldsIf (S:=fun _ => True)).wpOp hi trivial ⟨fun _ h => h,H⟩
  ·have:=ready_mono hj hji
   rw [H.1] at this
   cases this
 | succ fuel ih =>
  intro listed a w hfree hr hy H;refine ⟨fun h => (by rw [h] at hr;cases hr),fun j hj => ?_⟩
  by_cases hji : j = i
  ·subst hji;exact (hy.yieldsIf (S:=fun _ => True)).wpOp hi trivial ⟨fun _ h => h,H⟩
  ·have h1:=H.2 j (ready_mono hj hji)
   obtain ⟨hjun,oj,hoj,hall⟩:=mem_ready.1 hj;have hiun:=(mem_ready.1 hr).1;have hnot : ∀ e∈oj.after,Region.binds md e = true→e.on≠i:=fun e he hb heq => by
    have h1:=hall e he hb;rw [heq] at h1
    rcases Nat.lt_or_ge i listed.size with h' | h'
    ·simp [h'] at hiun h1;rw [hiun] at h1;cases h1
    ·simp [Array.getElem?_eq_none h'] at h1
   have h2:=wpOp_put hoj (hfree j oj hoj hji hjun hnot) (fun cs b => hsel i oi cs b hi) (fun cs b => hsel j oj cs b hoj) hQ hy h1;have hfree' : ∀ k ok,ops[k]? = some ok→k≠i→(listed.setIfInBounds j true).getD k true = false →
     (∀ e∈ok.after,Region.binds md e = true→e.on≠i)→oi.apart ops ok = true:=fun k ok hk hki hun hno => by
    refine hfree k ok hk hki ?_ hno
    by_cases hjk : j = k
    ·subst hjk;exact hjun
    ·rw [getD_set_ne true hjk] at hun;exact hun
   refine wpOp_mono (fun a' w' h3 => ⟨h3.2.1,ih (listed.setIfInBounds j true) a' w' hfree' (ready_mono hr (Ne.symm hji)) h3.1 ?_⟩) h2;rw [Array.setIfInBounds_comm _ _ hji];exact h3.2.2
theorem PA {i : Nat} {oi : Oper} {v : Value} {fuel : Nat} {listed : Array Bool} {a : Act} {w : World} (hi : ops[i]? = some oi)
  (hs : Region.noSelect ops = true) (hf : Region.free md ops listed i = true) (hr : (Region.ready md ops listed).contains i = true)
  (hc : Region.JD md ops listed = true) (hl : Region.aAt md ops listed ds i = true)
  (hQ : ∀ c a w,Q (.panic c) (a.put oi.dst v) w→Q (.panic c) a w) (hy : YieldsIf P ops S oi v a) (hS : S w)
  (h : cF P md ops Q S ds fuel (listed.setIfInBounds i true) (a.put oi.dst v) w) : cF P md ops Q S ds (fuel + 1) listed a w :=
 MJ hi (Region.noSelect_spec hs) hQ ops.size fuel listed a w (Region.free_spec hi hf) (Region.YT hc)
  (fun d hm hun => by have:=List.all_eq_true.1 hl d hm;rw [hun] at this;simpa using this) (by simpa using hr) hy hS h
theorem SC {rs : List Nat} {fuel : Nat} {listed : Array Bool} {a : Act} {w : World} (hr : Region.ready md ops listed = rs) (hne : rs≠[])
  (h : ∀ i∈rs,wpOp P ops Q i (fun a' w' => (i ∉ ds→S w→S w')∧cF P md ops Q S ds fuel (listed.setIfInBounds i true) a' w') a w) : cF P md ops Q S ds (fuel + 1) listed a w :=
 ⟨fun h0 => absurd (hr ▸ h0) hne,hr ▸ h⟩
theorem PB {listed : Array Bool} {a : Act} {w : World} (hr : Region.ready md ops listed = []) (h : Q .normal a w) :
  ∀ fuel,cF P md ops Q S ds fuel listed a w
 | 0 => ⟨hr,h⟩
 | _ + 1 => ⟨fun _ => h,by rw [hr];simp⟩
theorem OZ {id : Nat} {a : Act} {w : World} (hm : P.follows .mixedOrders = true)
  (h : cF P .any ops Q S ds ops.size (Array.replicate ops.size false) a { w with drawn:=w.drawn + 1 }) : (Code.region id ops true).wp P Q a w :=
 wp_region_any hm (DX _ _ _ _ h)
end
section
variable {P : Program} {ops : Array Oper} {Q : Exit→Act→World→Prop} {md : Region.Mode} {S : World→Prop} {ds : List Nat}
def fJ (P : Program) (md : Region.Mode) (ops : Array Oper) (Q : Exit→Act→World→Prop) (S : World→Prop) (ds : List Nat) (fuel : Nat) (listed : Array Bool) (a : Act) (w : World) (rs : List Nat) : Prop :=
 ∀ i∈rs,wpOp P ops Q i (fun a' w' => (i ∉ ds→S w→S w')∧cF P md ops Q S ds fuel (listed.setIfInBounds i true) a' w') a w
theorem fJ.nil {fuel : Nat} {listed : Array Bool} {a : Act} {w : World} : fJ P md ops Q S ds fuel listed a w []:=fun _ h => by cases h
theorem fJ.cons {fuel : Nat} {listed : Array Bool} {a : Act} {w : World} {i : Nat} {o : Oper} {rs : List Nat} (ho : ops[i]? = some o) (hd : i ∉ ds)
  (h : ∀ K' : Act→World→Prop,Shut (∀ a w,S w→(S w→cF P md ops Q S ds fuel (listed.setIfInBounds i true) a w)→K' a w)→if Region.wanted o (yielded ops a.tmps) = true then Oper.wp P o a w K' Q else K' (a.put o.dst undef) w)
  (hs : fJ P md ops Q S ds fuel listed a w rs) : fJ P md ops Q S ds fuel listed a w (i :: rs):=fun j hj => by
 rcases List.mem_cons.1 hj with rfl | hj
 ·exact wpOp_step ho (fun K' hK => h K' (fun a w hS hW => hK a w ⟨fun _ _ => hS,hW hS⟩))
 ·exact hs j hj
theorem fJ.aGm {fuel : Nat} {listed : Array Bool} {a : Act} {w : World} {i : Nat} {o : Oper} {rs : List Nat} (ho : ops[i]? = some o) (hd : i∈ds)
  (h : ∀ K' : Act→World→Prop,Shut (∀ a w,cF P md ops Q S ds fuel (listed.setIfInBounds i true) a w→K' a w)→if Region.wanted o (yielded ops a.tmps) = true then Oper.wp P o a w K' Q else K' (a.put o.dst undef) w)
  (hs : fJ P md ops Q S ds fuel listed a w rs) : fJ P md ops Q S ds fuel listed a w (i :: rs):=fun j hj => by
 rcases List.mem_cons.1 hj with rfl | hj
 ·exact wpOp_step ho (fun K' hK => h K' (fun a w hW => hK a w ⟨fun hn => absurd hd hn,hW⟩))
 ·exact hs j hj
theorem pE {rs : List Nat} {fuel : Nat} {listed : Array Bool} {a : Act} {w : World} (hr : Region.ready md ops listed = rs) (hne : rs≠[])
  (h : fJ P md ops Q S ds fuel listed a w rs) : cF P md ops Q S ds (fuel + 1) listed a w:=SC hr hne h
theorem sG {id n : Nat} {a : Act} {w : World} (l : Array Bool) (hm : P.follows .mixedOrders = true) (hn : ops.size = n) (hl : Array.replicate n false = l) (hS : S w.drew)
  (h : S w.drew→cF P .any ops Q S ds n l a w.drew) : (Code.region id ops true).wp P Q a w:=by
 subst hn;subst hl;exact OZ hm (h hS)
def ZV (md : Region.Mode) (ops : Array Oper) (ds : List Nat) (l l' : Array Bool) (i : Nat) : Bool :=
 Region.noSelect ops && Region.free md ops l i && (Region.ready md ops l).contains i && Region.JD md ops l && Region.aAt md ops l ds i && (l.setIfInBounds i true == l')
theorem gP {i : Nat} {N : Option Tmp} {oi : Oper} {v : Value} {fuel : Nat} {l : Array Bool} {a : Act} {w : World} (l' : Array Bool) (hi : ops[i]? = some oi) (hN : oi.dst = N) (hc : ZV md ops ds l l' i = true)
  (hQ : ∀ c a w,Q (.panic c) (a.put oi.dst v) w→Q (.panic c) a w) (hy : YieldsIf P ops S oi v a) (hS : S w) {a' : Act} (ha : a.put N v = a')
  (h : cF P md ops Q S ds fuel l' a' w) : cF P md ops Q S ds (fuel + 1) l a w:=by
 subst ha;subst hN;simp only [ZV,Bool.and_eq_true,beq_iff_eq] at hc;obtain ⟨⟨⟨⟨⟨h1,h2⟩,h3⟩,h4⟩,h5⟩,h6⟩:=hc;subst h6;exact PA hi h1 h2 h3 h4 h5 hQ hy hS h
def aLJ (md : Region.Mode) (ops : Array Oper) (l l' : Array Bool) (i : Nat) : Bool :=
 Region.noSelect ops && Region.free md ops l i && (Region.ready md ops l).contains i && (l.setIfInBounds i true == l')
theorem bY {i : Nat} {N : Option Tmp} {oi : Oper} {v : Value} {fuel : Nat} {l : Array Bool} {a : Act} {w : World} (l' : Array Bool) (hi : ops[i]? = some oi) (hN : oi.dst = N) (hc : aLJ md ops l l' i = true)
  (hQ : ∀ c a w,Q (.panic c) (a.put oi.dst v) w→Q (.panic c) a w) (hy : Yields P ops oi v a) {a' : Act} (ha : a.put N v = a')
  (h : cF P md ops Q S ds fuel l' a' w) : cF P md ops Q S ds (fuel + 1) l a w:=by
 subst ha;subst hN;simp only [aLJ,Bool.and_eq_true,beq_iff_eq] at hc;obtain ⟨⟨⟨h1,h2⟩,h3⟩,h6⟩:=hc;subst h6;exact SB hi (Region.noSelect_spec h1) hQ fuel l a w (Region.free_spec hi h2) (by simpa using h3) hy h
def KA (md : Region.Mode) (ops : Array Oper) (l l' : Array Bool) (i : Nat) : Bool:=(Region.ready md ops l == [i]) && (l.setIfInBounds i true == l')
theorem DS {i : Nat} {N : Option Tmp} {oi : Oper} {fuel : Nat} {l : Array Bool} {a : Act} {w : World} (l' : Array Bool) (hi : ops[i]? = some oi) (hN : oi.dst = N) (hc : KA md ops l l' i = true) (hd : i ∉ ds)
  (h : ∀ K : Act→World→Prop,Shut (∀ a' w',S w'→(S w'→cF P md ops Q S ds fuel l' a' w')→K a' w')→if Region.wanted oi (yielded ops a.tmps) = true then Oper.wp P oi a w K Q else K (a.put N undef) w) :
  cF P md ops Q S ds (fuel + 1) l a w:=by
 subst hN;simp only [KA,Bool.and_eq_true,beq_iff_eq] at hc;obtain ⟨h1,h2⟩:=hc;subst h2;exact pE h1 (by simp) (fJ.cons hi hd (fun K hK => h K hK) fJ.nil)
theorem QH {i : Nat} {N : Option Tmp} {oi : Oper} {fuel : Nat} {l : Array Bool} {a : Act} {w : World} (l' : Array Bool) (hi : ops[i]? = some oi) (hN : oi.dst = N) (hc : KA md ops l l' i = true) (hd : i∈ds)
  (h : ∀ K : Act→World→Prop,Shut (∀ a' w',cF P md ops Q S ds fuel l' a' w'→K a' w')→if Region.wanted oi (yielded ops a.tmps) = true then Oper.wp P oi a w K Q else K (a.put N undef) w) :
  cF P md ops Q S ds (fuel + 1) l a w:=by
 subst hN;simp only [KA,Bool.and_eq_true,beq_iff_eq] at hc;obtain ⟨h1,h2⟩:=hc;subst h2;exact pE h1 (by simp) (fJ.aGm hi hd (fun K hK => h K hK) fJ.nil)
theorem yV {l : Array Bool} {a : Act} {w : World} {n : Nat} (hr : (Region.ready md ops l == []) = true) (h : Q .normal a w) : cF P md ops Q S ds n l a w:=PB (by simpa using hr) h n
/-! ### Several operations that write or call may come up: each order is walked,what follows is shown once (aMn) -/
theorem aPo {i j : Nat} {Ni Nj : Option Tmp} {oi oj : Oper} {fuel : Nat} {l : Array Bool} {a : Act} {w : World} (li lj : Array Bool) (hi : ops[i]? = some oi) (hj : ops[j]? = some oj) (hNi : oi.dst = Ni) (hNj : oj.dst = Nj)
  (hc : (Region.ready md ops l == [i,j] && l.setIfInBounds i true == li && l.setIfInBounds j true == lj) = true) (hdi : i ∉ ds) (hdj : j ∉ ds)
  (h1 : ∀ K : Act→World→Prop,Shut (∀ a' w',S w'→(S w'→cF P md ops Q S ds fuel li a' w')→K a' w')→if Region.wanted oi (yielded ops a.tmps) = true then Oper.wp P oi a w K Q else K (a.put Ni undef) w)
  (h2 : ∀ K : Act→World→Prop,Shut (∀ a' w',S w'→(S w'→cF P md ops Q S ds fuel lj a' w')→K a' w')→if Region.wanted oj (yielded ops a.tmps) = true then Oper.wp P oj a w K Q else K (a.put Nj undef) w) :
  cF P md ops Q S ds (fuel + 1) l a w:=by
 subst hNi;subst hNj;simp only [Bool.and_eq_true,beq_iff_eq] at hc;obtain ⟨⟨h3,h4⟩,h5⟩:=hc;subst h4;subst h5;exact pE h3 (by simp) (fJ.cons hi hdi (fun K hK => h1 K hK) (fJ.cons hj hdj (fun K hK => h2 K hK) fJ.nil))
theorem aNE {i j k : Nat} {Ni Nj Nk : Option Tmp} {oi oj ok : Oper} {fuel : Nat} {l : Array Bool} {a : Act} {w : World} (li lj lk : Array Bool) (hi : ops[i]? = some oi) (hj : ops[j]? = some oj) (hk : ops[k]? = some ok) (hNi : oi.dst = Ni) (hNj : oj.dst = Nj) (hNk : ok.dst = Nk)
  (hc : (Region.ready md ops l == [i,j,k] && l.setIfInBounds i true == li && l.setIfInBounds j true == lj && l.setIfInBounds k true == lk) = true) (hdi : i ∉ ds) (hdj : j ∉ ds) (hdk : k ∉ ds)
  (h1 : ∀ K : Act→World→Prop,Shut (∀ a' w',S w'→(S w'→cF P md ops Q S ds fuel li a' w')→K a' w')→if Region.wanted oi (yielded ops a.tmps) = true then Oper.wp P oi a w K Q else K (a.put Ni undef) w)
  (h2 : ∀ K : Act→World→Prop,Shut (∀ a' w',S w'→(S w'→cF P md ops Q S ds fuel lj a' w')→K a' w')→if Region.wanted oj (yielded ops a.tmps) = true then Oper.wp P oj a w K Q else K (a.put Nj undef) w)
  (h3 : ∀ K : Act→World→Prop,Shut (∀ a' w',S w'→(S w'→cF P md ops Q S ds fuel lk a' w')→K a' w')→if Region.wanted ok (yielded ops a.tmps) = true then Oper.wp P ok a w K Q else K (a.put Nk undef) w) :
  cF P md ops Q S ds (fuel + 1) l a w:=by
 subst hNi;subst hNj;subst hNk;simp only [Bool.and_eq_true,beq_iff_eq] at hc;obtain ⟨⟨⟨h4,h5⟩,h6⟩,h7⟩:=hc;subst h5;subst h6;subst h7;exact pE h4 (by simp) (fJ.cons hi hdi (fun K hK => h1 K hK) (fJ.cons hj hdj (fun K hK => h2 K hK) (fJ.cons hk hdk (fun K hK => h3 K hK) fJ.nil)))
def KC : Act→List (Tmp×Value)→Act
 | a,[] => a
 | a,(n,v) :: r => KC (a.put (some n) v) r
theorem aMn {σ : Type} {fuel : Nat} {l : Array Bool} {a : Act} {w : World} (fuel' : Nat) (l' : Array Bool) (ns : σ→List (Tmp×Value)) (F : σ→World→Prop)
  (hcont : ∀ s w',F s w'→cF P md ops Q S ds fuel' l' (KC a (ns s)) w')
  (h : (∀ s w',F s w'→cF P md ops Q S ds fuel' l' (KC a (ns s)) w')→cF P md ops Q S ds fuel l a w) : cF P md ops Q S ds fuel l a w:=h hcont
theorem qM {fuel : Nat} {l : Array Bool} {a a' : Act} {w : World} (ha : a = a') (h : cF P md ops Q S ds fuel l a' w) : cF P md ops Q S ds fuel l a w:=by
 subst ha;exact h
theorem aRg {oi : Oper} {N : Option Tmp} {a : Act} {w : World} {K : Act→World→Prop} (f : FuncId) (args : Array Value) (hw : Region.wanted oi (yielded ops a.tmps) = true) (hN : oi.dst = N) (hrun : (execOp a.eval oi).run P w = .ok (.enter f args) w)
  (h : Calls P f args w fun e w' => ∃ v,e = .returned v∧K (a.put N v) w') : if Region.wanted oi (yielded ops a.tmps) = true then Oper.wp P oi a w K Q else K (a.put N undef) w:=by
 rw [if_pos hw];subst hN;unfold Oper.wp;rw [hrun,Oper.upon_enter];refine h.mono fun e w'' hh => ?_
 obtain ⟨v,rfl,hk⟩:=hh;exact hk
theorem aEt {f : FuncId} {fn : Func} (hf : P.funcs[f]? = some fn) (hname : (fn.name == "runtime.NumGoroutine") = false) (hb : fn.body.isSome = true) (args : Array Value) (w : World) : (callFunc f args).run P w = .ok (.enter f args) w:=by
 have h1 : fn.name ≠ "runtime.NumGoroutine" := by simpa using hname
 obtain ⟨c,hc⟩:=Option.isSome_iff_exists.1 hb
 simp [callFunc,hf,h1,hc]
theorem BR {oi : Oper} {N : Option Tmp} {a : Act} {w : World} {K : Act→World→Prop} {f : FuncId} {fn : Func} {as : Array Operand} {ts : Array TypeId} (hf : P.funcs[f]? = some fn) (hname : (fn.name == "runtime.NumGoroutine") = false) (hb : fn.body.isSome = true) (args : Array Value)
  (hw : Region.wanted oi (yielded ops a.tmps) = true) (hN : oi.dst = N) (hop : oi.op = .call { callee:=.value (.func f),args:=as,argTypes:=ts }) (hargs : as.map a.eval = args)
  (h : Calls P f args w fun e w' => ∃ v,e = .returned v∧K (a.put N v) w') : if Region.wanted oi (yielded ops a.tmps) = true then Oper.wp P oi a w K Q else K (a.put N undef) w:=by
 refine aRg f args hw hN ?_ h;have he:=aEt hf hname hb args w;unfold execOp
 simp [hop,resolve,Deferred.ofValue,invoke,Act.eval,hargs,he]
theorem cS {rest : List Oper} {oi : Oper} {a : Act} {w : World} (N : Option Tmp) (hd : oi.dst = N) (hg : oi.guard = none) {f : FuncId} {fn : Func} {as : Array Operand} {ts : Array TypeId} (hf : P.funcs[f]? = some fn) (hname : (fn.name == "runtime.NumGoroutine") = false) (hb : fn.body.isSome = true) (args : Array Value)
  (hop : oi.op = .call { callee:=.value (.func f),args:=as,argTypes:=ts }) (hargs : as.map a.eval = args)
  (h : Calls P f args w fun e w' => ∃ v,e = .returned v∧wpList P ops Q rest (a.put N v) w') : wpList P ops Q (oi :: rest) a w:=by
 refine wpList_plain hg fun K hK => ?_
 have he:=aEt hf hname hb args w;have hrun : (execOp a.eval oi).run P w = .ok (.enter f args) w:=by
  unfold execOp
  simp [hop,resolve,Deferred.ofValue,invoke,Act.eval,hargs,he]
 unfold Oper.wp;rw [hrun,Oper.upon_enter];refine h.mono fun e w'' hh => ?_
 obtain ⟨v,rfl,hk⟩:=hh;subst hd;exact hK _ _ hk
theorem LI {oi : Oper} {a : Act} {w w1 : World} {K : Act→World→Prop} (hw : Region.wanted oi (yielded ops a.tmps) = true) (hN : oi.dst = none) (hrun : (execOp a.eval oi).run P w = .ok .skip w1)
  (h : K a w1) : if Region.wanted oi (yielded ops a.tmps) = true then Oper.wp P oi a w K Q else K (a.put none undef) w:=by
 rw [if_pos hw];unfold Oper.wp;rw [hrun];show K (a.put oi.dst undef) w1;rw [hN];exact h
theorem bE (n : Int) : IntKind.i64.wrap n = Go.RowKit.wrap64 n:=by unfold Go.RowKit.wrap64;exact IntKind.wrap_i64 n
theorem bJ (n : Int) : IntKind.i32.wrap n = Go.RowKit.wrap32 n:=by unfold Go.RowKit.wrap32;exact IntKind.wrap_i32 n
end
end Go.Proofs.aG.dI
end
section
/-! ### 40. Elements whose inner rows lie apart: what is stored into one says nothing of the others.
  S: as R,with an owner function f (block to element's index). H: as S with a hole: of element i its cells alone are told,its blocks are oki. -/
namespace Go.Proofs.aG.aX
open Go.RowKit
namespace Kd
def tag {α : Type} (f : Nat→Nat) (d : Kd α) : Kd (α×Nat) where
 sz:=d.sz
 E:=d.E
 K:=fun w x cs => d.K w x.1 cs
 M:=fun w base ok x cs => d.M w base (fun k => ok k∧f k = x.2) x.1 cs
 K_len:=fun h => d.K_len h
 K_one:=fun h => d.K_one h
 K_below:=fun hb h => d.K_below hb h
 K_of_M:=fun h => d.K_of_M h
 M_mono:=fun hok h => d.M_mono (fun k hk => ⟨hok k hk.1,hk.2⟩) h
 M_bound:=fun h => d.M_mono (fun _ hk => ⟨⟨hk.1.1,hk.2⟩,hk.1.2⟩) (d.M_bound h)
 M_move:=fun hm h => d.M_move (fun k hk => hm k hk.1) h
 M_lower:=fun hb h => d.M_lower hb h
def raw (sz : Nat) : Kd (List Value) where
 sz:=sz
 E:=[]
 K:=fun _ x cs => cs = x∧cs.length = sz ∧ ∀ u∈cs,u.oneCell' = true
 M:=fun _ _ _ x cs => cs = x∧cs.length = sz ∧ ∀ u∈cs,u.oneCell' = true
 K_len:=fun h => h.2.1
 K_one:=fun h => h.2.2
 K_below:=fun _ h => h
 K_of_M:=fun h => h
 M_mono:=fun _ h => h
 M_bound:=fun h => h
 M_move:=fun _ h => h
 M_lower:=fun _ h => h
def S {α : Type} (d : Kd α) (e : Nat) (w : World) (base : Nat) (ok : Nat→Prop) (v : Value) (xs : List α) : Prop:=∃ f,(tag f d).R e w base ok v xs.zipIdx
section
variable {α β : Type} {d : Kd α} {d' : Kd β} {e e' : Nat} {w w1 W : World} {base b : Nat} {ok ok' okv oku : Nat→Prop} {u v : Value} {xs : List α} {ys : List β}
theorem aLP (hE : d.E = []) (h : d.R e w base ok v xs) : d.R e w base (fun k => some k = v.ownBlock) v xs:=by
 obtain ⟨h0,inner,ho,hr⟩:=h;refine ⟨fun k hk => hk.symm,inner,ho,hr.zY (fun p c hp => d.M_mono (fun k hk => ?_) (d.M_bound hp))⟩;obtain ⟨_,_,_,q,hq,_⟩:=hk;rw [hE] at hq
 cases hq
theorem aRF (d : Kd α) (e : Nat) (w : World) (base : Nat) (ok : Nat→Prop) : S d e w base ok (.slice none 0 0) []:=⟨fun _ => 0,AQ _ _ _ _ _⟩
end
section
variable {α β : Type} {d : Kd α} {d' : Kd β} {e e' g : Nat} {w w1 W : World} {base b : Nat} {ok ok' okv oku : Nat→Prop} {u v : Value} {xs : List α} {ys : List β}
end
/-! #### append,make,literals: the new element's blocks are none of the elder ones' -/
section
variable {P : Program} {ops : Array Oper} {rest : List Oper} {o : Oper} {a : Act} {Q : Exit→Act→World→Prop} {Kc : Act→World→Prop} {α : Type}
end
/-! #### a row with a hole: element i is lent,its blocks are oki;of it the row says its cells alone -/
def gap {α : Type} (f : Nat→Nat) (d : Kd α) (i : Nat) (c : List Value) : Kd (α×Nat) where
 sz:=d.sz
 E:=d.E
 K:=fun w x cs => (x.2 = i→cs = c∧cs.length = d.sz ∧ ∀ u∈cs,u.oneCell' = true)∧(x.2≠i→d.K w x.1 cs)
 M:=fun w base ok x cs => (x.2 = i→cs = c∧cs.length = d.sz ∧ ∀ u∈cs,u.oneCell' = true)∧(x.2≠i→d.M w base (fun k => ok k∧f k = x.2) x.1 cs)
 K_len:=fun {w x cs} h => by
  by_cases hx : x.2 = i
  ·exact (h.1 hx).2.1
  ·exact d.K_len (h.2 hx)
 K_one:=fun {w x cs} h => by
  by_cases hx : x.2 = i
  ·exact (h.1 hx).2.2
  ·exact d.K_one (h.2 hx)
 K_below:=fun hb h => ⟨h.1,fun hx => d.K_below hb (h.2 hx)⟩
 K_of_M:=fun h => ⟨h.1,fun hx => d.K_of_M (h.2 hx)⟩
 M_mono:=fun hok h => ⟨h.1,fun hx => d.M_mono (fun k hk => ⟨hok k hk.1,hk.2⟩) (h.2 hx)⟩
 M_bound:=fun h => ⟨h.1,fun hx => d.M_mono (fun _ hk => ⟨⟨hk.1.1,hk.2⟩,hk.1.2⟩) (d.M_bound (h.2 hx))⟩
 M_move:=fun hm h => ⟨h.1,fun hx => d.M_move (fun k hk => hm k hk.1) (h.2 hx)⟩
 M_lower:=fun hb h => ⟨h.1,fun hx => d.M_lower hb (h.2 hx)⟩
def H {α : Type} (d : Kd α) (e : Nat) (w : World) (base : Nat) (ok : Nat→Prop) (v : Value) (xs : List α) (i : Int) (oki : Nat→Prop) (c : List Value) : Prop :=
 (∀ k,oki k→ok k) ∧ ∃ f,(gap f d i.toNat c).R e w base (fun k => ok k ∧ ¬ oki k) v xs.zipIdx
section
variable {α β : Type} {d : Kd α} {e e' g n cap : Nat} {w w1 W : World} {base : Nat} {ok ok' oki okp : Nat→Prop} {u v : Value} {xs : List α} {i : Int} {c : List Value}
end
section
variable {P : Program} {ops : Array Oper} {rest : List Oper} {o : Oper} {a : Act} {Q : Exit→Act→World→Prop} {α : Type}
end
end Kd
end Go.Proofs.aG.aX
end
section
/-! ### 41. Arrays '[n]T' as_ values: a kind (a field,an element of a row),an element read,an element set -/
namespace Go.Proofs.aG.aX
open Go.RowKit
namespace Kd
section
variable {α : Type} {n : Nat} {d : Kd α} {hs : 0 < d.sz} {w : World} {base : Nat} {ok : Nat→Prop} {xs : List α} {cs : List Value}
end
section
variable {α : Type} {n : Nat} {enc : α→Value} {h1 : ∀ x,(enc x).oneCell' = true} {hs : 0 < (scalar enc h1).sz} {w : World} {base : Nat} {ok : Nat→Prop} {xs : List α} {cs : List Value}
end
end Kd
end Go.Proofs.aG.aX
end
section
/-! ### 43. What is read beside a state: it stays read whatever the state's calls turn ('∀ W',kC w W' g none→d.C W' A n xs') -/
namespace Go.Proofs.aG.aX
open Go.RowKit
namespace Kd
structure Heap {α : Type} (d : Kd α) : Prop where
 K : ∀ {w w1 : World} {x : α} {cs : List Value},(∀ k,k < w.heap.size→w1.heap[k]? = w.heap[k]?)→d.K w x cs→d.K w1 x cs
theorem aGr {w w1 : World} (hb : ∀ k,k < w.heap.size→w1.heap[k]? = w.heap[k]?) {a : Addr} {v : Value} (h : w.cell? a = some v) : w1.cell? a = some v:=by
 have:=hb a.block (World.block_lt_of_cell? w a h)
 simpa [World.cell?,this] using h
theorem Heap.C {α : Type} {d : Kd α} (hd : Heap d) {w w1 : World} {A : Option Addr} {n : Nat} {xs : List α} (hb : ∀ k,k < w.heap.size→w1.heap[k]? = w.heap[k]?) (h : d.C w A n xs) : d.C w1 A n xs :=
 ⟨h.1,h.2.1,fun hn => by
  obtain ⟨ad,e,hc⟩:=h.2.2 hn;refine ⟨ad,e,fun j p hj => ?_⟩;obtain ⟨c,hs,hr,hcell⟩:=hc j p hj;exact ⟨c,hs,hd.K hb hr,fun i u hu => aGr hb (hcell i u hu)⟩⟩
section
variable {α : Type} {d : Kd α} {e base g n c : Nat} {ok : Nat→Prop} {w w0 W : World} {A : Option Addr} {xs : List α}
end
end Kd
end Go.Proofs.aG.aX
end
section
/-! ### 45. What a call keeps: all but the blocks of S (the rows that it was given to write) and what is new since -/
namespace Go.Proofs.aG.aX
open Go.RowKit
def Kept (w W : World) (S : Nat→Prop) : Prop:=w.heap.size≤W.heap.size ∧ ∀ i,i < w.heap.size → ¬ S i→W.heap[i]? = w.heap[i]?
section
variable {w W W2 : World} {S S2 S' : Nat→Prop}
theorem Kept.refl (w : World) (S : Nat→Prop) : Kept w w S:=⟨Nat.le_refl _,fun _ _ _ => rfl⟩
theorem Kept.aHM (h : Below w.heap.size w W) (S : Nat→Prop) : Kept w W S:=⟨h.size,fun i hi _ => h.block i hi⟩
theorem Kept.mono (h : Kept w W S) (hs : ∀ k,S k→S' k) : Kept w W S':=⟨h.1,fun i hi hn => h.2 i hi (fun hk => hn (hs i hk))⟩
theorem Kept.aGX (h : Kept w W S) (k : Kept W W2 S2) (hs : ∀ k,S2 k→S k ∨ w.heap.size≤k) : Kept w W2 S :=
 ⟨Nat.le_trans h.1 k.1,fun i hi hn => (k.2 i (Nat.lt_of_lt_of_le hi h.1) (fun h2 => (hs i h2).elim hn (fun h3 => by omega))).trans (h.2 i hi hn)⟩
theorem Kept.aAo {row : Option Nat} (hg : W.grownBy W2 row) (h : Kept w W S) (hr : ∀ k,row = some k→S k ∨ w.heap.size≤k) : Kept w W2 S :=
 h.aGX (S2:=fun k => row = some k) ⟨hg.size,fun i hi hn => hg.block i hi (fun he => hn he.symm)⟩ hr
theorem Kept.below (h : Kept w W S) (hb : Below W.heap.size W W2) : Kept w W2 S:=h.aGX (Kept.aHM hb (fun _ => False)) (fun _ hk => hk.elim)
theorem Kept.alloc (h : Kept w W S) (o : Obj) : Kept w (W.alloc o) S:=h.below (fU (Below.refl _ _) o)
theorem Kept.drew (h : Kept w W S) : Kept w W.drew S:=h
theorem Kept.drewN (h : Kept w W S) (m : Nat) : Kept w (W.drewN m) S:=h
theorem Kept.setCell (h : Kept w W S) {p : Addr} (hp : S p.block ∨ w.heap.size≤p.block) (u : Value) : Kept w (W.setCell p u) S :=
 h.aGX (S2:=fun k => k = p.block) ⟨by simp [World.setCell],fun i _ hn => Below.heap_setCell W p u i hn⟩ (fun k hk => by rw [hk];exact hp)
theorem Kept.qA {g : Nat} (h : kC w W g none) (k : Kept W W2 S2) (hs : ∀ k,S2 k→w.heap.size≤k) : kC w W2 g none :=
 ⟨Nat.le_trans h.1 k.1,fun i hi hg hr => (k.2 i (Nat.lt_of_lt_of_le hi h.1) (fun h2 => by have:=hs i h2;omega)).trans (h.2 i hi hg hr)⟩
theorem aBf {g : Nat} {o : Obj} (hb : W.heap[g]? = some o) (hk : Kept W W2 S) (hne : ¬ S g) : W2.heap[g]? = some o:=(hk.2 g (pL hb) hne).trans hb
end
namespace Kd
section
variable {α : Type} {d : Kd α} {e base n c : Nat} {ok oki S S2 : Nat→Prop} {w w0 W W1 W2 : World} {v : Value} {A : Option Addr} {xs : List α} {i : Int} {cs : List Value}
end
end Kd
end Go.Proofs.aG.aX
end
section
/-! ### 46. Values that share: what is only read,with the blocks it lies in (its footprint 'ok'): zL,F (a row that is read),FK (an element's cells) -/
namespace Go.Proofs.aG.aX
open Go.RowKit
def zL (P : World→Prop) (W : World) (ok : Nat→Prop) : Prop:=∀ W' : World,(∀ k,ok k→k < W.heap.size→W'.heap[k]? = W.heap[k]?)→P W'
theorem xG {W W1 : World} {k : Nat} (h : W1.heap[k]? = W.heap[k]?) (hlt : k < W.heap.size) : k < W1.heap.size:=by
 rw [Array.getElem?_eq_getElem hlt] at h;exact (Array.getElem?_eq_some_iff.1 h).1
namespace zL
variable {P Q : World→Prop} {W W1 : World} {ok ok' : Nat→Prop}
theorem now (h : zL P W ok) : P W:=h W (fun _ _ _ => rfl)
theorem mono (h : zL P W ok) (hok : ∀ k,ok k→ok' k) : zL P W ok':=fun W' hW => h W' (fun k hk hlt => hW k (hok k hk) hlt)
theorem bound (h : zL P W ok) : zL P W (fun k => ok k∧k < W.heap.size):=fun W' hW => h W' (fun k hk hlt => hW k ⟨hk,hlt⟩ hlt)
theorem step (h : zL P W ok) (hm : ∀ k,ok k→k < W.heap.size→W1.heap[k]? = W.heap[k]?) : zL P W1 ok:=fun W' hW => h W' (fun k hk hlt => (hW k hk (xG (hm k hk hlt) hlt)).trans (hm k hk hlt))
theorem old (h : zL P W ok) (hb : Below W.heap.size W W1) : zL P W1 (fun k => ok k∧k < W.heap.size):=(h.bound).step (fun k _ hlt => hb.block k hlt)
end zL
namespace Kd
def F {α : Type} (d : Kd α) (W : World) (ok : Nat→Prop) (A : Option Addr) (n : Nat) (xs : List α) : Prop:=zL (fun W => d.C W A n xs) W ok
def FK {α : Type} (d : Kd α) (W : World) (ok : Nat→Prop) (x : α) (c : List Value) : Prop:=zL (fun W => d.K W x c) W ok
section
variable {α β : Type} {d : Kd α} {e base n n' cc g N : Nat} {ok ok' okp S : Nat→Prop} {w w0 w1 W W1 : World} {A A' : Option Addr} {u v v1 : Value} {xs : List α} {xs' : List β} {d' : Kd β} {x : α} {c : List Value}
theorem aSn (h : F d W ok A n xs) : d.C W A n xs:=zL.now h
theorem ZJ (h : F d W ok A n xs) (hok : ∀ k,ok k→ok' k) : F d W ok' A n xs:=zL.mono h hok
theorem aES (h : F d W ok A n xs) : F d W (fun k => ok k∧k < W.heap.size) A n xs:=zL.bound h
theorem aJm (h : F d W ok A n xs) (hm : ∀ k,ok k→k < W.heap.size→W1.heap[k]? = W.heap[k]?) : F d W1 ok A n xs:=zL.step h hm
theorem OW (h : F d W ok A n xs) (hb : Below W.heap.size W W1) : F d W1 ok A n xs:=aJm h (fun k _ hlt => hb.block k hlt)
theorem aLY (h : F d W ok A n xs) (o : Obj) : F d (W.alloc o) ok A n xs:=OW h (fU (Below.refl _ _) o)
theorem aOP (h : F d W ok A n xs) : F d W.drew ok A n xs:=OW h (FL (Below.refl _ _))
theorem aLX (h : F d W ok A n xs) (m : Nat) : F d (W.drewN m) ok A n xs:=OW h (fV (Below.refl _ _) m)
theorem aSp (h : F d W ok A n xs) {p : Addr} (hok : ∀ k,ok k→k≠p.block) (u : Value) : F d (W.setCell p u) ok A n xs:=aJm h (fun k hk _ => Below.heap_setCell W p u k (hok k hk))
theorem aSo (d : Kd α) (W : World) (ok : Nat→Prop) : F d W ok none ([] : List α).length []:=fun W' _ => aSr d W'
theorem aJo (h : F d W ok A n xs) (hbase : ∀ k,v.ownBlock = some k→W.heap.size≤k) (hb : Below W.heap.size W W1) : F d W1 (fun k => ok k∧some k≠v.ownBlock) A n xs :=
 ZJ (zL.old h hb) (fun k hk => ⟨hk.1,fun he => by have:=hbase k he.symm;have:=hk.2;omega⟩)
theorem aJn (h : F d W ok A n xs) (a : Nat) (ha : W.heap.size≤a) : F d W (fun k => ok k∧k≠a) A n xs:=ZJ (aES h) (fun k hk => ⟨hk.1,by have:=hk.2;omega⟩)
theorem aLZ (h : F d W (fun k => ok k∧some k≠v.ownBlock) A n xs) (hg : W.grownBy W1 v.ownBlock) (hat : v1.ownBlock = v.ownBlock ∨ ∃ b,v1.ownBlock = some b∧W.heap.size≤b) : F d W1 (fun k => ok k∧some k≠v1.ownBlock) A n xs:=by
 refine ZJ (zL.step (aES h) (fun k hk hlt => hg.block k hlt hk.1.2)) (fun k hk => ⟨hk.1.1,?_⟩)
 rcases hat with hat | ⟨b,hb,hle⟩
 ·rw [hat];exact hk.1.2
 ·rw [hb]
  intro he;injection he with he;have:=hk.2;omega
theorem aMa (h : d.M W base ok x c) : FK d W ok x c:=fun _ hW => d.K_of_M (aJc h hW)
end
end Kd
end Go.Proofs.aG.aX
end
section
/-! ### 39. Stores into a row that may begin inside its block (Q): aOG,aCK,aMY;scalars: aOH,aOE -/
namespace Go.Proofs.aG.aX
open Go.RowKit
namespace Kd
section
variable {α : Type} {d : Kd α} {e base g o n cap : Nat} {ok okp : Nat→Prop} {w W : World} {v : Value} {xs : List α}
theorem aOG (h : d.Q e w base ok v xs) (hp : 0 < xs.length) : ∃ g o cap,v = .slice (some ⟨g,o,none⟩) xs.length cap∧base≤g∧g < w.heap.size ∧ ∃ cells,w.heap[g]? = some (.cells cells e (0,0)):=by
 obtain ⟨h0,inner,hq,hr⟩:=h
 rcases hq.2 with ⟨h1,_⟩ | ⟨g,off,cap,cur,rfl,hb,hh,r⟩
 ·omega
 ·exact ⟨g,off * d.sz,cap,rfl,hb,pL hh,cur,hh⟩
theorem aCK (h : d.Q e W base ok (.slice (some ⟨g,o,none⟩) n cap) xs) (z : α) (i : Int) (h0 : 0≤i) (h1 : i < n) :
  ∃ c,c.length = d.sz∧d.M W base (fun k => ok k∧k≠g) (xs.getD i.toNat z) c∧(∀ j u,c[j]? = some u→W.cell? ⟨g,o + i.toNat * d.sz + j,none⟩ = some u) ∧ ∀ j,W.frozen? ⟨g,o + i.toNat * d.sz + j,none⟩ = false:=by
 obtain ⟨hn,hnc,hC⟩:=RQ h;obtain ⟨_,inner,ho,hr⟩:=h;have hil : i.toNat < xs.length:=by omega
 have hseg : i.toNat * d.sz + d.sz≤inner.length:=by rw [hr.1,← Nat.succ_mul];exact Nat.mul_le_mul_right _ hil
 have hM:=hr.2 i.toNat _ (List.getElem?_eq_getElem hil);refine ⟨(inner.drop (i.toNat * d.sz)).take d.sz,by rw [List.length_take,List.length_drop];omega,?_,fun j u hu => ?_,fun j => ?_⟩
 ·rw [List.getD_eq_getElem?_getD,List.getElem?_eq_getElem hil]
  exact d.M_mono (fun k hk => ⟨hk.1,fun he => hk.2 (by rw [he];simp [Value.ownBlock])⟩) hM
 ·rw [List.getElem?_take] at hu
  split at hu
  ·rw [List.getElem?_drop] at hu
   subst hn;obtain ⟨ad,he,hc⟩:=aDg ho (by omega);injection he with he;subst he;have:=hc _ u hu
   rwa [aIU,← Nat.add_assoc] at this
  ·cases hu
 ·obtain ⟨_,cells,hc⟩:=aKa ho g (by simp [Value.ownBlock])
  exact aC hc _
theorem aMY (h : d.Q e W base ok (.slice (some ⟨g,o,none⟩) n cap) xs) (i : Int) (h0 : 0≤i) (h1 : i < n) {c seg : List Value} {j : Nat} (hcl : c.length = d.sz) (hcc : ∀ j u,c[j]? = some u→W.cell? ⟨g,o + i.toNat * d.sz + j,none⟩ = some u)
  (hj : j + seg.length≤d.sz) {x' : α} (hM : d.M W base okp x' (c.take j ++ seg ++ c.drop (j + seg.length))) (hokp : ∀ k,okp k→ok k∧k≠g) :
  d.Q e (W.setCells g (o + i.toNat * d.sz + j) seg) base ok (.slice (some ⟨g,o,none⟩) n cap) (xs.set i.toNat x')∧W.grownBy (W.setCells g (o + i.toNat * d.sz + j) seg) (some g):=by
 obtain ⟨hn,hnc,_⟩:=RQ h;obtain ⟨hok,inner,ho,hr⟩:=h;have hil : i.toNat < xs.length:=by omega
 have hseg : i.toNat * d.sz + d.sz≤inner.length:=by rw [hr.1,← Nat.succ_mul];exact Nat.mul_le_mul_right _ hil
 have hin : inner.length = n * d.sz:=by rw [hr.1,hn]
 obtain ⟨ho1,ho2⟩:=ho
 rcases ho2 with ⟨hz,_⟩ | ⟨g',off,cap',cur,hv,hb,hh,hnc',hcm,hcs,ht⟩
 ·omega
 injection hv with ha _ hc;injection ha with ha;injection ha with hg hoff;subst hg;subst hc;subst hoff;have hcap : n * d.sz≤cap * d.sz:=Nat.mul_le_mul_right _ hnc;have hcs' : cur.size = off * d.sz + cap * d.sz:=by rw [hcs,Nat.add_mul]
 have hfit : off * d.sz + i.toNat * d.sz + j + seg.length≤cur.size:=by omega
 obtain ⟨cur',h3,h4,h5⟩:=GI seg (off * d.sz + i.toNat * d.sz + j) W cur hh hfit;obtain ⟨s1,s2,s3,s4⟩:=DZ g seg (off * d.sz + i.toNat * d.sz + j) W;have hfar : ∀ k,k≠g→(W.setCells g (off * d.sz + i.toNat * d.sz + j) seg).heap[k]? = W.heap[k]? := fun k hk => GJ seg _ k hk
 rw [← hn] at ht
 -- the row's cells are the block's from off on
 have hat : ∀ q,q < n * d.sz→cur.toList[off * d.sz + q]? = inner[q]? := by
  intro q hq;rw [← ht,List.getElem?_take,if_pos hq,List.getElem?_drop]
 have hcin : ∀ q,q < d.sz→c[q]? = inner[i.toNat * d.sz + q]? := by
  intro q hq;have hq' : q < c.length:=by omega
  have h6:=hcc q _ (List.getElem?_eq_getElem hq');rw [cell_of_row W g _ cur e (0,0) hh] at h6;rw [List.getElem?_eq_getElem hq',← h6,← hat _ (by omega),Array.getElem?_toList,Nat.add_assoc]
 refine ⟨⟨hok,inner.take (i.toNat * d.sz + j) ++ seg ++ inner.drop (i.toNat * d.sz + j + seg.length),⟨?_,.inr ⟨g,off,cap,cur',by rw [List.length_set,hn],hb,h3,by rw [List.length_set,← hn];exact hnc,hcm,by rw [h4,hcs],?_⟩⟩,?_⟩,
  ⟨s1,s2,s3,by rw [s4];exact Nat.le_refl _,fun k _ hk => hfar k (fun he => hk (by rw [he]))⟩⟩
 ·rw [List.length_set]
  simp only [List.length_append,List.length_take,List.length_drop];rw [hr.1] at hseg ⊢;omega
 ·rw [List.length_set,← hn]
  apply List.ext_getElem?;intro q;rw [List.getElem?_take,List.getElem?_drop,h5];rw [GK cur.toList seg (off * d.sz + i.toNat * d.sz + j) (by rw [Array.length_toList];omega) (off * d.sz + q),GK inner seg (i.toNat * d.sz + j) (by omega) q]
  by_cases hq : q < n * d.sz
  ·rw [if_pos hq]
   by_cases hq1 : q < i.toNat * d.sz + j
   ·rw [if_pos (by omega),if_pos hq1,hat q hq]
   ·rw [if_neg (by omega),if_neg hq1]
    by_cases hq2 : q < i.toNat * d.sz + j + seg.length
    ·rw [if_pos (by omega),if_pos hq2]
     congr 1
     omega
    ·rw [if_neg (by omega),if_neg hq2,hat q hq]
  ·rw [if_neg hq,if_neg (by omega),if_neg (by omega),List.getElem?_eq_none (by omega)]
 ·refine ⟨?_,fun m p hm => ?_⟩
  ·rw [List.length_set]
   simp only [List.length_append,List.length_take,List.length_drop];rw [hr.1] at hseg ⊢;omega
  ·have hml : m < xs.length:=by
    have:=(List.getElem?_eq_some_iff.1 hm).1
    rwa [List.length_set] at this
   have hmfit : m * d.sz + d.sz≤inner.length:=by rw [hr.1,← Nat.succ_mul];exact Nat.mul_le_mul_right _ hml
   have hgo : some g = (Value.slice (some ⟨g,off * d.sz,none⟩) n cap).ownBlock:=by simp [Value.ownBlock]
   by_cases hmi : m = i.toNat
   ·subst hmi
    rw [List.getElem?_set_self (by omega)] at hm;injection hm with hm;subst hm;have hcells : ((inner.take (i.toNat * d.sz + j) ++ seg ++ inner.drop (i.toNat * d.sz + j + seg.length)).drop (i.toNat * d.sz)).take d.sz = c.take j ++ seg ++ c.drop (j + seg.length):=by
     apply List.ext_getElem?;intro q;rw [List.getElem?_take,List.getElem?_drop,GK inner seg _ (by omega),GK c seg j (by omega) q]
     by_cases hq : q < d.sz
     ·rw [if_pos hq,hcin q hq]
      by_cases hq1 : q < j
      ·rw [if_pos (by omega),if_pos hq1]
      ·rw [if_neg (by omega),if_neg hq1]
       by_cases hq2 : q < j + seg.length
       ·rw [if_pos (by omega),if_pos hq2]
        congr 1
        omega
       ·rw [if_neg (by omega),if_neg hq2]
     ·rw [if_neg hq,if_neg (by omega),if_neg (by omega),List.getElem?_eq_none (by omega)]
    rw [hcells];refine d.M_mono (fun k hk => ?_) (d.M_move (w1:=W.setCells g (off * d.sz + i.toNat * d.sz + j) seg) (fun k hk => hfar k (hokp k hk).2) hM);exact ⟨(hokp k hk).1,fun he => (hokp k hk).2 (by rw [← hgo] at he;injection he)⟩
   ·rw [List.getElem?_set_ne (by omega)] at hm
    have hold:=hr.2 m p hm;have hcells : ((inner.take (i.toNat * d.sz + j) ++ seg ++ inner.drop (i.toNat * d.sz + j + seg.length)).drop (m * d.sz)).take d.sz = (inner.drop (m * d.sz)).take d.sz:=by
     apply List.ext_getElem?;intro q;rw [List.getElem?_take,List.getElem?_take,List.getElem?_drop,List.getElem?_drop,GK inner seg _ (by omega)]
     by_cases hq : q < d.sz
     ·rw [if_pos hq,if_pos hq]
      rcases Nat.lt_or_gt_of_ne hmi with hlt | hgt
      ·have : m * d.sz + d.sz≤i.toNat * d.sz:=by rw [← Nat.succ_mul];exact Nat.mul_le_mul_right _ hlt
       rw [if_pos (by omega)]
      ·have : i.toNat * d.sz + d.sz≤m * d.sz:=by rw [← Nat.succ_mul];exact Nat.mul_le_mul_right _ hgt
       rw [if_neg (by omega),if_neg (by omega)]
     ·rw [if_neg hq,if_neg hq]
    rw [hcells];refine d.M_move (fun k hk => hfar k (fun he => hk.2 (by rw [he];exact hgo))) hold
end
section
variable {α : Type} {enc : α→Value} {h1 : ∀ x,(enc x).oneCell' = true} {e base g o n cap : Nat} {ok : Nat→Prop} {W : World} {xs : List α}
theorem aOH (d : α) (h : (scalar enc h1).Q e W base ok (.slice (some ⟨g,o,none⟩) n cap) xs) (i : Int) (h0 : 0≤i) (hi : i < n) : W.cell? ⟨g,o + i.toNat,none⟩ = some (enc (aHr d xs i))∧W.frozen? ⟨g,o + i.toNat,none⟩ = false:=by
 obtain ⟨c,_,hM,hcc,hf⟩:=aCK h d i h0 hi;have hM' : c = [enc (xs.getD i.toNat d)]:=hM;subst hM';have h2:=hcc 0 _ rfl;have h3:=hf 0;rw [show (scalar enc h1).sz = 1 from rfl,Nat.mul_one,Nat.add_zero] at h2 h3;exact ⟨h2,h3⟩
theorem aOE (h : (scalar enc h1).Q e W base ok (.slice (some ⟨g,o,none⟩) n cap) xs) (i : Int) (h0 : 0≤i) (hi : i < n) (x : α) : (scalar enc h1).Q e (W.setCell ⟨g,o + i.toNat,none⟩ (enc x)) base ok (.slice (some ⟨g,o,none⟩) n cap) (xs.set i.toNat x)∧W.grownBy (W.setCell ⟨g,o + i.toNat,none⟩ (enc x)) (some g):=by
 have hp : 0 < xs.length:=by have:=(RQ h).1;omega
 obtain ⟨c,hcl,_,hcc,_⟩:=aCK h (xs[0]'hp) i h0 hi;have h2:=aMY h i h0 hi (c:=c) (seg:=[enc x]) (j:=0) (okp:=fun _ => False) (x':=x) hcl hcc (Nat.le_refl 1) (by
  have hl : c.length = 1:=hcl;show c.take 0 ++ [enc x] ++ c.drop (0 + 1) = [enc x];rw [List.drop_eq_nil_of_le (by omega)];rfl) (fun _ hk => hk.elim)
 rw [show (scalar enc h1).sz = 1 from rfl,Nat.mul_one,Nat.add_zero] at h2;exact h2
end
end Kd
end Go.Proofs.aG.aX
end
section
/-! ### 42. append(v,make([]T,n)...): the operation comes as_ append with the number in the second place -/
namespace Go.Proofs.aG.aX
open Go.RowKit
section
variable {P : Program}
end
namespace Kd
section
variable {P : Program} {ops : Array Oper} {rest : List Oper} {o : Oper} {a : Act} {Q : Exit→Act→World→Prop} {Kc : Act→World→Prop} {α : Type}
end
/-! #### the same for rows whose elements lie apart -/
section
variable {α : Type} {d : Kd α} {e : Nat} {w : World} {base : Nat} {ok : Nat→Prop} {v : Value} {xs : List α}
end
section
variable {P : Program} {ops : Array Oper} {rest : List Oper} {o : Oper} {a : Act} {Q : Exit→Act→World→Prop} {Kc : Act→World→Prop} {α : Type}
end
end Kd
end Go.Proofs.aG.aX
end
section
/-! ### 47. N: a row of the call's own whose elements share (what they lead to is only read) -/
namespace Go.Proofs.aG.aX
open Go.RowKit
namespace Kd
def chunks (sz : Nat) (n : Nat) (inner : List Value) : List (List Value):=(List.range n).map fun j => (inner.drop (j * sz)).take sz
theorem pA (sz n : Nat) (inner : List Value) : (chunks sz n inner).length = n:=by simp [chunks]
theorem aGo {sz n : Nat} {inner : List Value} {j : Nat} (hj : j < n) : (chunks sz n inner)[j]? = some ((inner.drop (j * sz)).take sz):=by simp [chunks,hj]
theorem QX {sz n : Nat} {inner : List Value} {j : Nat} {c : List Value} (h : (chunks sz n inner)[j]? = some c) : c = (inner.drop (j * sz)).take sz:=by
 have hj : j < n:=by have:=(List.getElem?_eq_some_iff.1 h).1;rwa [pA] at this
 rw [aGo hj] at h;injection h with h;exact h.symm
theorem aHk {α : Type} {Rr : α→List Value→Prop} {sz : Nat} {xs : List α} {inner : List Value} (h : eF Rr sz xs inner) (hR : ∀ x c,Rr x c→c.length = sz ∧ ∀ u∈c,u.oneCell' = true) : eF (fun x cs => cs = x∧cs.length = sz ∧ ∀ u∈cs,u.oneCell' = true) sz (chunks sz xs.length inner) inner:=by
 refine ⟨by rw [pA];exact h.1,fun j p hj => ?_⟩;have hjl : j < xs.length:=by have:=(List.getElem?_eq_some_iff.1 hj).1;rwa [pA] at this
 have hp:=QX hj;exact ⟨hp.symm,hR _ _ (h.2 j _ (List.getElem?_eq_getElem hjl))⟩
section
variable {α : Type} {d : Kd α} {e base n cc g : Nat} {ok ok' okp S : Nat→Prop} {w w1 W W1 : World} {A : Option Addr} {u v v1 : Value} {xs : List α} {x : α} {c : List Value}
def N {α : Type} (d : Kd α) (e : Nat) (w : World) (base : Nat) (ok : Nat→Prop) (v : Value) (xs : List α) : Prop :=
 (∀ k,v.ownBlock = some k→ok k) ∧ ∃ rows : List (List Value),rows.length = xs.length∧(raw d.sz).R e w base (fun k => some k = v.ownBlock) v rows ∧ ∀ (j : Nat) (x : α) (c : List Value),xs[j]? = some x→rows[j]? = some c→FK d w (fun k => ok k∧some k≠v.ownBlock) x c
theorem R_N (h : d.R e w base ok v xs) : N d e w base ok v xs:=by
 obtain ⟨h0,inner,ho,hr⟩:=h;refine ⟨h0,chunks d.sz xs.length inner,pA _ _ _,⟨fun k hk => hk.symm,inner,by rw [pA];exact ho,aHk hr (fun x c hp => ⟨d.K_len (d.K_of_M hp),d.K_one (d.K_of_M hp)⟩)⟩,fun j x c hx hc => ?_⟩;rw [QX hc];exact aMa (hr.2 j x hx)
theorem aRH (d : Kd α) (e : Nat) (w : World) (base : Nat) (ok : Nat→Prop) : N d e w base ok (.slice none 0 0) []:=R_N (AQ _ _ _ _ _)
end
end Kd
end Go.Proofs.aG.aX
end
section
/-! ### 48. N's events: append,a whole row appended,zeros appended,literals,make,stores,cuts,an element taken out -/
namespace Go.Proofs.aG.aX
open Go.RowKit
namespace Kd
section
variable {α : Type} {d : Kd α} {e base n cap g : Nat} {ok ok' okp : Nat→Prop} {w w1 W : World} {v v1 : Value} {xs ys : List α}
end
section
variable {P : Program} {ops : Array Oper} {rest : List Oper} {o : Oper} {a : Act} {Q : Exit→Act→World→Prop} {Kc : Act→World→Prop} {α : Type}
end
end Kd
end Go.Proofs.aG.aX
end
section
namespace Go.Proofs.aG.eN
open Go.RowKit Go.Proofs.aG.aX
namespace Kd
open Go.Proofs.aG.aX.Kd
end Kd
namespace Kd
open Go.Proofs.aG.aX.Kd
section
variable {α : Type} {d : Kd α} {e base g N : Nat} {ok : Nat→Prop} {W w1 : World} {u v : Value} {xs : List α}
end
end Kd
theorem fZ (k k' : IntKind) (x y : Int) : Builtin.max2 (.int k x) (.int k' y) = pure (.int k (if x < y then y else x)):=by simp only [Builtin.max2,gt_iff_lt]
theorem fX (k k' : IntKind) (x y : Int) : Builtin.min2 (.int k x) (.int k' y) = pure (.int k (if y < x then y else x)):=by simp only [Builtin.min2]
theorem gZ (ats : Array TypeId) (ty : TypeId) (a b : Value) : Builtin.max_ ats ty #[a,b] = (Builtin.max2 a b >>= fun s => pure s):=by simp only [Builtin.max_,List.foldlM_cons,List.foldlM_nil]
theorem gY (ats : Array TypeId) (ty : TypeId) (a b : Value) : Builtin.min_ ats ty #[a,b] = (Builtin.min2 a b >>= fun s => pure s):=by simp only [Builtin.min_,List.foldlM_cons,List.foldlM_nil]
theorem fD (ats : Array TypeId) (ty : TypeId) (a b c : Value) : Builtin.max_ ats ty #[a,b,c] = (Builtin.max2 a b >>= fun s => Builtin.max2 s c >>= fun s => pure s):=by simp only [Builtin.max_,List.foldlM_cons,List.foldlM_nil]
theorem fC (ats : Array TypeId) (ty : TypeId) (a b c : Value) : Builtin.min_ ats ty #[a,b,c] = (Builtin.min2 a b >>= fun s => Builtin.min2 s c >>= fun s => pure s):=by simp only [Builtin.min_,List.foldlM_cons,List.foldlM_nil]
theorem fY (ats : Array TypeId) (ty : TypeId) (a b c d : Value) : Builtin.max_ ats ty #[a,b,c,d] = (Builtin.max2 a b >>= fun s => Builtin.max2 s c >>= fun s => Builtin.max2 s d >>= fun s => pure s):=by simp only [Builtin.max_,List.foldlM_cons,List.foldlM_nil]
theorem fW (ats : Array TypeId) (ty : TypeId) (a b c d : Value) : Builtin.min_ ats ty #[a,b,c,d] = (Builtin.min2 a b >>= fun s => Builtin.min2 s c >>= fun s => Builtin.min2 s d >>= fun s => pure s):=by simp only [Builtin.min_,List.foldlM_cons,List.foldlM_nil]
end Go.Proofs.aG.eN
namespace Go.Proofs.aG.aX
open Go.RowKit
section
variable {P : Program} {ops : Array Oper} {rest : List Oper} {o : Oper} {a : Act} {Q : Exit→Act→World→Prop} {W : World}
theorem bB {f : FuncId} {as : Array Operand} {ts : Array TypeId} (_ho : o.op = .call { callee:=.value (.func f),args:=as,argTypes:=ts }) (h : wpList P ops Q (o :: rest) a W) : wpList P ops Q (o :: rest) a W:=h
theorem rH {b : Builtin} {xs : Array Operand} {ts : Array TypeId} (_ho : o.op = .call { callee:=.builtin b,args:=xs,argTypes:=ts }) (h : wpList P ops Q (o :: rest) a W) : wpList P ops Q (o :: rest) a W:=h
end
theorem nP (w : World) (n : Nat) : w.drewN n = w.drewN n:=rfl
namespace Kd
section
variable {α : Type} {d : Kd α} {e base : Nat} {ok : Nat→Prop} {W w1 : World} {v : Value} {xs : List α}
end
section
variable {α : Type} {d : Kd α} {e base g n cap : Nat} {ok oki okp : Nat→Prop} {W : World} {xs : List α} {i : Int} {c : List Value}
end
section
variable {α : Type} {d : Kd α} {e base b b' g N : Nat} {ok ok1 : Nat→Prop} {W W2 w1 : World} {u v : Value} {xs ys : List α} {S : Nat→Prop}
end
end Kd
end Go.Proofs.aG.aX
namespace Go.Proofs.aG.aX
open Go.RowKit
namespace Kd
def V {α : Type} (d : Kd α) (_e : Nat) (W : World) (_base : Nat) (ok : Nat→Prop) (v : Value) (xs : List α) : Prop:=∃ A c,v = .slice A xs.length c∧xs.length≤c∧F d W ok A xs.length xs
section
variable {α β : Type} {d : Kd α} {e base base' n m c g N' lo hi : Nat} {ok ok' S : Nat→Prop} {w W w1 : World} {A : Option Addr} {ad : Addr} {u v v1 : Value} {xs : List α}
theorem JN (h : V d e W base ok v xs) (hF : ∀ A,F d W ok A xs.length xs→F d w1 ok' A xs.length xs) : V d e w1 base' ok' v xs:=by
 obtain ⟨A,c,hv,hl,hf⟩:=h;exact ⟨A,c,hv,hl,hF A hf⟩
theorem ZE (h : V d e W base ok v xs) : ∃ A c,v = .slice A xs.length c:=by
 obtain ⟨A,c,hv,_⟩:=h;exact ⟨A,c,hv⟩
theorem aOC (h : V d e W base ok (.slice A n c) xs) : n = xs.length∧n≤c∧F d W ok A xs.length xs:=by
 obtain ⟨A',c',hv,hl,hf⟩:=h;injection hv with ha hn hc;subst ha;subst hc;exact ⟨hn,by rw [hn];exact hl,hf⟩
theorem aIW (h : V d e W base ok (.slice A n c) xs) : n = xs.length∧n≤c∧d.C W A xs.length xs:=⟨(aOC h).1,(aOC h).2.1,aSn (aOC h).2.2⟩
theorem aMW (d : Kd α) (e : Nat) (W : World) (base : Nat) (ok : Nat→Prop) : V d e W base ok (.slice none 0 0) []:=⟨none,0,rfl,Nat.le_refl _,aSo d W ok⟩
theorem sM (h : V d e W base ok v xs) (hok : ∀ k,ok k→ok' k) : V d e W base ok' v xs:=JN h (fun _ hf => ZJ hf hok)
theorem aEG (h : V d e W base ok v xs) (_ : base'≤base) : V d e W base' ok v xs:=h
theorem ZF (h : V d e W base ok v xs) (hb : Below W.heap.size W w1) : V d e w1 base ok v xs:=JN h (fun _ hf => OW hf hb)
theorem nF (h : V d e W base ok v xs) (o : Obj) : V d e (W.alloc o) base ok v xs:=JN h (fun _ hf => aLY hf o)
theorem rO (h : V d e W base ok v xs) : V d e W.drew base ok v xs:=JN h (fun _ hf => aOP hf)
theorem nE (h : V d e W base ok v xs) (m : Nat) : V d e (W.drewN m) base ok v xs:=JN h (fun _ hf => aLX hf m)
theorem MF (h : V d e W base ok v xs) {p : Addr} (hok : ∀ k,ok k→k≠p.block) (u : Value) : V d e (W.setCell p u) base ok v xs:=JN h (fun _ hf => aSp hf hok u)
theorem aLL (h : V d e W base (fun k => ok k∧some k≠u.ownBlock) v xs) (hg : W.grownBy w1 u.ownBlock) (hat : v1.ownBlock = u.ownBlock ∨ ∃ b,v1.ownBlock = some b∧W.heap.size≤b) : V d e w1 base (fun k => ok k∧some k≠v1.ownBlock) v xs:=JN h (fun _ hf => aLZ hf hg hat)
theorem RL (h : V d e W base (fun k => ok k∧some k≠v.ownBlock) u xs) (hg : W.grownBy w1 v.ownBlock) (hat : v1.ownBlock = v.ownBlock ∨ ∃ b,v1.ownBlock = some b∧W.heap.size≤b) : V d e w1 base (fun k => ok k∧some k≠v1.ownBlock) u xs:=aLL h hg hat
theorem aIX (h : V d e W base ok v xs) (hbase : ∀ k,u.ownBlock = some k→W.heap.size≤k) (hb : Below W.heap.size W w1) : V d e w1 base (fun k => ok k∧some k≠u.ownBlock) v xs:=JN h (fun _ hf => aJo hf hbase hb)
theorem RJ (h : V d e W base ok v xs) (a : Nat) (ha : W.heap.size≤a) : V d e W base (fun k => ok k∧k≠a) v xs:=JN h (fun _ hf => aJn hf a ha)
end
end Kd
end Go.Proofs.aG.aX
end
section
/-! ### 50. A region's order in a table,made once a region: each step asks the table (numbers alone),not the operations -/
namespace Go.Proofs.aG.dI
open Go.Proofs.aG.aX (aA)
def DA (md : Region.Mode) (o : Oper) : List Nat:=(o.after.toList.filter (fun e => Region.binds md e)).map (fun e => e.on)
def YU (md : Region.Mode) (ops : Array Oper) (i : Nat) (oi : Oper) : List Nat:=(List.range ops.size).filter fun j => !(j == i) && match ops[j]? with
 | some oj => !(oj.after.any (fun e => Region.binds md e && e.on == i) || oi.apart ops oj)
 | none => false
def pI (md : Region.Mode) (ops : Array Oper) : Bool×List (List Nat×List Nat):=(Region.noSelect ops,(List.range ops.size).map fun i => match ops[i]? with
 | some o => (DA md o,YU md ops i o)
 | none => ([],[]))
def wY (T : List (List Nat×List Nat)) (l : List Bool) (i : Nat) : Bool:=!l.getD i true && match T[i]? with
 | some r => r.1.all (fun j => l.getD j false)
 | none => false
def JZ (T : List (List Nat×List Nat)) (l : List Bool) : List Nat:=(List.range T.length).filter (wY T l)
def aAG (T : List (List Nat×List Nat)) (l : List Bool) (i : Nat) : Bool:=match T[i]? with
 | some r => r.2.all (fun j => l.getD j true)
 | none => false
def OR (T : List (List Nat×List Nat)) (l : List Bool) : Bool:=(List.range T.length).all fun j => !l.getD j false || match T[j]? with
 | some r => r.1.all (fun k => l.getD k false)
 | none => true
def KB (T : List (List Nat×List Nat)) (i : Nat) : Nat→Nat→Bool
 | 0,_ => false
 | fuel + 1,d => match T[d]? with
  | some r => r.1.any fun j => j == i || KB T i fuel j
  | none => false
def aDp (T : List (List Nat×List Nat)) (l : List Bool) (ds : List Nat) (i : Nat) : Bool:=ds.all fun d => l.getD d true || KB T i T.length d
section
variable {md : Region.Mode} {ops : Array Oper} {T : Bool×List (List Nat×List Nat)} {l l' li lj lk : Array Bool} {ds : List Nat} {i j k : Nat}
theorem gd (l : Array Bool) (j : Nat) (b : Bool) : l.getD j b = l.toList.getD j b:=by simp [Array.getD_eq_getD_getElem?,List.getD_eq_getElem?_getD]
theorem TW (o : Oper) (p : Nat→Bool) : o.after.all (fun e => !Region.binds md e || p e.on) = (DA md o).all p:=by
 unfold DA;rw [← Array.all_toList]
 induction o.after.toList with
 | nil => rfl
 | cons e r ih =>
  rw [List.all_cons,ih,List.filter_cons]
  cases h : Region.binds md e <;> simp
theorem aFO (o : Oper) (p : Nat→Bool) : o.after.any (fun e => Region.binds md e && p e.on) = (DA md o).any p:=by
 unfold DA;rw [← Array.any_toList]
 induction o.after.toList with
 | nil => rfl
 | cons e r ih =>
  rw [List.any_cons,ih,List.filter_cons]
  cases h : Region.binds md e <;> simp
theorem wW : (pI md ops).2.length = ops.size:=by simp [pI]
theorem CU {o : Oper} (h : ops[i]? = some o) : (pI md ops).2[i]? = some (DA md o,YU md ops i o):=by
 have hi:=(Array.getElem?_eq_some_iff.1 h).1;unfold pI;rw [List.getElem?_map,List.getElem?_range hi,Option.map_some,h]
theorem CV (h : ops[i]? = none) : (pI md ops).2[i]? = none:=by
 have hi : ops.size≤i:=Array.getElem?_eq_none_iff.1 h;exact List.getElem?_eq_none (by rw [wW];exact hi)
theorem aBZ : wY (pI md ops).2 l.toList i = (!l.getD i true && ((ops[i]?).map (·.after.all fun e => !Region.binds md e || l.getD e.on false)).getD false):=by
 unfold wY;rw [gd]
 cases h : ops[i]? with
 | none => rw [CV h];rfl
 | some o =>
  rw [CU h];simp only [Option.map_some,Option.getD_some];rw [← TW];simp only [gd]
theorem GP : Region.ready md ops l = JZ (pI md ops).2 l.toList:=by
 unfold Region.ready JZ;rw [wW];refine List.filter_congr (fun i _ => ?_);rw [aBZ]
theorem aEr : Region.free md ops l i = aAG (pI md ops).2 l.toList i:=by
 unfold Region.free aAG
 cases h : ops[i]? with
 | none => rw [CV h]
 | some oi =>
  rw [CU h];simp only [YU];rw [List.all_filter]
  congr 1
  funext j
  rw [gd]
  cases hj : ops[j]? with
  | none => cases (j == i) <;> cases (l.toList.getD j true) <;> simp
  | some oj =>
   cases (j == i) <;> cases (l.toList.getD j true) <;> cases (oj.after.any (fun e => Region.binds md e && e.on == i) || oi.apart ops oj) <;> simp_all
theorem aGn : Region.JD md ops l = OR (pI md ops).2 l.toList:=by
 unfold Region.JD OR;rw [wW]
 congr 1
 funext j
 rw [gd]
 cases h : ops[j]? with
 | none => rw [CV h]
 | some o =>
  rw [CU h];simp only;rw [← TW];simp only [gd]
theorem aAh : ∀ (fuel d : Nat),Region.uD md ops i fuel d = KB (pI md ops).2 i fuel d
 | 0,_ => rfl
 | fuel + 1,d => by
  unfold Region.uD KB
  cases h : ops[d]? with
  | none => rw [CV h]
  | some o =>
   rw [CU h];simp only;rw [← aFO]
   congr 1
   funext e
   rw [aAh fuel]
theorem aKv : Region.aAt md ops l ds i = aDp (pI md ops).2 l.toList ds i:=by
 unfold Region.aAt aDp;rw [wW]
 congr 1
 funext d
 rw [gd,aAh]
theorem LK (h : wY T.2 l.toList i = true) (hT : pI md ops = T) : (Region.ready md ops l).contains i = true:=by
 subst hT;rw [GP];unfold JZ;rw [List.contains_iff_mem,List.mem_filter,List.mem_range];refine ⟨?_,h⟩;unfold wY at h;rw [Bool.and_eq_true] at h
 cases hq : (pI md ops).2[i]? with
 | none => rw [hq] at h;simp at h
 | some r => exact (List.getElem?_eq_some_iff.1 hq).1
theorem PQ (h : (l.toList.set i true == l'.toList) = true) : (l.setIfInBounds i true == l') = true:=by
 rw [beq_iff_eq] at h ⊢;apply Array.ext';rw [Array.toList_setIfInBounds];exact h
def aRD (T : Bool×List (List Nat×List Nat)) (l l' : List Bool) (i : Nat) : Bool:=T.1 && aAG T.2 l i && wY T.2 l i && (l.set i true == l')
theorem bS (hT : pI md ops = T) (h : aRD T l.toList l'.toList i = true) : aLJ md ops l l' i = true:=by
 simp only [aRD,Bool.and_eq_true] at h;obtain ⟨⟨⟨h1,h2⟩,h3⟩,h4⟩:=h;have h5:=LK h3 hT;have h6:=PQ h4;subst hT;simp only [aLJ,Bool.and_eq_true];exact ⟨⟨⟨h1,by rw [aEr];exact h2⟩,h5⟩,h6⟩
def aGY (T : Bool×List (List Nat×List Nat)) (ds : List Nat) (l l' : List Bool) (i : Nat) : Bool:=T.1 && aAG T.2 l i && wY T.2 l i && OR T.2 l && aDp T.2 l ds i && (l.set i true == l')
theorem aJN (hT : pI md ops = T) (h : aGY T ds l.toList l'.toList i = true) : ZV md ops ds l l' i = true:=by
 simp only [aGY,Bool.and_eq_true] at h;obtain ⟨⟨⟨⟨⟨h1,h2⟩,h3⟩,h4⟩,h5⟩,h6⟩:=h;have h7:=LK h3 hT;have h8:=PQ h6;subst hT;simp only [ZV,Bool.and_eq_true];exact ⟨⟨⟨⟨⟨h1,by rw [aEr];exact h2⟩,h7⟩,by rw [aGn];exact h4⟩,by rw [aKv];exact h5⟩,h8⟩
theorem jO (hT : pI md ops = T) (h : (JZ T.2 l.toList == [i] && l.toList.set i true == l'.toList) = true) : KA md ops l l' i = true:=by
 simp only [Bool.and_eq_true] at h;obtain ⟨h1,h2⟩:=h;subst hT;simp only [KA,Bool.and_eq_true];exact ⟨by rw [GP];exact h1,PQ h2⟩
theorem aND (hT : pI md ops = T) (h : (JZ T.2 l.toList == [i,j] && l.toList.set i true == li.toList && l.toList.set j true == lj.toList) = true) : (Region.ready md ops l == [i,j] && l.setIfInBounds i true == li && l.setIfInBounds j true == lj) = true:=by
 simp only [Bool.and_eq_true] at h ⊢;obtain ⟨⟨h1,h2⟩,h3⟩:=h;subst hT;exact ⟨⟨by rw [GP];exact h1,PQ h2⟩,PQ h3⟩
theorem rJ (hT : pI md ops = T) (h : (JZ T.2 l.toList == []) = true) : (Region.ready md ops l == []) = true:=by
 subst hT;rw [GP];exact h
def upM (B : List Nat) (d : Nat) : List Nat→Nat
 | [] => 0
 | n :: r => (2 ^ n ||| (if n < d then B.getD n 0 else 0)) ||| upM B d r
def mQ (T : List (List Nat×List Nat)) (B : List Nat) : Bool:=(List.range T.length).all fun d => match T[d]? with
 | some r => (B.getD d 0 ||| upM B d r.1) == upM B d r.1
 | none => false
theorem aCZ {B : List Nat} {d i : Nat} : ∀ {ns : List Nat},(upM B d ns).testBit i = true → ∃ n∈ns,n = i ∨ (n < d∧(B.getD n 0).testBit i = true)
 | [],h => by simp [upM] at h
 | n :: r,h => by
  unfold upM at h;rw [Nat.testBit_or,Nat.testBit_or,Bool.or_eq_true,Bool.or_eq_true] at h
  rcases h with (h | h) | h
  ·rw [Nat.testBit_two_pow] at h
   exact ⟨n,List.mem_cons_self,.inl (by simpa using h)⟩
  ·by_cases hn : n < d
   ·rw [if_pos hn] at h
    exact ⟨n,List.mem_cons_self,.inr ⟨hn,h⟩⟩
   ·rw [if_neg hn] at h
    simp at h
  ·obtain ⟨m,hm,h2⟩:=aCZ h
   exact ⟨m,List.mem_cons_of_mem _ hm,h2⟩
theorem TT {T : List (List Nat×List Nat)} {B : List Nat} (hB : mQ T B = true) : ∀ (fuel d : Nat),d < fuel→d < T.length→(B.getD d 0).testBit i = true→KB T i fuel d = true
 | 0,d,h,_,_ => by omega
 | fuel + 1,d,h,hd,hb => by
  have h1:=List.all_eq_true.1 hB d (List.mem_range.2 hd)
  cases hr : T[d]? with
  | none => rw [hr] at h1;simp at h1
  | some r =>
   rw [hr] at h1;simp only [beq_iff_eq] at h1;have h2 : (upM B d r.1).testBit i = true:=by rw [← h1,Nat.testBit_or,hb,Bool.true_or]
   obtain ⟨n,hn,h3⟩:=aCZ h2;unfold KB;rw [hr];simp only;rw [List.any_eq_true];refine ⟨n,hn,?_⟩
   rcases h3 with rfl | ⟨h4,h5⟩
   ·simp
   ·rw [TT hB fuel n (by omega) (by omega) h5,Bool.or_true]
def aMl (T : List (List Nat×List Nat)) (B : List Nat) (l : List Bool) (ds : List Nat) (i : Nat) : Bool:=ds.all fun d => l.getD d true || (decide (d < T.length) && (B.getD d 0).testBit i)
def aMh (T : Bool×List (List Nat×List Nat)) (B : List Nat) (ds : List Nat) (l l' : List Bool) (i : Nat) : Bool:=T.1 && aAG T.2 l i && wY T.2 l i && OR T.2 l && aMl T.2 B l ds i && (l.set i true == l')
theorem dM {B : List Nat} (hT : pI md ops = T) (hB : mQ T.2 B = true) (h : aMh T B ds l.toList l'.toList i = true) : ZV md ops ds l l' i = true:=by
 refine aJN hT ?_;simp only [aMh,aGY,Bool.and_eq_true] at h ⊢;obtain ⟨⟨⟨⟨⟨h1,h2⟩,h3⟩,h4⟩,h5⟩,h6⟩:=h;refine ⟨⟨⟨⟨⟨h1,h2⟩,h3⟩,h4⟩,?_⟩,h6⟩;unfold aMl at h5;unfold aDp;rw [List.all_eq_true] at h5 ⊢;intro d hd;have h7:=h5 d hd;rw [Bool.or_eq_true,Bool.and_eq_true,decide_eq_true_eq] at h7
 rcases h7 with h7 | ⟨h8,h9⟩
 ·rw [h7,Bool.true_or]
 ·rw [TT hB _ d h8 h8 h9,Bool.or_true]
theorem kL {P : Program} {Q : Exit→Act→World→Prop} {S : World→Prop} {n : Nat} {a : Act} {w : World} {B : List Nat} (hT : pI md ops = T) (hB : mQ T.2 B = true) (h : aA (pI md ops = T)→aA (mQ T.2 B = true)→cF P md ops Q S ds n l a w) : cF P md ops Q S ds n l a w:=h ⟨hT⟩ ⟨hB⟩
end
def EA : Code→Nat→Option (Array Oper)
 | .region id ops _,k => if id == k then some ops else none
 | .seq a b,k => match EA a k with
  | some o => some o
  | none => EA b k
 | .cond _ a b,k => match EA a k with
  | some o => some o
  | none => EA b k
 | .block _ c,k => EA c k
 | .loop c,k => EA c k
 | .scope c,k => EA c k
 | .rangeFunc _ _ a b,k => match EA a k with
  | some o => some o
  | none => EA b k
 | _,_ => none
def opsOf (f : Func) (k : Nat) : Array Oper:=((f.body.bind fun c => EA c k)).getD #[]
end Go.Proofs.aG.dI
end
section
/-! ### 56. Four,five,six operations that may come up next,in any order -/
namespace Go.Proofs.aG.dI
section
variable {P : Program} {ops : Array Oper} {Q : Exit→Act→World→Prop} {md : Region.Mode} {S : World→Prop} {ds : List Nat} {T : Bool×List (List Nat×List Nat)}
end
end Go.Proofs.aG.dI
end
section
/-! ### 52. A row that stays read whatever happens to a block (a set of blocks) doesn't lie there -/
namespace Go.Proofs.aG.aX
open Go.RowKit
namespace Kd
section
variable {α : Type} {d : Kd α} {W : World} {g n : Nat} {S ok : Nat→Prop} {A : Option Addr} {ad : Addr} {xs : List α}
end
end Kd
end Go.Proofs.aG.aX
end
section
/-! ### 54. Behind orders that were drawn quietly: the same facts at the world's new name;a flat row's foot -/
namespace Go.Proofs.aG.aX
open Go.RowKit
section
variable {w w' u : World} {m B g : Nat} {o : Obj} {row : Option Nat} {S : Nat→Prop} {a : Addr} {v : Value}
end
namespace Kd
section
variable {α : Type} {d : Kd α} {e base n m : Nat} {ok : Nat→Prop} {w w' : World} {v : Value} {A : Option Addr} {xs : List α}
end
end Kd
end Go.Proofs.aG.aX
end
section
/-! ### 53. '==' of structs as_ one Bool -/
namespace Go.Proofs.aG.aX
open Go.RowKit
section
variable {P : Program} {d : Nat} {xs ys : Array Value} {f : Field} {fs : List Field} {a b : Value} {r s : Bool} {w : World}
end
end Go.Proofs.aG.aX
end
section
/-! ### 55. eF told from the front,no append: for rows of one-cell elements and of wider ones -/
namespace Go.Proofs.aG.aX
theorem eF.one {α : Type} {R : α→List Value→Prop} {ps : List α} {cs : List Value} {p : α} {v : Value} (hp : R p [v]) (h : eF R 1 ps cs) : eF R 1 (p :: ps) (v :: cs):=by
 refine ⟨by simp [h.1],fun j q hq => ?_⟩
 cases j with
 | zero =>
  simp only [List.getElem?_cons_zero,Option.some.injEq] at hq;subst hq
  simpa using hp
 | succ j =>
  simp only [List.getElem?_cons_succ] at hq;have h1:=h.2 j q hq
  simpa [Nat.mul_one] using h1
theorem eF.front {α : Type} {R : α→List Value→Prop} {size : Nat} {ps : List α} {cs c all : List Value} {p : α} (hp : R p c) (hc : c.length = size) (h : eF R size ps cs) (ha : c ++ cs = all) : eF R size (p :: ps) all:=by
 subst ha;refine ⟨by rw [List.length_append,hc,h.1,List.length_cons,Nat.succ_mul,Nat.add_comm],fun j q hq => ?_⟩
 cases j with
 | zero =>
  simp only [List.getElem?_cons_zero,Option.some.injEq] at hq;subst hq;rw [Nat.zero_mul,List.drop_zero,List.take_append_of_le_length (by omega),List.take_of_length_le (by omega)];exact hp
 | succ j =>
  simp only [List.getElem?_cons_succ] at hq;have h1:=h.2 j q hq;rw [Nat.succ_mul,List.drop_append,List.drop_of_length_le (by rw [hc];exact Nat.le_add_left _ _),List.nil_append,hc,Nat.add_sub_cancel];exact h1
theorem eF.c2 {α : Type} {R : α→List Value→Prop} {ps : List α} {cs : List Value} {p : α} {va vb : Value} (hp : R p [va,vb]) (h : eF R 2 ps cs) : eF R 2 (p :: ps) (va :: vb :: cs):=eF.front hp rfl h rfl
theorem eF.c3 {α : Type} {R : α→List Value→Prop} {ps : List α} {cs : List Value} {p : α} {va vb vc : Value} (hp : R p [va,vb,vc]) (h : eF R 3 ps cs) : eF R 3 (p :: ps) (va :: vb :: vc :: cs):=eF.front hp rfl h rfl
theorem eF.c4 {α : Type} {R : α→List Value→Prop} {ps : List α} {cs : List Value} {p : α} {va vb vc vd : Value} (hp : R p [va,vb,vc,vd]) (h : eF R 4 ps cs) : eF R 4 (p :: ps) (va :: vb :: vc :: vd :: cs):=eF.front hp rfl h rfl
theorem eF.c5 {α : Type} {R : α→List Value→Prop} {ps : List α} {cs : List Value} {p : α} {va vb vc vd ve : Value} (hp : R p [va,vb,vc,vd,ve]) (h : eF R 5 ps cs) : eF R 5 (p :: ps) (va :: vb :: vc :: vd :: ve :: cs):=eF.front hp rfl h rfl
theorem eF.c6 {α : Type} {R : α→List Value→Prop} {ps : List α} {cs : List Value} {p : α} {va vb vc vd ve vf : Value} (hp : R p [va,vb,vc,vd,ve,vf]) (h : eF R 6 ps cs) : eF R 6 (p :: ps) (va :: vb :: vc :: vd :: ve :: vf :: cs):=eF.front hp rfl h rfl
theorem eF.c7 {α : Type} {R : α→List Value→Prop} {ps : List α} {cs : List Value} {p : α} {va vb vc vd ve vf vg : Value} (hp : R p [va,vb,vc,vd,ve,vf,vg]) (h : eF R 7 ps cs) : eF R 7 (p :: ps) (va :: vb :: vc :: vd :: ve :: vf :: vg :: cs):=eF.front hp rfl h rfl
theorem eF.c8 {α : Type} {R : α→List Value→Prop} {ps : List α} {cs : List Value} {p : α} {va vb vc vd ve vf vg vh : Value} (hp : R p [va,vb,vc,vd,ve,vf,vg,vh]) (h : eF R 8 ps cs) : eF R 8 (p :: ps) (va :: vb :: vc :: vd :: ve :: vf :: vg :: vh :: cs):=eF.front hp rfl h rfl
theorem eF.c9 {α : Type} {R : α→List Value→Prop} {ps : List α} {cs : List Value} {p : α} {va vb vc vd ve vf vg vh vi : Value} (hp : R p [va,vb,vc,vd,ve,vf,vg,vh,vi]) (h : eF R 9 ps cs) : eF R 9 (p :: ps) (va :: vb :: vc :: vd :: ve :: vf :: vg :: vh :: vi :: cs):=eF.front hp rfl h rfl
theorem eF.c10 {α : Type} {R : α→List Value→Prop} {ps : List α} {cs : List Value} {p : α} {va vb vc vd ve vf vg vh vi vj : Value} (hp : R p [va,vb,vc,vd,ve,vf,vg,vh,vi,vj]) (h : eF R 10 ps cs) : eF R 10 (p :: ps) (va :: vb :: vc :: vd :: ve :: vf :: vg :: vh :: vi :: vj :: cs):=eF.front hp rfl h rfl
end Go.Proofs.aG.aX
end
section
/-! ### 57. A region of open order by ONE relation over what is listed so FG: each operation is shown once,whatever came up before it -/
namespace Go.Proofs.aG.dI
def up (b : Nat→Bool) (i : Nat) : Nat→Bool:=fun j => if j = i then true else b j
section
variable {P : Program} {ops : Array Oper} {Q : Exit→Act→World→Prop} {md : Region.Mode} {T : Bool×List (List Nat×List Nat)} {B : List Nat} {O : List Nat} {b : Nat→Bool} {i j n : Nat}
/-! The frame: what is listed has its destination filled. -/
end
end Go.Proofs.aG.dI
end
section
namespace Go.Proofs.aG.aX
open Go.RowKit
end Go.Proofs.aG.aX
namespace Go.Proofs.aG.dI
section
variable {ops : Array Oper} {a : Act} {o og : Oper} {g : Nat} {t : Tmp} {u : Bool}
end
end Go.Proofs.aG.dI
end
section
/-! ### 58. A guarded operation whose guard is known to want it: the same goal without the guard -/
namespace Go.Proofs.aG.aX
open Go.RowKit
section
variable {P : Program} {ops : Array Oper} {rest : List Oper} {o : Oper} {a : Act} {Q : Exit→Act→World→Prop} {W : World}
theorem fG (hw : Region.wanted o (yielded ops a.tmps) = true) (h : wpList P ops Q ({ o with guard:=none } :: rest) a W) : wpList P ops Q (o :: rest) a W:=by
 have h1 : Region.wanted { o with guard:=none } (yielded ops a.tmps) = true:=rfl;unfold wpList at h ⊢;rw [if_pos h1] at h;rw [if_pos hw];exact h
end
end Go.Proofs.aG.aX
end
