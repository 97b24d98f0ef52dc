/- The law BuildMade, proved: for every input the call returns true and each argument reads as before. -/
import Derived.WalkKit
import Derived.ProofKit
import Derived.OpenShut
import Derived.ChangeOld
import Derived.Below
import Derived.SizedLaws
import Derived.Test.YteofcbkjhdadpaaCBuildMadex1
import Derived.Test.YteofcbkjhdadpaaCBuildMadex2
import Derived.Test.YteofcbkjhdadpaaCBuildMadex8
import Derived.Test.YteofcbkjhdadpaaCBuildMadeA3
import Derived.Test.YteofcbkjhdadpaaCBuildMadeA1
import Derived.Test.YteofcbkjhdadpaaCBuildMadex3
import Derived.Test.YteofcbkjhdadpaaCBuildMadex4
import Derived.Test.YteofcbkjhdadpaaCBuildMadex5
import Derived.Test.YteofcbkjhdadpaaCBuildMadex6
import Derived.Test.YteofcbkjhdadpaaCBuildMadex11
import Derived.Test.YteofcbkjhdadpaaCBuildMadex9
import Derived.Test.YteofcbkjhdadpaaCBuildMadex10
import Derived.Test.YteofcbkjhdadpaaCBuildMadeA2
import Derived.Test.YteofcbkjhdadpaaCBuildMadex12
import Derived.Test.YteofcbkjhdadpaaRows
set_option maxRecDepth 100000
set_option linter.unusedSimpArgs false
set_option linter.unusedVariables false
namespace Go.Proofs.Yteofcbkjhdadpaa
open Go.RowKit Go.Proofs.aI.bC Go.Proofs.Yteofcbkjhdadpaa.Pr
theorem AU (r c : Int) (l : List Int) : bI.f r c l = some (cD r c l.length) := by
 unfold bI.f cD
 by_cases h1 : r ≥ 0
 ·rw [if_pos h1]
  by_cases h2 : r ≤ 64
  ·rw [if_pos h2]
   by_cases h3 : c ≥ 0
   ·rw [if_pos h3]
    by_cases h4 : c ≤ 64
    ·rw [if_pos h4]
     have b := LM h1 h2 h3 h4;rw [w64 (by omega) (by omega)]
     congr 1
     rw [Bool.eq_iff_iff, beq_iff_eq, decide_eq_true_eq];exact ⟨fun h => ⟨⟨h1, h2⟩, ⟨h3, h4⟩, h⟩, fun h => h.2.2⟩
    ·rw [if_neg h4]; congr 1; exact (decide_eq_false (fun h => h4 h.2.1.2)).symm
   ·rw [if_neg h3]; congr 1; exact (decide_eq_false (fun h => h3 h.2.1.1)).symm
  ·rw [if_neg h2]; congr 1; exact (decide_eq_false (fun h => h2 h.1.2)).symm
 ·rw [if_neg h1]; congr 1; exact (decide_eq_false (fun h => h1 h.1.1)).symm
theorem aIS {r : Int} {c i j : Nat} {xs : List UInt8} (h : i * c + j < xs.length) (hb : i * c + j ≤ 9223372036854775807) : cJ.f r (c : Int) (nI xs) (i : Int) (j : Int) = some ((xs.getD (i * c + j) 0).toNat : Int) := by
 unfold cJ.f;rw [pL hb, if_pos (by omega), if_pos (by rw [bY]; omega), ET]
theorem RL (a b : UInt8) : cU.f (a.toNat : Int) (b.toNat : Int) = some ((Gf.mul a b).toNat : Int) := by
 unfold cU.f;rw [vA, vA, BZ, BZ];rfl
theorem aAk {r c : Nat} (h : r * c ≤ 281474976710656) : dG.f (r : Int) (c : Int) = some ((r : Int), (c : Int), nI (List.replicate (r * c) 0)) := by
 unfold dG.f;rw [LC (by omega), if_pos (by omega), Int.toNat_natCast, if_pos h, UT]
section
variable {ra ca cb : Nat} {xs ys : List UInt8}
theorem aGC (hra : ra ≤ 64) (hca : ca ≤ 64) (hcb : cb ≤ 64) (hx : xs.length = ra * ca) (hy : ys.length = ca * cb) {i j : Nat} (hi : i < ra) (hj : j < cb) {r : Int × Int × List Int × Int}
  (hr : Ev (fun k => aW.l1 k (i : Int) ((j + 1 : Nat) : Int) ra ca (nI xs) ca cb (nI ys) ra cb (nI (iZ ra cb (QV ca cb xs ys) i (j + 1)))) r) :
  ∀ d q, q + d = ca → Ev (fun k => aW.l2 k (i : Int) (j : Int) (q : Int) ra ca (nI xs) ca cb (nI ys) ra cb (nI ((iZ ra cb (QV ca cb xs ys) i j).set (i * cb + j) (UF q fun t => Gf.mul (xs.getD (i * ca + t) 0) (ys.getD (t * cb + j) 0))))) r := by
 have hp := kL hi hj;have hpb : ra * cb ≤ 64 * 64 := Nat.mul_le_mul hra hcb;have hab : ra * ca ≤ 64 * 64 := Nat.mul_le_mul hra hca;have hbb : ca * cb ≤ 64 * 64 := Nat.mul_le_mul hca hcb;intro d
 induction d with
 | zero =>
  intro q hq;obtain rfl : q = ca := by omega
  refine Ev.step (fun k => ?_) hr;rw [aW.l2, if_neg (by omega), eI (by omega)];have e := AZ (R := ra) (C := cb) (QV q cb xs ys) hi hj;rw [← e];rfl
 | succ d ih =>
  intro q hq;refine Ev.step (fun k => ?_) (ih (q + 1) (by omega));have h1 := kL hi (show q < ca by omega);have h2 := kL (show q < ca by omega) hj;rw [aW.l2, if_pos (by omega), pL (by omega), if_pos (by omega), if_pos (by rw [bY, List.length_set, rO]; omega),
   aIS (by omega) (by omega), Option.bind_some, aIS (by omega) (by omega), Option.bind_some, RL, Option.bind_some, eI (by omega), Int.toNat_natCast, ET,
   XH _ _ _ (by rw [rO]; omega), aFJ, CI, List.set_set]
  rfl
theorem aGD (hra : ra ≤ 64) (hca : ca ≤ 64) (hcb : cb ≤ 64) (hx : xs.length = ra * ca) (hy : ys.length = ca * cb) {i : Nat} (hi : i < ra) {r : Int × Int × List Int × Int}
  (hr : Ev (fun k => aW.l0 k ((i + 1 : Nat) : Int) ra ca (nI xs) ca cb (nI ys) ra cb (nI (iZ ra cb (QV ca cb xs ys) (i + 1) 0))) r) :
  ∀ d j, j + d = cb → Ev (fun k => aW.l1 k (i : Int) (j : Int) ra ca (nI xs) ca cb (nI ys) ra cb (nI (iZ ra cb (QV ca cb xs ys) i j))) r := by
 intro d
 induction d with
 | zero =>
  intro j hj;obtain rfl : j = cb := by omega
  refine Ev.step (fun k => ?_) hr;rw [aW.l1, if_neg (by omega), eI (by omega), xQ]
 | succ d ih =>
  intro j hj;have h0 := aGC hra hca hcb hx hy hi (show j < cb by omega) (ih (j + 1) (by omega)) ca 0 (by omega);refine Ev.step (fun k => ?_) h0;rw [aW.l1, if_pos (by omega)];have e := aJL (R := ra) (C := cb) (QV ca cb xs ys) hi (show j < cb by omega);simp only [UF];rw [e];rfl
theorem aGE (hra : ra ≤ 64) (hca : ca ≤ 64) (hcb : cb ≤ 64) (hx : xs.length = ra * ca) (hy : ys.length = ca * cb) :
  ∀ d i, i + d = ra → Ev (fun k => aW.l0 k (i : Int) ra ca (nI xs) ca cb (nI ys) ra cb (nI (iZ ra cb (QV ca cb xs ys) i 0))) ((ra : Int), (cb : Int), nI (aDy ra ca cb xs ys), 0) := by
 intro d
 induction d with
 | zero =>
  intro i hi;obtain rfl : i = ra := by omega
  refine Ev.step (fun k => ?_) (Ev.now _);rw [aW.l0, if_neg (by omega), BA];rfl
 | succ d ih =>
  intro i hi;have h0 := aGD hra hca hcb hx hy (show i < ra by omega) (ih (i + 1) (by omega)) cb 0 (by omega);refine Ev.step (fun k => ?_) h0;rw [aW.l0, if_pos (by omega)];rfl
end
theorem aOW (ra ca rb cb : Int) (xs ys : List UInt8) :
  Ev (fun k => aW.f k ra ca (nI xs) rb cb (nI ys)) (if uA ra ca xs.length rb cb ys.length = true then (ra, cb, nI (aDy ra.toNat ca.toNat cb.toNat xs ys), 0) else (0, 0, [], 3)) := by
 unfold aW.f;simp only [AU, bY, Option.bind_some]
 by_cases h1 : cD ra ca xs.length = true
 ·by_cases h2 : cD rb cb ys.length = true
  ·simp only [h1, h2, if_true]
   by_cases h3 : ca = rb
   ·have hm : uA ra ca xs.length rb cb ys.length = true := by unfold uA; rw [h1, h2]; simp [h3]
    rw [if_pos hm];obtain ⟨a, b, c, rfl, rfl, rfl, rfl, k1, k2, k3, k4, k5⟩ := aGX hm;have hpb : a * c ≤ 64 * 64 := Nat.mul_le_mul k1 k3;have h0 := aGE k1 k2 k3 k4 k5 a 0 (by omega);refine Ev.step (fun k => ?_) h0;rw [aW.j0, if_neg (by simp), aAk (by omega), Option.bind_some, vS a c (QV b c xs ys)];rfl
   ·have hm : ¬ uA ra ca xs.length rb cb ys.length = true := by simp [uA, h3]
    rw [if_neg hm];refine Ev.step (fun k => ?_) (Ev.now _);rw [aW.j0, if_pos (by simpa using h3)]
  ·have hm : ¬ uA ra ca xs.length rb cb ys.length = true := by simp [uA, h2]
   simp only [h1, h2, if_true, Bool.false_eq_true, if_false];rw [if_neg hm];refine Ev.step (fun k => ?_) (Ev.now _);rw [aW.j0, if_pos rfl]
 ·have hm : ¬ uA ra ca xs.length rb cb ys.length = true := by simp [uA, h1]
  simp only [h1, Bool.false_eq_true, if_false];rw [if_neg hm];refine Ev.step (fun k => ?_) (Ev.now _);rw [aW.j0, if_pos rfl]
end Go.Proofs.Yteofcbkjhdadpaa
namespace Go.Proofs.Yteofcbkjhdadpaa
open Go.RowKit Go.Proofs.aI.bC Go.Proofs.Yteofcbkjhdadpaa.Pr
theorem sX {n c l : Nat} (hn : n ≤ 64) (hc : c ≤ 64) (h : l = n * c) : cD (n : Int) (c : Int) l = true := by
 unfold cD;rw [decide_eq_true_eq];refine ⟨⟨by omega, by omega⟩, ⟨by omega, by omega⟩, ?_⟩;rw [h, Int.natCast_mul]
section
variable {n c : Nat} (hn : n ≤ 64) (hc : c ≤ 65)
include hn hc
theorem RH {i j : Nat} (hi : i < n) (hj : j < c) : i * c + j < n * c ∧ i * c + j ≤ 9223372036854775807 ∧ n * c ≤ 4160 := by
 have h1 := kL hi hj;have h2 : n * c ≤ 64 * 65 := Nat.mul_le_mul hn hc;omega
theorem wH {L : List (List UInt8)} (h : eE n c L) {i j : Nat} (hi : i < n) (hj : j < c) : cJ.f (n : Int) (c : Int) (nI L.flatten) (i : Int) (j : Int) = some ((fN L i j).toNat : Int) := by
 obtain ⟨h1, h2, _⟩ := RH hn hc hi hj;rw [aIS (by rw [kN h]; exact h1) h2, zJ h hi hj]
end
theorem aIN {n c i : Nat} {L : List (List UInt8)} (h : eE n c L) (hn : n ≤ 64) (hc : c ≤ 64) (hi : i < n) : Ev (fun k => cE.f k (n : Int) (c : Int) (nI L.flatten) (i : Int)) (nI (L.getD i []), (0 : Int)) := by
 have hw := h.wid i hi;unfold cE.f;rw [AU, bY, kN h, sX hn hc rfl];simp only [Option.bind_some, if_true, if_neg (show ¬ (i : Int) < 0 by omega), decide_eq_false (show ¬ (i : Int) ≥ (n : Int) by omega)];have hloop : ∀ d q, q + d = c → Ev (fun k => cE.l0 k (i : Int) (nI ((L.getD i []).take q)) (q : Int) (n : Int) (c : Int) (nI L.flatten)) (nI (L.getD i []), (0 : Int)) := by
  intro d
  induction d with
  | zero =>
   intro q hq;obtain rfl : q = c := by omega
   refine Ev.step (f := fun _ => some (nI (L.getD i []), (0 : Int))) (fun k => ?_) (Ev.now _);rw [cE.l0, if_neg (by omega), List.take_of_length_le (by omega)]
  | succ d ih =>
   intro q hq;have e1 : (L.getD i []).take (q + 1) = (L.getD i []).take q ++ [fN L i q] := by
    rw [List.take_succ_eq_append_getElem (by omega)];unfold fN;rw [List.getD_eq_getElem?_getD (l := L.getD i []), List.getElem?_eq_getElem (by omega)];rfl
   refine Ev.step (fun k => ?_) (ih (q + 1) (by omega));rw [cE.l0, if_pos (by omega), wH hn (by omega) h hi (by omega), Option.bind_some, if_pos (by rw [bY, List.length_take]; omega), aAp, ← e1, eI (by omega)]
 refine Ev.step (fun k => ?_) (hloop c 0 (by omega));rw [cE.j0, if_neg (by simp)];rfl
theorem XI {n c : Nat} {L : List (List UInt8)} (h : eE n c L) {i : Nat} (hi : i ≤ n) : (L.take i).flatten.length = i * c := by
 refine kN (n := i) ⟨by rw [List.length_take, h.len]; omega, fun k hk => ?_⟩;rw [List.getD_eq_getElem?_getD, List.getElem?_take_of_lt hk, ← List.getD_eq_getElem?_getD];exact h.wid k (by omega)
end Go.Proofs.Yteofcbkjhdadpaa
namespace Go.Proofs.Yteofcbkjhdadpaa
open Go.RowKit Go.Proofs.aI.bC Go.Proofs.Yteofcbkjhdadpaa.Pr
theorem aMM (a : UInt8) : eQ.f (a.toNat : Int) = some (((Gf.inv a).toNat : Int), Gf.KC a) := by
 unfold eQ.f;rw [vA, BZ];rfl
theorem OT {n c : Nat} {L : List (List UInt8)} (h : eE n c L) {i j : Nat} (hi : i < n) (hj : j < c) (y : UInt8) : (nI L.flatten).set (i * c + j) (y.toNat : Int) = nI (L.set i ((L.getD i []).set j y)).flatten := by rw [CI, aCa h hi hj]
def IX (a b : List UInt8) (l : Nat) : List UInt8 := a.take l ++ b.drop l
theorem UW {a b : List UInt8} {c l : Nat} (h1 : a.length = c) (h2 : b.length = c) (hl : l ≤ c) : (IX a b l).length = c := by
 unfold IX;rw [List.length_append, List.length_take, List.length_drop];omega
theorem OO (a b : List UInt8) : IX a b 0 = b := by simp [IX]
theorem UX {a b : List UInt8} {c : Nat} (h1 : a.length = c) (h2 : b.length = c) : IX a b c = a := by
 unfold IX;rw [List.take_of_length_le (by omega), List.drop_eq_nil_of_le (by omega), List.append_nil]
theorem aAr {a b : List UInt8} {c l : Nat} (h1 : a.length = c) (h2 : b.length = c) (hl : l < c) : (IX a b l).getD l 0 = b.getD l 0 := by
 unfold IX;rw [List.getD_eq_getElem?_getD, List.getElem?_append_right (by rw [List.length_take]; omega), List.length_take, Nat.min_eq_left (by omega), Nat.sub_self, List.getElem?_drop, Nat.add_zero, ← List.getD_eq_getElem?_getD]
theorem LO {a b : List UInt8} {c l : Nat} (h1 : a.length = c) (h2 : b.length = c) (hl : l < c) : (IX a b l).set l (a.getD l 0) = IX a b (l + 1) := by
 unfold IX;rw [List.set_append_right _ _ (by rw [List.length_take]; omega), List.length_take, Nat.min_eq_left (by omega), Nat.sub_self, List.drop_eq_getElem_cons (by omega : l < b.length), cT, List.take_succ_eq_append_getElem (by omega), List.append_assoc, List.getD_eq_getElem?_getD, List.getElem?_eq_getElem (by omega)];rfl
def wB (L : List (List UInt8)) (i top : Nat) (d : UInt8) (l : Nat) : List (List UInt8) := (L.set i (IX (L.getD top []) (L.getD i []) l)).set top (IX ((L.getD i []).map (Gf.mul d)) (L.getD top []) l)
section
variable {n c i top l : Nat} {L : List (List UInt8)} {d : UInt8}
theorem CG (h : eE n c L) (hi : i < n) (ht : top < n) (hl : l ≤ c) : eE n c (wB L i top d l) :=
 (h.set hi (UW (h.wid top ht) (h.wid i hi) hl)).set ht (UW (by rw [List.length_map]; exact h.wid i hi) (h.wid top ht) hl)
theorem uW (h : eE n c L) (hi : i < n) (ht : top < n) (k : Nat) : (wB L i top d l).getD k [] = if k = top then IX ((L.getD i []).map (Gf.mul d)) (L.getD top []) l else if k = i then IX (L.getD top []) (L.getD i []) l else L.getD k [] := by
 unfold wB;rw [fD (by rw [List.length_set, h.len]; exact ht), fD (by rw [h.len]; exact hi)]
theorem aCY (h : eE n c L) (hi : i < n) (ht : top < n) : wB L i top d 0 = L := by
 refine sK (CG h hi ht (Nat.zero_le _)).len h.len fun k hk => ?_
 rw [uW h hi ht, OO, OO]
 split
 ·next e => rw [e]
 ·split
  ·next e => rw [e]
  ·rfl
theorem aGo (h : eE n c L) (hi : i < n) (ht : top < n) : wB L i top d c = nB L i top d := by
 unfold wB nB;rw [UX (h.wid top ht) (h.wid i hi), UX (by rw [List.length_map]; exact h.wid i hi) (h.wid top ht)]
theorem aCZ (h : eE n c L) (hi : i < n) (ht : top < n) (hl : l < c) :
  ((wB L i top d l).set i (((wB L i top d l).getD i []).set l ((L.getD top []).getD l 0))).set top ((((wB L i top d l).set i (((wB L i top d l).getD i []).set l ((L.getD top []).getD l 0))).getD top []).set l (Gf.mul d ((L.getD i []).getD l 0))) = wB L i top d (l + 1) := by
 have r := CG (d := d) h hi ht (Nat.le_of_lt hl);have wi := h.wid i hi;have wt := h.wid top ht;have wm : ((L.getD i []).map (Gf.mul d)).length = c := by rw [List.length_map]; exact wi
 have em : ((L.getD i []).map (Gf.mul d)).getD l 0 = Gf.mul d ((L.getD i []).getD l 0) := LQ d _ l;refine sK (by simp [r.len]) (CG h hi ht hl).len fun k hk => ?_
 rw [fD (by rw [List.length_set, r.len]; exact ht), fD (by rw [r.len]; exact hi), fD (by rw [r.len]; exact hi), uW h hi ht, uW h hi ht, uW h hi ht, uW h hi ht]
 by_cases h1 : k = top
 ·rw [if_pos h1, if_pos h1]
  by_cases h2 : top = i
  ·subst h2
   rw [if_pos rfl, if_pos rfl, List.set_set, ← em, LO wm wt hl]
  ·rw [if_neg h2, if_pos rfl, ← em, LO wm wt hl]
 ·rw [if_neg h1, if_neg h1, if_neg h1]
  by_cases h2 : k = i
  ·rw [if_pos h2, if_pos h2, ← h2, if_neg h1, if_pos rfl, h2, LO wt wi hl]
  ·rw [if_neg h2, if_neg h2, if_neg h2]
end
section
variable {n c : Nat} (hn : n ≤ 64) (hc : c ≤ 65)
include hn hc
theorem aDl {piv : List Int} {j top k : Nat} {S E : List (List UInt8)} {r : Int × Int × List Int × List Int} (hS : eE n c S) (hE : eE n c E) (ht : top < n) (hk : k < n) (hkt : k ≠ top) (y : UInt8) (row : List UInt8) (hrow : row.length = c) (hT : E.getD top [] = S.getD top [])
  (hr : Ev (fun q => aM.l3 q piv (j : Int) (top : Int) ((k + 1 : Nat) : Int) (n : Int) (c : Int) (nI (E.set k (Gf.pQ row y (S.getD top []))).flatten)) r) :
  ∀ d l, l + d = c → Ev (fun q => aM.l4 q piv (j : Int) (top : Int) (k : Int) (y.toNat : Int) (l : Int) (n : Int) (c : Int) (nI (E.set k (nF row (S.getD top []) y l)).flatten)) r := by
 have hTl : (S.getD top []).length = c := hS.wid top ht;intro d
 induction d with
 | zero =>
  intro l hl;obtain rfl : l = c := by omega
  refine Ev.step (f := fun q => aM.j5 q piv (j : Int) (top : Int) (k : Int) (y.toNat : Int) (l : Int) false (n : Int) (l : Int) (nI (E.set k (nF row (S.getD top []) y l)).flatten)) (fun q => ?_) (Ev.step (fun q => ?_) hr)
  ·rw [aM.l4, if_neg (by omega)]
  ·rw [aM.j5, if_neg (by simp), eI (by omega), XU hrow hTl]
 | succ d ih =>
  intro l hl;have hlc : l < c := by omega
  have hEs : eE n c (E.set k (nF row (S.getD top []) y l)) := hE.set hk (OL hrow hTl (by omega));obtain ⟨b1, b2, b3⟩ := RH hn hc hk hlc;have hfl := kN hEs;refine Ev.step (f := fun q => aM.j5 q piv (j : Int) (top : Int) (k : Int) (y.toNat : Int) (l : Int) true (n : Int) (c : Int) (nI (E.set k (nF row (S.getD top []) y l)).flatten)) (fun q => ?_) (Ev.step (fun q => ?_) (ih (l + 1) (by omega)))
  ·rw [aM.l4, if_pos (by omega), show ((k : Int) != (top : Int)) = true by rw [bne_iff_ne]; omega]
  ·have e1 : (E.set k (nF row (S.getD top []) y l)).flatten.getD (k * c + l) 0 = row.getD l 0 := by
    rw [zJ hEs hk hlc];unfold fN;rw [fD (by rw [hE.len]; exact hk), if_pos rfl, aBI hrow hTl hlc]
   have e2 : fN (E.set k (nF row (S.getD top []) y l)) top l = (S.getD top []).getD l 0 := by
    unfold fN;rw [fD (by rw [hE.len]; exact hk), if_neg (fun e => hkt e.symm), hT]
   rw [aM.j5, if_pos rfl, pL b2, if_pos (by omega), if_pos (by rw [bY, hfl]; omega), wH hn hc hEs ht hlc, Option.bind_some, RL, Option.bind_some, ET, e1, e2, DK, Int.toNat_natCast, OT hEs hk hlc, fD (by rw [hE.len]; exact hk), if_pos rfl, List.set_set, UO hrow hTl hlc, eI (by omega)]
theorem aDm {piv : List Int} {j top : Nat} {S : List (List UInt8)} {r : Int × Int × List Int × List Int} (hS : eE n c S) (ht : top < n) (hj : j < c) (hp : piv.length < 17592186044416)
  (hr : Ev (fun q => aM.l0 q (piv ++ [(j : Int)]) ((j + 1 : Nat) : Int) (n : Int) (c : Int) (nI (eB top j n S).flatten)) r) :
  ∀ d k, k + d = n → Ev (fun q => aM.l3 q piv (j : Int) (top : Int) (k : Int) (n : Int) (c : Int) (nI (eB top j k S).flatten)) r := by
 intro d
 induction d with
 | zero =>
  intro k hk;obtain rfl : k = n := by omega
  refine Ev.step (fun q => ?_) hr;rw [aM.l3, if_neg (by omega), if_pos hp, eI (by omega)]
 | succ d ih =>
  intro k hk;have hkn : k < n := by omega
  have rE := nU hS ht k (by omega) (j := j);have hrow : (eB top j k S).getD k [] = S.getD k [] := by rw [rE.2, if_neg (by omega)]
  have hyk : fN (eB top j k S) k j = fN S k j := by unfold fN; rw [hrow]
  have hT : (eB top j k S).getD top [] = S.getD top [] := by rw [rE.2, if_neg (by simp)]
  by_cases hkt : k = top
  ·refine Ev.step (f := fun q => aM.l4 q piv (j : Int) (top : Int) (k : Int) ((fN S k j).toNat : Int) ((0 : Nat) : Int) (n : Int) (c : Int) (nI (eB top j k S).flatten)) (fun q => ?_) (Ev.step (f := fun q => aM.j5 q piv (j : Int) (top : Int) (k : Int) ((fN S k j).toNat : Int) ((0 : Nat) : Int) false (n : Int) (c : Int) (nI (eB top j k S).flatten)) (fun q => ?_) (Ev.step (fun q => ?_) (ih (k + 1) (by omega))))
   ·rw [aM.l3, if_pos (by omega), wH hn hc rE.1 hkn hj, hyk]
    rfl
   ·rw [aM.l4, if_pos (by omega), hkt]
    simp
   ·rw [aM.j5, if_neg (by simp), eI (by omega)]
    have e : eB top j (k + 1) S = eB top j k S := by rw [hkt]; exact YK
    rw [e]
  ·have e0 : (eB top j k S).set k (nF (S.getD k []) (S.getD top []) (fN S k j) 0) = eB top j k S := by
    rw [UN];refine sK (by rw [List.length_set]; exact rE.1.len) rE.1.len fun p hp2 => ?_
    rw [fD (by rw [rE.1.len]; exact hkn)]
    split
    ·next e => rw [e]; exact hrow.symm
    ·rfl
   have h4 := aDl hn hc hS rE.1 ht hkn hkt (fN S k j) (S.getD k []) (hS.wid k hkn) hT (piv := piv) (j := j) (r := r) (by rw [YL hS ht hkn hkt]; exact ih (k + 1) (by omega)) c 0 (by omega);rw [e0] at h4;refine Ev.step (fun q => ?_) h4;rw [aM.l3, if_pos (by omega), wH hn hc rE.1 hkn hj, hyk];rfl
theorem aDn {piv : List Int} {j i top : Nat} {L : List (List UInt8)} {d : UInt8} {r : Int × Int × List Int × List Int} (h : eE n c L) (hi : i < n) (ht : top < n)
  (hr : Ev (fun q => aM.l3 q piv (j : Int) (top : Int) ((0 : Nat) : Int) (n : Int) (c : Int) (nI (nB L i top d).flatten)) r) :
  ∀ e l, l + e = c → Ev (fun q => aM.l2 q piv (j : Int) (top : Int) (i : Int) (d.toNat : Int) (l : Int) (n : Int) (c : Int) (nI (wB L i top d l).flatten)) r := by
 intro e
 induction e with
 | zero =>
  intro l hl;obtain rfl : l = c := by omega
  refine Ev.step (fun q => ?_) hr;rw [aM.l2, if_neg (by omega), aGo h hi ht];rfl
 | succ e ih =>
  intro l hl;have hlc : l < c := by omega
  have hs := CG (d := d) h hi ht (l := l) (by omega);have wi := h.wid i hi;have wt := h.wid top ht;have wm : ((L.getD i []).map (Gf.mul d)).length = c := by rw [List.length_map]; exact wi
  obtain ⟨b1, b2, b3⟩ := RH hn hc hi hlc;obtain ⟨b4, b5, _⟩ := RH hn hc ht hlc;have e1 : fN (wB L i top d l) top l = (L.getD top []).getD l 0 := by
   unfold fN;rw [uW h hi ht, if_pos rfl, aAr wm wt hlc]
  have e2 : fN (wB L i top d l) i l = (L.getD i []).getD l 0 := by
   unfold fN;rw [uW h hi ht]
   by_cases h2 : i = top
   ·rw [if_pos h2, aAr wm wt hlc, h2]
   ·rw [if_neg h2, if_pos rfl, aAr wt wi hlc]
  have hs2 : eE n c ((wB L i top d l).set i (((wB L i top d l).getD i []).set l ((L.getD top []).getD l 0))) := hs.set hi (by rw [List.length_set]; exact hs.wid i hi);refine Ev.step (fun q => ?_) (ih (l + 1) (by omega));rw [aM.l2, if_pos (by omega), wH hn hc hs ht hlc, Option.bind_some, wH hn hc hs hi hlc, Option.bind_some, e1, e2, pL b2, if_pos (by omega), if_pos (by rw [bY, kN hs]; omega), RL, Option.bind_some, pL b5, if_pos (by omega), if_pos (by rw [bY, kN hs]; omega), Int.toNat_natCast, Int.toNat_natCast, OT hs hi hlc, OT hs2 ht hlc, aCZ h hi ht hlc, eI (by omega)]
theorem aDo {piv : List Nat} {j : Nat} {L A : List (List UInt8)} {r : Int × Int × List Int × List Int} (h : eE n c L) (hj : j < c) (ht : piv.length ≤ n)
  (h0 : DT L j (n - piv.length) piv.length = none → Ev (fun q => aM.l0 q (nZ piv) ((j + 1 : Nat) : Int) (n : Int) (c : Int) (nI L.flatten)) r)
  (h1 : ∀ i, DT L j (n - piv.length) piv.length = some i → Ev (fun q => aM.l2 q (nZ piv) (j : Int) (piv.length : Int) (i : Int) ((Gf.inv (fN L i j)).toNat : Int) ((0 : Nat) : Int) (n : Int) (c : Int) (nI L.flatten)) r) :
  ∀ f i, i + f = n → piv.length ≤ i → (DT L j (n - piv.length) piv.length = DT L j f i) → Ev (fun q => aM.l1 q (nZ piv) (j : Int) (piv.length : Int) (i : Int) (n : Int) (c : Int) (nI L.flatten)) r := by
 intro f
 induction f with
 | zero =>
  intro i hi hp he;refine Ev.step (fun q => ?_) (h0 (by rw [he]; rfl));rw [aM.l1, if_neg (by omega), eI (by omega)]
 | succ f ih =>
  intro i hi hp he
  by_cases hz : fN L i j = 0
  ·refine Ev.step (fun q => ?_) (ih (i + 1) (by omega) (by omega) (by rw [he, DT, if_neg (fun h => h hz)]))
   rw [aM.l1, if_pos (by omega), wH hn hc h (by omega) hj, Option.bind_some, hz, if_pos (by rfl), eI (by omega)]
  ·refine Ev.step (fun q => ?_) (h1 i (by rw [he, DT, if_pos hz]))
   rw [aM.l1, if_pos (by omega), wH hn hc h (by omega) hj, Option.bind_some, if_neg (fun e => hz (UInt8.toNat_inj.1 (by simpa using e))), aMM, Option.bind_some];rfl
theorem KA : ∀ (f j : Nat) (L A : List (List UInt8)) (piv : List Nat), j + f = c → eE n c L → eE n 0 A → piv.length ≤ n → piv.length ≤ j →
  Ev (fun q => aM.l0 q (nZ piv) (j : Int) (n : Int) (c : Int) (nI L.flatten)) ((n : Int), (c : Int), nI (JX n c f piv.length j L A piv).1.flatten, nZ (JX n c f piv.length j L A piv).2.2)
 | 0, j, L, A, piv, hj, h, hA, ht, hpj => by
  refine Ev.step (fun q => ?_) (Ev.now _);rw [aM.l0, if_neg (by omega)];rfl
 | f + 1, j, L, A, piv, hj, h, hA, ht, hpj => by
  have hjc : j < c := by omega
  have hl1 := aDo hn hc (piv := piv) (A := A) (r := ((n : Int), (c : Int), nI (JX n c (f + 1) piv.length j L A piv).1.flatten, nZ (JX n c (f + 1) piv.length j L A piv).2.2)) h hjc ht
   (fun hf => by
    rw [JX, hf];exact KA f (j + 1) L A piv (by omega) h hA ht (by omega))
   (fun i hf => by
    obtain ⟨q1, q2, q3, q4⟩ := KE hf;have hi : i < n := by omega
    have htn : piv.length < n := by omega
    have hS := kY h hi htn (Gf.inv (fN L i j));have hSA := kY hA hi htn (Gf.inv (fN L i j));have hEr := (nU hS htn n (Nat.le_refl _) (j := j)).1;have hEA := (rQ hS hSA htn n (Nat.le_refl _) (j := j)).1;have h0 := KA f (j + 1) (eB piv.length j n (nB L i piv.length (Gf.inv (fN L i j)))) (jW piv.length j (nB L i piv.length (Gf.inv (fN L i j))) n (nB A i piv.length (Gf.inv (fN L i j)))) (piv ++ [j]) (by omega) hEr hEA (by rw [List.length_append]; simp; omega) (by rw [List.length_append]; simp; omega);have e : JX n c (f + 1) piv.length j L A piv = JX n c f (piv ++ [j]).length (j + 1) (eB piv.length j n (nB L i piv.length (Gf.inv (fN L i j)))) (jW piv.length j (nB L i piv.length (Gf.inv (fN L i j))) n (nB A i piv.length (Gf.inv (fN L i j)))) (piv ++ [j]) := by
     rw [JX, hf, List.length_append];rfl
    rw [← e] at h0;have e2 : nZ (piv ++ [j]) = nZ piv ++ [(j : Int)] := by simp [nZ]
    rw [e2] at h0;have h3 := aDm hn hc hS htn hjc (by rw [ON]; omega) h0 n 0 (by omega);have h2 := aDn hn hc h hi htn h3 c 0 (by omega);rw [aCY h hi htn] at h2;exact h2)
   (n - piv.length) piv.length (by omega) (Nat.le_refl _) rfl
  refine Ev.step (fun q => ?_) hl1;rw [aM.l0, if_pos (by omega), ON]
theorem aLr {L : List (List UInt8)} (h : eE n c L) : Ev (fun q => aM.f q (n : Int) (c : Int) (nI L.flatten)) ((n : Int), (c : Int), nI (yN n c L (List.replicate n [])).1.flatten, nZ (yN n c L (List.replicate n [])).2.2) := by
 have h0 := KA hn hc c 0 L (List.replicate n []) [] (by omega) h (OD n) (Nat.zero_le _) (Nat.zero_le _);exact h0
end
end Go.Proofs.Yteofcbkjhdadpaa
namespace Go.Proofs.Yteofcbkjhdadpaa
open Go.RowKit Go.Proofs.aI.bC Go.Proofs.Yteofcbkjhdadpaa.Pr
def EH (c q : Nat) : List (List UInt8) := (idL c).map (IZ q)
theorem aCf {c q i : Nat} (hq : q < c) (hi : i < c) : (EH c q).getD i [] = [(tV c q).getD i 0] := by
 unfold EH;rw [oT (by simp [IZ]), LW hi];unfold IZ;rw [List.take_one, List.head?_drop, List.getElem?_eq_getElem (by rw [wV]; exact hq)];rw [List.getD_eq_getElem?_getD, List.getElem?_eq_getElem (by rw [wV]; exact hi)];unfold tV;simp only [Option.toList_some, Option.getD_some, List.getElem_set, List.getElem_replicate, List.cons.injEq, and_true]
 by_cases e : i = q
 ·rw [if_pos e, if_pos e.symm]
 ·rw [if_neg e, if_neg (fun h => e h.symm)]
theorem OX {c q : Nat} (hq : q < c) : eE c 1 (EH c q) := ⟨by unfold EH; rw [List.length_map, RP], fun i hi => by rw [aCf hq hi]; rfl⟩
section
variable {c : Nat} {L : List (List UInt8)} (hL : eE c c L)
include hL
theorem aIy {q : Nat} (hq : q < c) (hp : (gY c L).2.2.length = c) :
  (yN c (c + 1) (sY L (EH c q)) (List.replicate c [])).1 = sY (gY c L).1 ((gY c L).2.1.map (IZ q)) ∧ (yN c (c + 1) (sY L (EH c q)) (List.replicate c [])).2.2 = (gY c L).2.2 := by
 have hm := (tC c c L (idL c)).map (aJS hq) hL (EV c);obtain ⟨X', h2⟩ := hm.cat hL (OX hq) rfl hp (List.replicate c []);have e := h2.aNR;exact ⟨e.1.symm, e.2.2.symm⟩
theorem aIz {q t : Nat} (hq : q < c) (ht : t < c) : fN (sY (gY c L).1 ((gY c L).2.1.map (IZ q))) t c = fN (gY c L).2.1 t q := by
 have h1 := aBR hL;have hm : eE c 1 ((gY c L).2.1.map (IZ q)) := ⟨by rw [List.length_map]; exact h1.2.len, fun i hi => by
  rw [oT (by simp [IZ])];have := h1.2.wid i hi;unfold IZ;rw [List.length_take, List.length_drop];omega⟩
 rw [aAY h1.1 hm ht, if_neg (by omega), Nat.sub_self];unfold fN;rw [oT (by simp [IZ])];unfold IZ;rw [List.getD_eq_getElem?_getD, List.getElem?_take_of_lt (by omega), List.getElem?_drop, Nat.add_zero, ← List.getD_eq_getElem?_getD]
def zZ (c : Nat) (L : List (List UInt8)) (q : Nat) : List UInt8 := (List.range c).map fun t => fN (gY c L).2.1 t q
omit hL in
theorem CL (q : Nat) : (zZ c L q).length = c := by simp [zZ]
omit hL in
theorem VC {q t : Nat} (ht : t < c) : (zZ c L q).getD t 0 = fN (gY c L).2.1 t q := by
 unfold zZ;rw [List.getD_eq_getElem?_getD, List.getElem?_map, List.getElem?_range ht];rfl
theorem aIM (hc : c ≤ 64) {q : Nat} (hq : q < c) (hp : (gY c L).2.2.length = c) :
  Ev (fun k => aX.f k (c : Int) (c : Int) (nI L.flatten) (nI (tV c q))) (nI (zZ c L q), true, (0 : Int)) := by
 have hX := wX hL (OX hq);have hlen : (tV c q).length = c := wV c q;have hsz : c * (c + 1) ≤ 64 * 65 := Nat.mul_le_mul hc (by omega);obtain ⟨e1, e2⟩ := aIy hL hq hp;unfold aX.f;rw [AU, bY, kN hL, sX hc hc rfl, bY, hlen];simp only [Option.bind_some, if_true]
 -- the loop over the pivots
 have hl1 : ∀ d t, t + d = c → Ev (fun k => aX.l1 k (nZ (gY c L).2.2) (nI (IX (zZ c L q) (List.replicate c 0) t)) (t : Int) (c : Int) (c : Int) (nI L.flatten) (c : Int) ((c + 1 : Nat) : Int) (nI (sY (gY c L).1 ((gY c L).2.1.map (IZ q))).flatten)) (nI (zZ c L q), true, (0 : Int)) := by
  have hR : eE c (c + 1) (sY (gY c L).1 ((gY c L).2.1.map (IZ q))) := by
   rw [← e1];exact ((tC c (c + 1) (sY L (EH c q)) (List.replicate c [])).toF hX (OD c)).2.1
  intro d
  induction d with
  | zero =>
   intro t ht;obtain rfl : t = c := by omega
   refine Ev.step (f := fun _ => some (nI (zZ t L q), true, (0 : Int))) (fun k => ?_) (Ev.now _);rw [aX.l1, if_neg (by rw [ON, hp]; omega), UX (CL q) (by simp)]
  | succ d ih =>
   intro t ht;have htc : t < c := by omega
   have ep : rd (nZ (gY c L).2.2) (t : Int) = (t : Int) := by
    unfold rd nZ;rw [Int.toNat_natCast, List.getD_eq_getElem?_getD, List.getElem?_map, List.getElem?_eq_getElem (by omega)];have := aLM hL hp htc;rw [List.getD_eq_getElem?_getD, List.getElem?_eq_getElem (by omega)] at this;simp only [Option.map_some, Option.getD_some] at this ⊢;rw [this]
   refine Ev.step (fun k => ?_) (ih (t + 1) (by omega));rw [aX.l1, if_pos (by rw [ON, hp]; omega), if_pos (by omega), ep, if_neg (by omega), wH hc (by omega) hR htc (by omega), Option.bind_some, if_pos (by omega), if_pos (by rw [bY, UW (CL q) (by simp) (by omega)]; omega), Int.toNat_natCast, CI, aIz hL hq htc, ← VC htc, LO (CL q) (by simp) htc, eI (by omega)]
 -- the loop that lays the wide matrix
 have hl0 : ∀ d i, i + d = c → Ev (fun k => aX.l0 k (nI (tV c q)) (i : Int) (c : Int) (c : Int) (nI L.flatten) (c : Int) ((c + 1 : Nat) : Int) (nI ((sY L (EH c q)).take i).flatten)) (nI (zZ c L q), true, (0 : Int)) := by
  intro d
  induction d with
  | zero =>
   intro i hi;obtain rfl : i = c := by omega
   have hw := aLr hc (show i + 1 ≤ 65 by omega) hX;rw [e1, e2] at hw;have h1 := hl1 i 0 (by omega);rw [OO] at h1;refine Ev.step (f := fun k => (aM.f k (i : Int) ((i + 1 : Nat) : Int) (nI (sY L (EH i q)).flatten)).bind fun NF => (if 0 ≤ (i : Int) then (if ((i : Int) : Int).toNat ≤ 281474976710656 then (aX.l1 k NF.2.2.2 (List.replicate ((i : Int) : Int).toNat 0) 0 (i : Int) (i : Int) (nI L.flatten) NF.1 NF.2.1 NF.2.2.1) else (none)) else (none))) (fun k => ?_) (Ev.bind hw ?_)
   ·rw [aX.l0, if_neg (by omega), List.take_of_length_le (by rw [hX.len]; omega)]
   ·simp only [Int.toNat_natCast, if_pos (show (0 : Int) ≤ (i : Int) by omega), if_pos (show i ≤ 281474976710656 by omega), UT]
    exact h1
  | succ d ih =>
   intro i hi;have hic : i < c := by omega
   have hfl : ((sY L (EH c q)).take i).flatten.length = i * (c + 1) := XI hX (by omega);have hb : i * (c + 1) ≤ 64 * 65 := Nat.mul_le_mul (by omega) (by omega);have hadd : ((sY L (EH c q)).take (i + 1)).flatten = ((sY L (EH c q)).take i).flatten ++ L.getD i [] ++ [(tV c q).getD i 0] := by
    rw [List.take_succ_eq_append_getElem (by rw [hX.len]; omega), List.flatten_append, List.append_assoc]
    congr 1
    have e3 : (sY L (EH c q))[i]'(by rw [hX.len]; omega) = (sY L (EH c q)).getD i [] := by
     rw [List.getD_eq_getElem?_getD, List.getElem?_eq_getElem (by rw [hX.len]; omega)];rfl
    rw [e3, pM (by rw [hL.len, (OX hq).len]), aCf hq hic]
    simp
   have hrow := aIN hL hc hc hic;refine Ev.step (fun k => by rw [aX.l0, if_pos (by omega)]) (Ev.bind hrow ?_);have hw := hL.wid i hic;have hst := ih (i + 1) (by omega);rw [hadd] at hst;have e4 : nI (((sY L (EH c q)).take i).flatten ++ L.getD i []) ++ [rd (nI (tV c q)) (i : Int)] = nI (((sY L (EH c q)).take i).flatten ++ L.getD i [] ++ [(tV c q).getD i 0]) := by
    rw [ET, aAp]
   simp only [aAq, Option.bind_some, e4, eI (show i ≤ 9223372036854775806 by omega)];have c1 : (nI ((sY L (EH c q)).take i).flatten).length + (nI (L.getD i [])).length < 140737488355328 := by rw [bY, bY]; omega
   have c2 : (i : Int) < ((nI (tV c q)).length : Int) := by rw [bY, hlen]; omega
   have c3 : (nI (((sY L (EH c q)).take i).flatten ++ L.getD i [])).length + [rd (nI (tV c q)) (i : Int)].length < 140737488355328 := by rw [bY, List.length_append, hfl, hw]; simp; omega
   simp only [if_pos c1, if_pos (show (0 : Int) ≤ (i : Int) by omega), if_pos c2, if_pos c3];exact hst
 refine Ev.step (fun k => ?_) (hl0 c 0 (by omega));rw [aX.j0, if_neg (by simp), eI (by omega)];rfl
theorem aIE {xs : List UInt8} (hx : xs.length = c * c) (e : nC xs c c = L) : (aIF c c xs).2.2 = (gY c L).2.2 := by
 subst e;exact (aEv hx (EV c) (tC c c _ (idL c))).2.symm
theorem aOX (hc : c ≤ 64) : Ev (fun k => aU.f k (c : Int) (c : Int) (nI L.flatten)) (if (gY c L).2.2.length < c then ((0 : Int), (0 : Int), ([] : List Int), (6 : Int)) else ((c : Int), (c : Int), nI (gY c L).2.1.flatten, (0 : Int))) := by
 have hxl := kN hL;have hsz : c * c ≤ 64 * 64 := Nat.mul_le_mul hc hc;have hR := (tC c c L (idL c)).toF hL (EV c);have hle : (gY c L).2.2.length ≤ c := hR.1.aOR.le;unfold aU.f;rw [AU, bY, hxl, sX hc hc rfl];simp only [Option.bind_some, if_true, bne_self_eq_false];have hrank : gX.f (c : Int) (c : Int) (nI L.flatten) = some (((gY c L).2.2.length : Int), 0) := by
  unfold gX.f gU.f;rw [OR, if_pos rfl, bY, hxl, sX hc hc rfl, if_pos rfl, zX, Option.bind_some, ON, Int.toNat_natCast, aIE hL hxl (aHg hL)]
 by_cases hp : (gY c L).2.2.length < c
 ·rw [if_pos hp]
  refine Ev.step (f := fun _ => some ((0 : Int), (0 : Int), ([] : List Int), (6 : Int))) (fun k => ?_) (Ev.now _);rw [aU.j0, if_neg (by simp), hrank, Option.bind_some, if_pos (by omega)]
 ·rw [if_neg hp]
  have hpe : (gY c L).2.2.length = c := by omega
  have hres : (gY c L).2.1.flatten = pV c c (fun i j => fN (gY c L).2.1 i j) := by
   refine aBX (kN hR.2.2) fun i j hi hj => ?_
   have e := zJ hR.2.2 hi hj;have hlt := kL hi hj;rw [List.getD_eq_getElem?_getD, List.getElem?_eq_getElem (by rw [kN hR.2.2]; exact hlt)] at e;rw [List.getElem?_eq_getElem (by rw [kN hR.2.2]; exact hlt), ← e];rfl
  have hl1 : ∀ q, q < c → Ev (fun k => aU.l0 k ((q + 1 : Nat) : Int) (c : Int) (c : Int) (nI L.flatten) (c : Int) (c : Int) (nI (xR c c (fun i j => fN (gY c L).2.1 i j) (q + 1) 0))) ((c : Int), (c : Int), nI (gY c L).2.1.flatten, (0 : Int)) →
    ∀ d t, t + d = c → Ev (fun k => aU.l1 k (q : Int) (nI (zZ c L q)) (t : Int) (c : Int) (c : Int) (nI L.flatten) (c : Int) (c : Int) (nI (xR c c (fun i j => fN (gY c L).2.1 i j) q t))) ((c : Int), (c : Int), nI (gY c L).2.1.flatten, (0 : Int)) := by
   intro q hq hr d
   induction d with
   | zero =>
    intro t ht;obtain rfl : t = c := by omega
    refine Ev.step (fun k => ?_) hr;rw [aU.l1, if_neg (by omega), eI (by omega), VM]
   | succ d ih =>
    intro t ht;have htc : t < c := by omega
    have hlt := kL htc hq;refine Ev.step (fun k => ?_) (ih (t + 1) (by omega));rw [aU.l1, if_pos (by omega), if_pos (by omega), if_pos (by rw [bY, CL]; omega), pL (by omega), if_pos (by omega), if_pos (by rw [bY, MY]; omega), Int.toNat_natCast, ET, VC htc, CI, eI (by omega)];have e := YG (fun i j => fN (gY c L).2.1 i j) htc hq;rw [← e]
  have hl0 : ∀ d q, q + d = c → Ev (fun k => aU.l0 k (q : Int) (c : Int) (c : Int) (nI L.flatten) (c : Int) (c : Int) (nI (xR c c (fun i j => fN (gY c L).2.1 i j) q 0))) ((c : Int), (c : Int), nI (gY c L).2.1.flatten, (0 : Int)) := by
   intro d
   induction d with
   | zero =>
    intro q hq;obtain rfl : q = c := by omega
    refine Ev.step (f := fun _ => some ((q : Int), (q : Int), nI (gY q L).2.1.flatten, (0 : Int))) (fun k => ?_) (Ev.now _);rw [aU.l0, if_neg (by omega), YH, hres]
   | succ d ih =>
    intro q hq;have hqc : q < c := by omega
    have hs := aIM hL hc hqc hpe;have h1 := hl1 q hqc (ih (q + 1) (by omega)) c 0 (by omega);have e1 : (nI (List.replicate c 0)).set q 1 = nI (tV c q) := by
     have := CI (List.replicate c 0) q 1;exact this
    refine Ev.step (f := fun k => (aX.f k (c : Int) (c : Int) (nI L.flatten) (nI (tV c q))).bind fun VU => aU.l1 k (q : Int) VU.1 0 (c : Int) (c : Int) (nI L.flatten) (c : Int) (c : Int) (nI (xR c c (fun i j => fN (gY c L).2.1 i j) q 0))) (fun k => ?_) (Ev.bind hs h1);rw [aU.l0, if_pos (by omega), if_pos (by omega), if_pos (by rw [Int.toNat_natCast]; omega), Option.bind_some, if_pos (by omega), Int.toNat_natCast, UT, if_pos (by rw [bY, List.length_replicate]; omega), Int.toNat_natCast, e1]
  refine Ev.step (fun k => ?_) (hl0 c 0 (by omega));rw [aU.j0, if_neg (by simp), hrank, Option.bind_some, if_neg (by omega), aAk (by omega), Option.bind_some, PZ c c (fun i j => fN (gY c L).2.1 i j)];rfl
end
end Go.Proofs.Yteofcbkjhdadpaa
namespace Go.Proofs.Yteofcbkjhdadpaa
open Go.RowKit Go.Proofs.aI.bC Go.Proofs.Yteofcbkjhdadpaa.Pr
def ZY (a0 a1 : Int) (xs : List UInt8) : Int × Int × List Int × Int :=
 if uH a0 a1 xs.length = true then (if (ZZ a1.toNat xs).2.2.length < a1.toNat then (0, 0, [], 6) else (a0, a1, nI (aDy a0.toNat a1.toNat a1.toNat xs (ZZ a1.toNat xs).2.1.flatten), 0)) else (0, 0, [], 3)
theorem aRS (a0 a1 : Int) (xs : List UInt8) : eU.f a0 a1 (nI xs) = some (ZY a0 a1 xs) := by
 unfold eU.f ZY;rw [OR, if_pos rfl, bY, zX]
 split
 ·split <;> rfl
 ·rfl
/-! Vandermonde -/
def NX (i j : Nat) : UInt8 := Gf.npow (UInt8.ofNat i) j
def QM (r c : Nat) : List UInt8 := pV r c NX
def vY (a0 a1 : Int) : Bool := decide ((0 ≤ a0 ∧ a0 ≤ 64) ∧ (0 ≤ a1 ∧ a1 ≤ 64))
def aBl (a0 a1 : Int) : Int × Int × List Int × Int := if vY a0 a1 = true then (a0, a1, nI (QM a0.toNat a1.toNat), 0) else (0, 0, [], 2)
theorem GI {a0 a1 : Int} (h : vY a0 a1 = true) : ∃ a b : Nat, a0 = a ∧ a1 = b ∧ a ≤ 64 ∧ b ≤ 64 := by
 have h := of_decide_eq_true h;exact ⟨a0.toNat, a1.toNat, by omega, by omega, by omega, by omega⟩
theorem VQ (n : Nat) : ((n : Int) % 256) = ((UInt8.ofNat n).toNat : Int) := by
 rw [UInt8.toNat_ofNat'];omega
theorem aPu (a b : UInt8) : rP.f (a.toNat : Int) (b.toNat : Int) = some ((Gf.mul a b).toNat : Int) := by
 unfold rP.f;rw [vA, vA, BZ, BZ];rfl
theorem aJG (n : Int) : fP.f n = some (decide (0 ≤ n ∧ n ≤ 64)) := by
 unfold fP.f
 by_cases h1 : n ≥ 0
 ·rw [if_pos h1]
  congr 1
  rw [Bool.eq_iff_iff, decide_eq_true_eq, decide_eq_true_eq];omega
 ·rw [if_neg h1, decide_eq_false (by omega)]
theorem aPt (a0 a1 : Int) : oK.f a0 a1 = some (if vY a0 a1 = true then (a0, a1, nI (List.replicate (a0.toNat * a1.toNat) 0), 0) else (0, 0, [], 2)) := by
 unfold oK.f;rw [aJG, aJG, Option.bind_some, Option.bind_some]
 by_cases h1 : 0 ≤ a0 ∧ a0 ≤ 64
 ·rw [if_pos (decide_eq_true h1)]
  by_cases h2 : 0 ≤ a1 ∧ a1 ≤ 64
  ·rw [if_pos (decide_eq_true h2)]
   have hs : vY a0 a1 = true := decide_eq_true ⟨h1, h2⟩;rw [if_pos hs];obtain ⟨a, b, rfl, rfl, ha, hb⟩ := GI hs;have hab : a * b ≤ 64 * 64 := Nat.mul_le_mul ha hb;unfold iT.f;rw [LC (by omega), if_pos (by omega), Int.toNat_natCast, if_pos (by omega), Option.bind_some, UT, Int.toNat_natCast, Int.toNat_natCast]
  ·rw [if_neg (by simpa using h2), if_neg (by unfold vY; simp; omega)]
 ·rw [if_neg (by simpa using h1), if_neg (by unfold vY; simp; omega)]
theorem aNN (a0 a1 : Int) : Ev (fun k => bO.f k a0 a1) (aBl a0 a1) := by
 unfold bO.f;simp only [aPt, Option.bind_some]
 by_cases hs : vY a0 a1 = true
 ·simp only [if_pos hs, if_true]
  unfold aBl;rw [if_pos hs];obtain ⟨a, b, rfl, rfl, ha, hb⟩ := GI hs;have hab : a * b ≤ 64 * 64 := Nat.mul_le_mul ha hb;rw [Int.toNat_natCast, Int.toNat_natCast, vS a b NX];have hl1 : ∀ i, i < a → Ev (fun k => bO.l0 k (b : Int) (a : Int) ((i + 1 : Nat) : Int) (a : Int) (b : Int) (nI (iZ a b NX (i + 1) 0))) ((a : Int), (b : Int), nI (QM a b), (0 : Int)) →
    ∀ d j, j + d = b → Ev (fun k => bO.l1 k (b : Int) (i : Int) ((NX i j).toNat : Int) (a : Int) (i : Int) (b : Int) (j : Int) (a : Int) (b : Int) (nI (iZ a b NX i j))) ((a : Int), (b : Int), nI (QM a b), (0 : Int)) := by
   intro i hi hr d
   induction d with
   | zero =>
    intro j hj;obtain rfl : j = b := by omega
    refine Ev.step (fun k => ?_) hr;rw [bO.l1, if_neg (by omega), eI (by omega), xQ]
   | succ d ih =>
    intro j hj;have hlt := kL hi (show j < b by omega);refine Ev.step (fun k => ?_) (ih (j + 1) (by omega));rw [bO.l1, if_pos (by omega), pL (by omega), if_pos (by omega), if_pos (by rw [bY, rO]; omega), VQ, aPu, Option.bind_some, Int.toNat_natCast, CI, eI (by omega), AZ NX hi (show j < b by omega)];rfl
  have hl0 : ∀ d i, i + d = a → Ev (fun k => bO.l0 k (b : Int) (a : Int) (i : Int) (a : Int) (b : Int) (nI (iZ a b NX i 0))) ((a : Int), (b : Int), nI (QM a b), (0 : Int)) := by
   intro d
   induction d with
   | zero =>
    intro i hi;obtain rfl : i = a := by omega
    refine Ev.step (f := fun _ => some ((i : Int), (b : Int), nI (QM i b), (0 : Int))) (fun k => ?_) (Ev.now _);rw [bO.l0, if_neg (by omega), BA];rfl
   | succ d ih =>
    intro i hi;have h1 := hl1 i (by omega) (ih (i + 1) (by omega)) b 0 (by omega);refine Ev.step (fun k => ?_) h1;rw [bO.l0, if_pos (by omega)];rfl
  exact hl0 a 0 (by omega)
 ·unfold aBl
  simp only [if_neg hs];exact Ev.now _
/-! Reed -/
def QW (a0 a1 : Int) : Bool := decide (1 ≤ a0 ∧ 0 ≤ a1 ∧ a0 + a1 ≤ 64)
theorem aNP (a0 a1 : Int) : iR.f a0 a1 = some (QW a0 a1) := by
 unfold iR.f QW
 by_cases h1 : a0 ≥ 1
 ·rw [if_pos h1]
  by_cases h2 : a0 ≤ 64
  ·rw [if_pos h2]
   by_cases h3 : a1 ≥ 0
   ·rw [if_pos h3, w64 (by omega) (by omega)]
    congr 1
    rw [Bool.eq_iff_iff, decide_eq_true_eq, decide_eq_true_eq];omega
   ·rw [if_neg h3, decide_eq_false (by omega)]
  ·rw [if_neg h2]
   congr 1
   exact (decide_eq_false (by omega)).symm
 ·rw [if_neg h1, decide_eq_false (by omega)]
def aEu (a0 a1 : Int) : Int × Int × List Int × Int := if QW a0 a1 = true then ZY (a0 + a1) a0 (QM (a0 + a1).toNat a0.toNat) else (0, 0, [], 2)
theorem aBE {a0 a1 : Int} (h : QW a0 a1 = true) : wrap64 (a0 + a1) = a0 + a1 ∧ aBl (a0 + a1) a0 = (a0 + a1, a0, nI (QM (a0 + a1).toNat a0.toNat), 0) := by
 have h := of_decide_eq_true h;refine ⟨w64 (by omega) (by omega), ?_⟩;unfold aBl;rw [if_pos (show vY (a0 + a1) a0 = true from decide_eq_true (by omega))]
theorem aPs (a0 a1 : Int) : Ev (fun k => oX.f k a0 a1) (aEu a0 a1) := by
 unfold oX.f aEu;simp only [aNP, Option.bind_some]
 by_cases h : QW a0 a1 = true
 ·obtain ⟨e1, e2⟩ := aBE h
  have hv := aNN (a0 + a1) a0;rw [e2] at hv;simp only [if_pos h, e1];refine Ev.bind hv ?_;simp only [if_true, aRS, Option.bind_some];exact Ev.now _
 ·simp only [if_neg h]
  exact Ev.now _
end Go.Proofs.Yteofcbkjhdadpaa
namespace Go.Proofs.Yteofcbkjhdadpaa
open Go.RowKit Go.Proofs.aI.bC Go.Proofs.Yteofcbkjhdadpaa.Pr
theorem aBG (a0 a1 : Int) : fF.f a0 a1 = some (if vY a0 a1 = true then (a0, a1, nI (List.replicate (a0.toNat * a1.toNat) 0), 0) else (0, 0, [], 2)) := by
 unfold fF.f
 by_cases hs : vY a0 a1 = true
 ·rw [if_pos hs]
  obtain ⟨a, b, rfl, rfl, ha, hb⟩ := GI hs;have hab : a * b ≤ 64 * 64 := Nat.mul_le_mul ha hb;rw [if_neg (by omega), if_neg (by omega), if_neg (by omega), if_neg (by omega), aAk (by omega), Option.bind_some, Int.toNat_natCast, Int.toNat_natCast]
 ·rw [if_neg hs]
  have hs' : ¬ ((0 ≤ a0 ∧ a0 ≤ 64) ∧ (0 ≤ a1 ∧ a1 ≤ 64)) := fun h => hs (decide_eq_true h)
  split
  ·rfl
  ·split
   ·rfl
   ·split
    ·rfl
    ·split
     ·rfl
     ·omega
theorem aIP (n : Nat) (h : n ≤ 64) : Ev (fun k => cG.f k (n : Int)) ((n : Int), (n : Int), nI (yE n n), 0) := by
 have hnn : n * n ≤ 64 * 64 := Nat.mul_le_mul h h;unfold cG.f;have hs : vY (n : Int) (n : Int) = true := decide_eq_true (by omega);simp only [aBG, if_pos hs, Option.bind_some, Int.toNat_natCast];have hl : ∀ d i, i + d = n → Ev (fun k => cG.l0 k (n : Int) 0 (i : Int) (n : Int) (n : Int) (nI (yE n i))) ((n : Int), (n : Int), nI (yE n n), 0) := by
  intro d
  induction d with
  | zero =>
   intro i hi;obtain rfl : i = n := by omega
   refine Ev.step (f := fun _ => some ((i : Int), (i : Int), nI (yE i i), (0 : Int))) (fun k => ?_) (Ev.now _);rw [cG.l0, if_neg (by omega)]
  | succ d ih =>
   intro i hi;have hlt := kL (show i < n by omega) (show i < n by omega);refine Ev.step (fun k => ?_) (ih (i + 1) (by omega));have e : nI (yE n (i + 1)) = (nI (yE n i)).set (i * n + i) 1 := (CI (yE n i) (i * n + i) 1).symm;rw [cG.l0, if_pos (by omega), if_pos rfl, pL (by omega), if_pos (by omega), if_pos (by rw [bY, PW]; omega), Int.toNat_natCast, eI (by omega), e]
 exact hl n 0 (by omega)
end Go.Proofs.Yteofcbkjhdadpaa
namespace Go.Proofs.Yteofcbkjhdadpaa
open Go.RowKit Go.Proofs.aI.bC Go.Proofs.Yteofcbkjhdadpaa.Pr
theorem aRU (xs : List UInt8) (h : xs.length < 140737488355328) : dH.f (nI xs) = some (nI xs) := by
 unfold dH.f;rw [Option.bind_some, if_pos (by rw [bY]; simpa using h), List.nil_append]
theorem aOV (a0 a1 : Int) (xs : List UInt8) : Ev (fun k => bU.f k a0 a1 (nI xs)) (ZY a0 a1 xs) := by
 have herr : Ev (fun k => bU.j0 k true a0 a1 (nI xs)) ((0 : Int), (0 : Int), ([] : List Int), (3 : Int)) := by
  refine Ev.step (f := fun _ => some ((0 : Int), (0 : Int), ([] : List Int), (3 : Int))) (fun k => ?_) (Ev.now _);rw [bU.j0, if_pos rfl]
 unfold bU.f;rw [AU, bY];simp only [Option.bind_some]
 by_cases h1 : cD a0 a1 xs.length = true
 ·rw [h1]
  simp only [if_true]
  by_cases h2 : a0 < a1
  ·have e : ZY a0 a1 xs = (0, 0, [], 3) := by
    unfold ZY uH;rw [h1, decide_eq_false (show ¬ a1 ≤ a0 by omega)];rfl
   rw [e, decide_eq_true h2];exact herr
  ·have ht : uH a0 a1 xs.length = true := by
    unfold uH;rw [h1, decide_eq_true (show a1 ≤ a0 by omega)];rfl
   obtain ⟨a, c, rfl, rfl, ha, hca, hx⟩ := aBq ht;have hc : c ≤ 64 := by omega
   have hcc : c * c ≤ 64 * 64 := Nat.mul_le_mul hc hc;have hac : a * c ≤ 64 * 64 := Nat.mul_le_mul ha hc;have hle : c * c ≤ a * c := Nat.mul_le_mul_right c hca;have htl : (xs.take (c * c)).length = c * c := by rw [List.length_take]; omega
   have hL : eE c c (nC (xs.take (c * c)) c c) := GL htl;have hA := (aBR hL).2;have hinv := aOX hL hc;rw [XQ htl] at hinv;have es : gY c (nC (xs.take (c * c)) c c) = ZZ c xs := rfl;rw [es] at hinv hA;have htop : dR.f (a : Int) (c : Int) (nI xs) (c : Int) = some ((c : Int), (c : Int), nI (xs.take (c * c))) := by
    unfold dR.f;rw [LC (by omega), if_pos (by omega), if_pos (by rw [bY]; omega), Int.toNat_natCast, aLB, aRU _ (by omega), Option.bind_some]
   rw [decide_eq_false h2];refine Ev.step (f := fun k => (aU.f k (c : Int) (c : Int) (nI (xs.take (c * c)))).bind fun qP => (if qP.2.2.2 = 0 then ((aW.f k (a : Int) (c : Int) (nI xs) qP.1 qP.2.1 qP.2.2.1).bind fun qB => (some (qB.1, qB.2.1, qB.2.2.1, qB.2.2.2))) else (some (0, 0, ([] : List Int), qP.2.2.2)))) (fun k => ?_) (Ev.bind hinv ?_)
   ·rw [bU.j0, if_neg (by simp), htop, Option.bind_some]
   ·unfold ZY
    rw [if_pos ht, Int.toNat_natCast, Int.toNat_natCast]
    by_cases hp : (ZZ c xs).2.2.length < c
    ·simp only [if_pos hp]
     exact Ev.now _
    ·simp only [if_neg hp, if_true]
     have hm := aOW (a : Int) (c : Int) (c : Int) (c : Int) xs (ZZ c xs).2.1.flatten;have hmb : uA (a : Int) (c : Int) xs.length (c : Int) (c : Int) (ZZ c xs).2.1.flatten.length = true := by
      unfold uA;rw [kN hA, sX hc hc rfl, h1]
      simp
     rw [if_pos hmb, Int.toNat_natCast, Int.toNat_natCast] at hm;exact Ev.bind hm (Ev.now _)
 ·have e : ZY a0 a1 xs = (0, 0, [], 3) := by
   unfold ZY uH;simp only [Bool.not_eq_true] at h1;rw [h1];rfl
  simp only [if_neg h1];rw [e];exact herr
theorem aIK (a : UInt8) (n : Nat) (hn : n ≤ 9223372036854775806) : ∀ d i, i + d = n → Ev (fun k => dB.l0 k (a.toNat : Int) (n : Int) ((Gf.npow a i).toNat : Int) (i : Int)) ((Gf.npow a n).toNat : Int) := by
 intro d
 induction d with
 | zero =>
  intro i hi;obtain rfl : i = n := by omega
  refine Ev.step (f := fun _ => some ((Gf.npow a i).toNat : Int)) (fun k => ?_) (Ev.now _);rw [dB.l0, if_neg (by omega)]
 | succ d ih =>
  intro i hi;refine Ev.step (fun k => ?_) (ih (i + 1) (by omega));rw [dB.l0, if_pos (by omega), RL, Option.bind_some, eI (by omega)];rfl
theorem aGR (n : Nat) : Gf.npow 0 (n + 1) = 0 := by
 rw [Gf.npow, Gf.mul_zero]
theorem aLt (a : UInt8) (j : Nat) (hj : j < 255) : Ev (fun k => kZ.f k (a.toNat : Int) (j : Int)) (((Gf.npow a j).toNat : Int), (0 : Int)) := by
 unfold kZ.f
 by_cases ha : a = 0
 ·subst ha
  simp only [if_pos (show ((UInt8.toNat 0 : Nat) : Int) = 0 from rfl), if_neg (show ¬ (j : Int) < 0 by omega)]
  cases j with
  | zero => exact Ev.now _
  | succ j =>
   simp only [if_neg (show ¬ ((j + 1 : Nat) : Int) = 0 by omega), aGR];exact Ev.now _
 ·have hne : ¬ (a.toNat : Int) = 0 := fun e => ha (UInt8.toNat_inj.1 (by simpa using e))
  have hm : Int.tmod (j : Int) 255 = (j : Int) := by
   rw [Int.tmod_eq_emod_of_nonneg (by omega)];omega
  simp only [if_neg hne, hm, if_neg (show ¬ (j : Int) < 0 by omega)];exact Ev.bind (aIK a j (by omega) j 0 (by omega)) (Ev.now _)
theorem aIJ (a0 a1 : Int) : Ev (fun k => aY.f k a0 a1) (aBl a0 a1) := by
 unfold aY.f;simp only [aBG, Option.bind_some]
 by_cases hs : vY a0 a1 = true
 ·simp only [if_pos hs]
  unfold aBl;rw [if_pos hs];obtain ⟨a, b, rfl, rfl, ha, hb⟩ := GI hs;have hab : a * b ≤ 64 * 64 := Nat.mul_le_mul ha hb;rw [Int.toNat_natCast, Int.toNat_natCast, vS a b NX];have hl1 : ∀ i, i < a → Ev (fun k => aY.l0 k 0 ((i + 1 : Nat) : Int) (a : Int) (b : Int) (nI (iZ a b NX (i + 1) 0))) ((a : Int), (b : Int), nI (QM a b), (0 : Int)) →
    ∀ d j, j + d = b → Ev (fun k => aY.l1 k 0 (i : Int) (j : Int) (a : Int) (b : Int) (nI (iZ a b NX i j))) ((a : Int), (b : Int), nI (QM a b), (0 : Int)) := by
   intro i hi hr d
   induction d with
   | zero =>
    intro j hj;obtain rfl : j = b := by omega
    refine Ev.step (fun k => ?_) hr;rw [aY.l1, if_neg (by omega), eI (by omega), xQ]
   | succ d ih =>
    intro j hj;have hlt := kL hi (show j < b by omega);have hp := aLt (UInt8.ofNat i) j (by omega);rw [← VQ] at hp;refine Ev.step (fun k => by rw [aY.l1, if_pos (by omega)]) (Ev.bind hp ?_);have h2 := ih (j + 1) (by omega);rw [← AZ NX hi (show j < b by omega), ← CI] at h2;have c2 : (((i * b + j : Nat) : Int)) < ((nI (iZ a b NX i j)).length : Int) := by rw [bY, rO]; omega
    simp only [pL (show i * b + j ≤ 9223372036854775807 by omega), if_pos (show (0 : Int) ≤ ((i * b + j : Nat) : Int) by omega), if_pos c2, Int.toNat_natCast, eI (show j ≤ 9223372036854775806 by omega)];exact h2
  have hl0 : ∀ d i, i + d = a → Ev (fun k => aY.l0 k 0 (i : Int) (a : Int) (b : Int) (nI (iZ a b NX i 0))) ((a : Int), (b : Int), nI (QM a b), (0 : Int)) := by
   intro d
   induction d with
   | zero =>
    intro i hi;obtain rfl : i = a := by omega
    refine Ev.step (f := fun _ => some ((i : Int), (b : Int), nI (QM i b), (0 : Int))) (fun k => ?_) (Ev.now _);rw [aY.l0, if_neg (by omega), BA];rfl
   | succ d ih =>
    intro i hi;have h1 := hl1 i (by omega) (ih (i + 1) (by omega)) b 0 (by omega);refine Ev.step (fun k => ?_) h1;rw [aY.l0, if_pos (by omega)];rfl
  exact hl0 a 0 (by omega)
 ·unfold aBl
  simp only [if_neg hs];refine Ev.step (f := fun _ => some ((0 : Int), (0 : Int), ([] : List Int), (2 : Int))) (fun k => ?_) (Ev.now _);rw [aY.l0, if_neg (by omega)]
theorem aEx (a0 a1 : Int) : eH.f a0 a1 = some (QW a0 a1) := by
 unfold eH.f QW
 by_cases h1 : a0 ≥ 1
 ·rw [if_pos h1]
  by_cases h3 : a1 ≥ 0
  ·rw [if_pos h3]
   by_cases h2 : a0 ≤ 64
   ·rw [if_pos h2]
    by_cases h4 : a1 ≤ 64
    ·rw [if_pos h4, w64 (by omega) (by omega)]
     congr 1
     rw [Bool.eq_iff_iff, decide_eq_true_eq, decide_eq_true_eq];omega
    ·rw [if_neg h4, decide_eq_false (by omega)]
   ·rw [if_neg h2, decide_eq_false (by omega)]
  ·rw [if_neg h3, decide_eq_false (by omega)]
 ·rw [if_neg h1, decide_eq_false (by omega)]
theorem aLs (a0 a1 : Int) : Ev (fun k => fE.f k a0 a1) (aEu a0 a1) := by
 unfold fE.f aEu;simp only [aEx, Option.bind_some]
 by_cases h : QW a0 a1 = true
 ·obtain ⟨e1, e2⟩ := aBE h
  have hv := aIJ (a0 + a1) a0;rw [e2] at hv;simp only [if_pos h, e1];refine Ev.bind hv ?_;exact Ev.bind (aOV (a0 + a1) a0 (QM (a0 + a1).toNat a0.toNat)) (Ev.now _)
 ·simp only [if_neg h]
  exact Ev.now _
end Go.Proofs.Yteofcbkjhdadpaa
namespace Go.Proofs.Yteofcbkjhdadpaa
open Go.RowKit Go.Proofs.aI.bC Go.Proofs.Yteofcbkjhdadpaa.Pr
theorem aPr (a : UInt8) : eQ.f (a.toNat : Int) = some (((Gf.inv a).toNat : Int), Gf.KC a) := by
 unfold eQ.f;rw [vA, BZ];rfl
theorem aII {r c : Nat} (h : r * c ≤ 281474976710656) : dG.f (r : Int) (c : Int) = some ((r : Int), (c : Int), nI (List.replicate (r * c) 0)) := by
 unfold dG.f;rw [LC (by omega), if_pos (by omega), Int.toNat_natCast, if_pos h, UT]
theorem aIR (xs : List UInt8) (h : xs.length < 140737488355328) : dH.f (nI xs) = some (nI xs) := by
 unfold dH.f;rw [Option.bind_some, if_pos (by rw [bY]; simpa using h), List.nil_append]
theorem aOY (l : List Int) : iO.f l l = some true := by
 unfold iO.f;rw [beq_self_eq_true]
theorem aIO (r c : Int) (l : List Int) (e : Int) : bT.f r c l e r c l e = some true := by
 unfold bT.f kE.f;rw [if_pos rfl, if_pos rfl, if_pos rfl, aOY];rfl
theorem aDp (xs ys : List UInt8) : Ev (fun k => aQ.f k (nI xs) (nI ys)) (OY xs ys, OZ xs ys, nI (PB xs ys), oF xs ys) := by
 have herr : ∀ E : Int, oF xs ys = E → E ≠ 0 → (OY xs ys, OZ xs ys, nI (PB xs ys), oF xs ys) = ((0 : Int), (0 : Int), nI [], E) := by
  intro E h hE;unfold OY OZ PB;rw [h, if_neg hE, if_neg hE, if_neg hE]
 have hbig : 64 < xs.length ∨ 64 < ys.length → Ev (fun k => aQ.j0 k (nI xs) (nI ys) true) (OY xs ys, OZ xs ys, nI (PB xs ys), oF xs ys) := by
  intro h;rw [herr 4 (by unfold oF; rw [if_pos h]) (by omega)];refine Ev.step (f := fun _ => some ((0 : Int), (0 : Int), nI [], (4 : Int))) (fun k => ?_) (Ev.now _);rw [aQ.j0, if_pos rfl];rfl
 unfold aQ.f;rw [bY, bY]
 by_cases h1 : (xs.length : Int) > 64
 ·simp only [if_pos h1]; exact hbig (.inl (by omega))
 ·simp only [if_neg h1]
  by_cases h2 : (ys.length : Int) > 64
  ·rw [decide_eq_true h2]; exact hbig (.inr (by omega))
  ·rw [decide_eq_false h2]
   obtain ⟨n, hn⟩ : ∃ n, n = xs.length := ⟨_, rfl⟩
   obtain ⟨m, hm⟩ : ∃ m, m = ys.length := ⟨_, rfl⟩
   obtain ⟨al, hal⟩ : ∃ al, al = xs ++ ys := ⟨_, rfl⟩
   have hall : al.length = n + m := by rw [hal, List.length_append, ← hn, ← hm]
   have hnm : n * m ≤ 4096 := Nat.le_trans (Nat.mul_le_mul (show n ≤ 64 by omega) (show m ≤ 64 by omega)) (by omega);have hE : oF xs ys = if OV al = true then 2 else 0 := by unfold oF; rw [if_neg (by omega), hal]
   have hfill : oF xs ys = 0 → Ev (fun k => aQ.l2 k (nI xs) (nI ys) 0 (n : Int) (m : Int) (nI (iZ n m (PA xs ys) 0 0))) (OY xs ys, OZ xs ys, nI (PB xs ys), oF xs ys) := by
    intro h0;have hres : (OY xs ys, OZ xs ys, nI (PB xs ys), oF xs ys) = ((n : Int), (m : Int), nI (iZ n m (PA xs ys) n 0), (0 : Int)) := by
     unfold OY OZ PB;rw [h0, if_pos rfl, if_pos rfl, if_pos rfl, BA, hn, hm];rfl
    rw [hres];have hin : ∀ i, i < n → Ev (fun k => aQ.l2 k (nI xs) (nI ys) ((i + 1 : Nat) : Int) (n : Int) (m : Int) (nI (iZ n m (PA xs ys) (i + 1) 0))) ((n : Int), (m : Int), nI (iZ n m (PA xs ys) n 0), (0 : Int)) →
      ∀ d j, j + d = m → Ev (fun k => aQ.l3 k (nI xs) (nI ys) (i : Int) (j : Int) (n : Int) (m : Int) (nI (iZ n m (PA xs ys) i j))) ((n : Int), (m : Int), nI (iZ n m (PA xs ys) n 0), (0 : Int)) := by
     intro i hi hr d
     induction d with
     | zero =>
      intro j hj;obtain rfl : j = m := by omega
      refine Ev.step (fun k => ?_) hr;rw [aQ.l3, if_neg (by rw [bY]; omega), eI (by omega), xQ]
     | succ d ih =>
      intro j hj;have hp := kL (show i < n from hi) (show j < m by omega);refine Ev.step (fun k => ?_) (ih (j + 1) (by omega));rw [aQ.l3, if_pos (by rw [bY]; omega), if_pos (by omega), if_pos (by rw [bY]; omega), if_pos (by omega), ET, ET, aFJ, aPr, Option.bind_some, pL (by omega), if_pos (by omega), if_pos (by rw [bY, rO]; omega), Int.toNat_natCast, CI, eI (by omega)];have e := AZ (PA xs ys) hi (show j < m by omega);rw [← e];rfl
    have hout : ∀ d i, i + d = n → Ev (fun k => aQ.l2 k (nI xs) (nI ys) (i : Int) (n : Int) (m : Int) (nI (iZ n m (PA xs ys) i 0))) ((n : Int), (m : Int), nI (iZ n m (PA xs ys) n 0), (0 : Int)) := by
     intro d
     induction d with
     | zero =>
      intro i hi;obtain rfl : i = n := by omega
      refine Ev.step (f := fun _ => some ((i : Int), (m : Int), nI (iZ i m (PA xs ys) i 0), (0 : Int))) (fun k => ?_) (Ev.now _);rw [aQ.l2, if_neg (by rw [bY]; omega)]
     | succ d ih =>
      intro i hi;refine Ev.step (fun k => ?_) (hin i (by omega) (ih (i + 1) (by omega)) m 0 (by omega));rw [aQ.l2, if_pos (by rw [bY]; omega)];rfl
    exact hout n 0 (by omega)
   have hseen : ∀ i, i < al.length → al.getD i 0 ∈ al.take i → oF xs ys = 2 := by
    intro i hi h;rw [hE, show OV al = true from KG h _ hi];rfl
   have hone : ∀ i, i < al.length → vT al i = false → (vT al (i + 1) = false → Ev (fun k => aQ.l0 k (nI xs) (nI ys) (nI al) ((i + 1 : Nat) : Int)) (OY xs ys, OZ xs ys, nI (PB xs ys), oF xs ys)) →
     ∀ d j, j + d = i → (∀ k, k < j → al.getD i 0 ≠ al.getD k 0) → Ev (fun k => aQ.l1 k (nI xs) (nI ys) (nI al) (i : Int) (j : Int)) (OY xs ys, OZ xs ys, nI (PB xs ys), oF xs ys) := by
    intro i hi hd hr d
    induction d with
    | zero =>
     intro j hj hne;obtain rfl : j = i := by omega
     refine Ev.step (fun k => ?_) (hr ?_)
     ·rw [aQ.l1, if_neg (by omega), eI (by omega)]
     ·rw [vT, hd, Bool.false_or, decide_eq_false_iff_not]
      intro h;obtain ⟨k, hk, _, e⟩ := LP h;exact hne k hk e.symm
    | succ d ih =>
     intro j hj hne
     by_cases e : al.getD i 0 = al.getD j 0
     ·rw [herr 2 (hseen i hi (by rw [e]; exact zY (by omega) (by omega))) (by omega)]
      refine Ev.step (f := fun _ => some ((0 : Int), (0 : Int), nI [], (2 : Int))) (fun k => ?_) (Ev.now _);rw [aQ.l1, if_pos (by omega), if_pos (by omega), if_pos (by rw [bY]; omega), if_pos (by omega), if_pos (by rw [bY]; omega), ET, ET, if_pos (by rw [e])];rfl
     ·refine Ev.step (fun k => ?_) (ih (j + 1) (by omega) (fun k hk => ?_))
      ·rw [aQ.l1, if_pos (by omega), if_pos (by omega), if_pos (by rw [bY]; omega), if_pos (by omega), if_pos (by rw [bY]; omega), ET, ET, if_neg (fun h => e (UInt8.toNat_inj.1 (by omega))), eI (by omega)]
      ·rcases Nat.lt_or_ge k j with h | h
       ·exact hne k h
       ·obtain rfl : k = j := by omega
        exact e
   have hall0 : ∀ d i, i + d = al.length → vT al i = false → Ev (fun k => aQ.l0 k (nI xs) (nI ys) (nI al) (i : Int)) (OY xs ys, OZ xs ys, nI (PB xs ys), oF xs ys) := by
    intro d
    induction d with
    | zero =>
     intro i hi hd;obtain rfl : i = al.length := by omega
     have h0 : oF xs ys = 0 := by rw [hE, show OV al = false from hd]; rfl
     refine Ev.step (fun k => ?_) (hfill h0);rw [aQ.l0, if_neg (by rw [bY]; omega), bY, bY, ← hn, ← hm, aII (by omega), Option.bind_some, vS n m (PA xs ys)]
    | succ d ih =>
     intro i hi hd;refine Ev.step (fun k => ?_) (hone i (by omega) hd (fun h => ih (i + 1) (by omega) h) i 0 (by omega) (fun k hk => by omega));rw [aQ.l0, if_pos (by rw [bY]; omega)];rfl
   refine Ev.step (fun k => ?_) (hall0 al.length 0 (by omega) rfl);rw [aQ.j0, if_neg (by simp), aIR xs (by omega), Option.bind_some, if_pos (by rw [bY, bY]; omega), aAq, ← hal];rfl
end Go.Proofs.Yteofcbkjhdadpaa
namespace Go.Proofs.Yteofcbkjhdadpaa
open Go.RowKit Go.Proofs.aI.bC Go.Proofs.Yteofcbkjhdadpaa.Pr
theorem aLu (xs : List UInt8) (h : xs.length < 140737488355328) : dH.f (nI xs) = some (nI xs) := by
 unfold dH.f;rw [Option.bind_some, if_pos (by rw [bY]; simpa using h), List.nil_append]
theorem aIL (a0 a1 b0 b1 : Int) (xs ys : List UInt8) :
  Ev (fun k => bH.f k a0 a1 (nI xs) b0 b1 (nI ys)) (if lZ a0 a1 xs.length b0 b1 ys.length = 0 then (a0 + b0, a1, nI xs ++ nI ys, 0) else (0, 0, [], lZ a0 a1 xs.length b0 b1 ys.length)) := by
 unfold bH.f;simp only [AU, bY, Option.bind_some]
 by_cases h1 : cD a0 a1 xs.length = true
 ·by_cases h2 : cD b0 b1 ys.length = true
  ·simp only [h1, h2, if_true]
   by_cases h3 : a1 = b1
   ·obtain ⟨a, b, rfl, rfl, k1, k2, k3⟩ := CH h1
    obtain ⟨a', b', rfl, k4, k5, k6, k7⟩ := CH h2;have hb : xs.length ≤ 64 * 64 := by rw [k3]; exact Nat.mul_le_mul k1 k2
    have hb2 : ys.length ≤ 64 * 64 := by rw [k7]; exact Nat.mul_le_mul k5 k6
    by_cases h4 : (a : Int) + (a' : Int) ≤ 64
    ·have hE : lZ a b xs.length a' b1 ys.length = 0 := by unfold lZ; rw [h1, h2]; simp [h3, h4]
     rw [if_pos hE];refine Ev.step (fun k => ?_) (Ev.now _);rw [bH.j0, if_neg (by simp [h3]), w64 (by omega) (by omega), if_neg (by omega), aLu xs (by omega), Option.bind_some, if_pos (by rw [bY, bY]; omega)]
    ·have hE : lZ a b xs.length a' b1 ys.length = 4 := by unfold lZ; rw [h1, h2]; simp [h3, h4]
     rw [hE, if_neg (by omega)];refine Ev.step (fun k => ?_) (Ev.now _);rw [bH.j0, if_neg (by simp [h3]), w64 (by omega) (by omega), if_pos (by omega)]
   ·have hE : lZ a0 a1 xs.length b0 b1 ys.length = 3 := by unfold lZ; rw [h1, h2]; simp [h3]
    rw [hE, if_neg (by omega)];refine Ev.step (fun k => ?_) (Ev.now _);rw [bH.j0, if_pos (by simpa using h3)]
  ·have hE : lZ a0 a1 xs.length b0 b1 ys.length = 3 := by unfold lZ; simp [h2]
   simp only [h1, h2, if_true, Bool.false_eq_true, if_false];rw [hE, if_neg (by omega)];refine Ev.step (fun k => ?_) (Ev.now _);rw [bH.j0, if_pos rfl]
 ·have hE : lZ a0 a1 xs.length b0 b1 ys.length = 3 := by unfold lZ; simp [h1]
  simp only [h1, Bool.false_eq_true, if_false];rw [hE, if_neg (by omega)];refine Ev.step (fun k => ?_) (Ev.now _);rw [bH.j0, if_pos rfl]
end Go.Proofs.Yteofcbkjhdadpaa
namespace Go.Proofs.Yteofcbkjhdadpaa
open Go.RowKit Go.Proofs.aI.bC Go.Proofs.Yteofcbkjhdadpaa.Pr
def kC (o n : Nat) : List UInt8 := (List.range n).map fun i => UInt8.ofNat (o + i)
theorem jP (o n : Nat) : (kC o n).length = n := by simp [kC]
theorem aBB {o n i : Nat} (h : i < n) : (kC o n).getD i 0 = UInt8.ofNat (o + i) := by
 unfold kC;rw [List.getD_eq_getElem?_getD, List.getElem?_map, List.getElem?_range h];rfl
theorem OB (o n : Nat) : nI (kC o n) ++ [((o + n : Nat) : Int) % 256] = nI (kC o (n + 1)) := by
 rw [VQ, aAp];unfold kC;rw [List.range_succ, List.map_append];rfl
theorem aLk {o n : Nat} (h : o + n ≤ 64) : OV (kC o n ++ kC 0 o) = false := by
 have hl : (kC o n ++ kC 0 o).length = n + o := by rw [List.length_append, jP, jP]
 have hg : ∀ i, i < n + o → ((kC o n ++ kC 0 o).getD i 0).toNat = if i < n then o + i else i - n := by
  intro i hi
  by_cases h1 : i < n
  ·rw [if_pos h1, List.getD_eq_getElem?_getD, List.getElem?_append_left (by rw [jP]; exact h1), ← List.getD_eq_getElem?_getD, aBB h1, UInt8.toNat_ofNat']
   omega
  ·rw [if_neg h1, List.getD_eq_getElem?_getD, List.getElem?_append_right (by rw [jP]; omega), ← List.getD_eq_getElem?_getD, jP, aBB (by omega), UInt8.toNat_ofNat']
   omega
 have hd : ∀ i, i ≤ n + o → vT (kC o n ++ kC 0 o) i = false := by
  intro i
  induction i with
  | zero => intro _; rfl
  | succ i ih =>
   intro hi;rw [vT, ih (by omega), Bool.false_or, decide_eq_false_iff_not];intro hm;obtain ⟨k, hk, _, e⟩ := LP hm;have e2 := congrArg UInt8.toNat e;rw [hg i (by omega), hg k (by omega)] at e2
   split at e2 <;> split at e2 <;> omega
 unfold OV;rw [hl];exact hd _ (Nat.le_refl _)
theorem aWB (n : Nat) (h : n ≤ 64) : eR.f (n : Int) = some ((n : Int), (n : Int), nI (yE n n), 0) := by
 unfold eR.f;rw [if_pos (by simp [VA, jT]; omega), Int.toNat_natCast]
theorem aLj (a0 a1 : Int) (xs : List UInt8) (b0 b1 : Int) (ys : List UInt8) : fJ.f a0 a1 (nI xs) b0 b1 (nI ys) = some (if lZ a0 a1 xs.length b0 b1 ys.length = 0 then (a0 + b0, a1, nI xs ++ nI ys, 0) else (0, 0, [], lZ a0 a1 xs.length b0 b1 ys.length)) := by
 unfold fJ.f;rw [OR, OR, bY, bY];simp only [Bool.and_self, if_true]
 split <;> rfl
def aAQ (a b : Nat) : List UInt8 := yE a a ++ QZ (kC a b) (kC 0 a)
def aAP (a0 a1 : Int) : Int × Int × List Int × Int := if QW a0 a1 = true then (a0 + a1, a0, nI (aAQ a0.toNat a1.toNat), 0) else (0, 0, [], 2)
theorem aHo {a b : Nat} (h : a + b ≤ 64) : oF (kC a b) (kC 0 a) = 0 := by
 unfold oF;rw [jP, jP, if_neg (by omega), aLk h];rfl
theorem QB {a b : Nat} (h : a + b ≤ 64) : lZ (a : Int) (a : Int) (yE a a).length (b : Int) (a : Int) (QZ (kC a b) (kC 0 a)).length = 0 := by
 unfold lZ;rw [PW, sX (by omega) (by omega) rfl, show (QZ (kC a b) (kC 0 a)).length = b * a by unfold QZ; rw [lR, jP, jP], sX (by omega) (by omega) rfl]
 simp
 omega
theorem aEA {a0 a1 : Int} (h : QW a0 a1 = true) : ∃ a b : Nat, a0 = a ∧ a1 = b ∧ 1 ≤ a ∧ a + b ≤ 64 := by
 have h := of_decide_eq_true h;exact ⟨a0.toNat, a1.toNat, by omega, by omega, by omega, by omega⟩
theorem aJV {a b : Nat} (h : a + b ≤ 64) : (OY (kC a b) (kC 0 a), OZ (kC a b) (kC 0 a), nI (PB (kC a b) (kC 0 a)), oF (kC a b) (kC 0 a)) = ((b : Int), (a : Int), nI (QZ (kC a b) (kC 0 a)), (0 : Int)) := by
 unfold OY OZ PB;rw [aHo h, if_pos rfl, if_pos rfl, if_pos rfl, jP, jP]
theorem aNO (o n : Nat) (h : o + n ≤ 64) : Ev (fun k => dX.f k (o : Int) (n : Int)) (nI (kC o n)) := by
 unfold dX.f;have hl : ∀ d i, i + d = n → Ev (fun k => dX.l0 k (o : Int) (nI (kC o i)) (n : Int) (i : Int)) (nI (kC o n)) := by
  intro d
  induction d with
  | zero =>
   intro i hi;obtain rfl : i = n := by omega
   refine Ev.step (f := fun _ => some (nI (kC o i))) (fun k => ?_) (Ev.now _);rw [dX.l0, if_neg (by omega)]
  | succ d ih =>
   intro i hi;refine Ev.step (fun k => ?_) (ih (i + 1) (by omega));rw [dX.l0, if_pos (by omega), if_pos (by rw [bY, jP]; omega), ZN (by omega), OB, eI (by omega)]
 exact hl n 0 (by omega)
theorem aMN (a0 a1 : Int) : Ev (fun k => jA.f k a0 a1) (aAP a0 a1) := by
 unfold jA.f aAP;simp only [aNP, Option.bind_some]
 by_cases h : QW a0 a1 = true
 ·obtain ⟨a, b, rfl, rfl, ha, hab⟩ := aEA h
  simp only [if_pos h, aWB a (by omega), Option.bind_some, if_true];have h1 := aNO a b hab;have h2 := aNO 0 a (by omega);refine Ev.bind h1 (Ev.bind h2 ?_);simp only [aJH (kC a b) (kC 0 a) (by rw [jP]; omega) (by rw [jP]; omega), aJV hab, Option.bind_some, if_true, aLj, QB hab, aAq];exact Ev.now _
 ·simp only [if_neg h]
  exact Ev.now _
end Go.Proofs.Yteofcbkjhdadpaa
namespace Go.Proofs.Yteofcbkjhdadpaa
open Go.RowKit Go.Proofs.aI.bC Go.Proofs.Yteofcbkjhdadpaa.Pr
theorem aIQ (a0 a1 : Int) : Ev (fun k => bS.f k a0 a1) (aAP a0 a1) := by
 unfold bS.f aAP;simp only [aEx, Option.bind_some]
 by_cases h : QW a0 a1 = true
 ·obtain ⟨a, b, rfl, rfl, ha, hab⟩ := aEA h
  simp only [if_pos h];have hend : Ev (fun k => (aQ.f k (nI (kC a b)) (nI (kC 0 a))).bind fun VR => ((cG.f k (a : Int)).bind fun FM => ((bH.f k FM.1 FM.2.1 FM.2.2.1 VR.1 VR.2.1 VR.2.2.1).bind fun uD => (some (uD.1, uD.2.1, uD.2.2.1, uD.2.2.2)))))
    ((a : Int) + (b : Int), (a : Int), nI (aAQ (a : Int).toNat (b : Int).toNat), (0 : Int)) := by
   have h1 := aDp (kC a b) (kC 0 a);rw [aJV hab] at h1;have h2 := aIP a (by omega);have h3 := aIL (a : Int) (a : Int) (b : Int) (a : Int) (yE a a) (QZ (kC a b) (kC 0 a));rw [if_pos (QB hab), aAq] at h3;exact Ev.bind h1 (Ev.bind h2 (Ev.bind h3 (Ev.now _)))
  have hl1 : ∀ d i, i + d = b → Ev (fun k => bS.l1 k (a : Int) (b : Int) (nI (kC a i)) (nI (kC 0 a)) (i : Int)) ((a : Int) + (b : Int), (a : Int), nI (aAQ (a : Int).toNat (b : Int).toNat), (0 : Int)) := by
   intro d
   induction d with
   | zero =>
    intro i hi;obtain rfl : i = b := by omega
    refine Ev.step (fun k => ?_) hend;rw [bS.l1, if_neg (by omega)]
   | succ d ih =>
    intro i hi;refine Ev.step (fun k => ?_) (ih (i + 1) (by omega));rw [bS.l1, if_pos (by omega), if_pos (by rw [bY, jP]; omega), ZN (by omega), OB, eI (by omega)]
  have hl0 : ∀ d i, i + d = a → Ev (fun k => bS.l0 k (a : Int) (b : Int) (nI (kC 0 i)) (i : Int)) ((a : Int) + (b : Int), (a : Int), nI (aAQ (a : Int).toNat (b : Int).toNat), (0 : Int)) := by
   intro d
   induction d with
   | zero =>
    intro i hi;obtain rfl : i = a := by omega
    refine Ev.step (fun k => ?_) (hl1 b 0 (by omega));rw [bS.l0, if_neg (by omega)];rfl
   | succ d ih =>
    intro i hi;refine Ev.step (fun k => ?_) (ih (i + 1) (by omega));have e := OB 0 i;rw [Nat.zero_add] at e;rw [bS.l0, if_pos (by omega), if_pos (by rw [bY, jP]; omega), e, eI (by omega)]
  exact hl0 a 0 (by omega)
 ·simp only [if_neg h]
  exact Ev.now _
theorem aGZ (a0 a1 : Int) : ∃ k, iJ.f k a0 a1 = some true := by
 refine Ev.rounds ?_;unfold iJ.f;refine Ev.bind (aNN a0 a1) (Ev.bind (aIJ a0 a1) (Ev.bind (aPs a0 a1) (Ev.bind (aLs a0 a1) (Ev.bind (aMN a0 a1) (Ev.bind (aIQ a0 a1) ?_)))));simp only [aIO, Option.bind_some, if_true];exact Ev.now _
theorem RB (a0 a1 : Int) (w : World) (b0 : -9223372036854775808 ≤ a0) (b1 : a0 ≤ 9223372036854775807) (b2 : -9223372036854775808 ≤ a1) (b3 : a1 ≤ 9223372036854775807) :
  Calls Try.prog 7 #[.int .i64 a0, .int .i64 a1] w fun e w' => e = .returned (.bool true) ∧ Below w.heap.size w w' := by
 obtain ⟨k, h⟩ := aGZ a0 a1;exact iJ.calls k a0 a1 true w rfl h
end Go.Proofs.Yteofcbkjhdadpaa
namespace Go.Proofs.Yteofcbkjhdadpaa.buildMade
open Go.ChangeShapes Go.WideShapes Go.ChangeAt Go.RowKit
theorem lifted (os : Os) (started : os.Started) (H : Type) (enc : TypeId × Value → H) :
  ReturnsInHanded {} Try.checked os 7 .any (Rows.buildMadeSpec.pre6 enc Try.prog Try.f7 Rows.buildMadeRow.domain false) (Rows.buildMadeSpec.post enc Try.prog Try.f7 false true false false) := by
 refine returnsInHanded_of_change_sized (C := Try.checked) aIZ started (by kernel_rfl) Try.func7
  (ChangeSpec.witness6 (enc := enc) (C := Try.checked) false ⟨#[], #[.int .i64 0, .int .i64 0], []⟩ 8 (by kernel_rfl) (by kernel_rfl) (by kernel_rfl) (by kernel_rfl)) ?_
 intro W base args ds gs before hval0 hW hcnd aQT _;have hsz : (DataW.weightsEach Try.prog (Try.f7.params.toList ++ Rows.buildMadeSpec.plain.varTypes Try.prog) (ds ++ gs)).all (· ≤ reachBytes) = true := aQT;have hval : ∀ (j : Nat) t v, Try.f7.params[j]? = some t → args[j]? = some v → Value.okWide Try.prog W .any base t v := hval0;have hW' := hW;obtain ⟨p, q, hA0, hV, rfl, hfz, hnd⟩ := hW;have hA : DataW.TrodAll enc Try.prog W 0 (fun _ => true) true Try.f7.params.toList args.toList ds p := hA0;rw [Try.params7] at hA hval hsz;obtain ⟨v0, vs0, d0, ds0, p0, q0, hargs, rfl, rfl, h0, r0⟩ := trodAll_cons hA;obtain ⟨v1, vs1, d1, ds1, p1, q1, rfl, rfl, rfl, h1, r1⟩ := trodAll_cons r0;obtain ⟨rfl, rfl, rfl⟩ := trodAll_nil r1;obtain rfl : args = #[v0, v1] := by cases args; simp_all
 obtain ⟨rfl, rfl⟩ := trodVars_none hV;have k0 := h0;have lt0 : ∀ x ∈ p0, x.block < W.heap.size := by obtain ⟨m, hm⟩ := k0; exact DataW.trod_lt m _ _ _ hm
 have k1 := h1;have lt1 : ∀ x ∈ p1, x.block < W.heap.size := by obtain ⟨m, hm⟩ := k1; exact DataW.trod_lt m _ _ _ hm
 obtain ⟨a0, rfl, rfl, rfl, w0⟩ := open_int Try.underlying3 (hval 0 3 v0 rfl rfl) h0;obtain ⟨a1, rfl, rfl, rfl, w1⟩ := open_int Try.underlying3 (hval 1 3 v1 rfl rfl) h1;clear hA0 hval0 aQT;refine (RB a0 a1 W (bounds_i64 w0).1 (bounds_i64 w0).2 (bounds_i64 w1).1 (bounds_i64 w1).2).mono fun e W' ⟨he, bel⟩ => ?_
 subst he;exact ⟨_, rfl, _, _, _, [], _, [], hW', trodAll_mk1 (shut_bool Try.underlying4 _), (trodAll_cons_mk (shut_int Try.underlying3 w0) (trodAll_cons_mk (shut_int Try.underlying3 w1) trodAll_mk0)), rfl, bel.frame _, fun h => by cases h⟩
theorem over : Rows.buildMadeRow.holds Try.pinned (OpenSpec.ofChange Rows.buildMadeSpec) :=
 OpenClaim.holds_of_wide 7 Try.f7 rfl rfl rfl rfl rfl rfl rfl ⟨rfl, rfl, rfl, rfl, rfl⟩ rfl rfl rfl rfl rfl (by kernel_rfl) Try.func7 (by kernel_rfl)
  (of_decide_eq_true (by kernel_rfl)) (by unfold Func.isWrapper; first | (rw [if_pos (by decide +kernel)]; kernel_rfl) | (rw [if_neg (by decide +kernel)]; exact ⟨rfl, rfl⟩))
  (fun os started H enc _ => lifted os started H enc)
theorem proved : Rows.BuildMadeSaid := over
#print axioms proved
end Go.Proofs.Yteofcbkjhdadpaa.buildMade
