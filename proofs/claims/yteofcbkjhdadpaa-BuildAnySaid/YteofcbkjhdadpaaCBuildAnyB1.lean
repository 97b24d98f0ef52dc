/- The law BuildAny, proved: for every input the call returns true and each argument reads as before. -/
import Derived.WalkKit
import Derived.ProofKit
import Derived.OpenShut
import Derived.ChangeOld
import Derived.Below
import Derived.SizedLaws
import Derived.Test.YteofcbkjhdadpaaCBuildAnyx1
import Derived.Test.YteofcbkjhdadpaaCBuildAnyx2
import Derived.Test.YteofcbkjhdadpaaCBuildAnyx8
import Derived.Test.YteofcbkjhdadpaaCBuildAnyA3
import Derived.Test.YteofcbkjhdadpaaCBuildAnyA1
import Derived.Test.YteofcbkjhdadpaaCBuildAnyx3
import Derived.Test.YteofcbkjhdadpaaCBuildAnyx12
import Derived.Test.YteofcbkjhdadpaaCBuildAnyx9
import Derived.Test.YteofcbkjhdadpaaCBuildAnyA2
import Derived.Test.YteofcbkjhdadpaaCBuildAnyx11
import Derived.Test.YteofcbkjhdadpaaCBuildAnyx14
import Derived.Test.YteofcbkjhdadpaaCBuildAnyx15
import Derived.Test.YteofcbkjhdadpaaCBuildAnyx16
import Derived.Test.YteofcbkjhdadpaaRows
set_option maxRecDepth 100000
set_option linter.unusedSimpArgs false
set_option linter.unusedVariables false
namespace Go.Proofs.Yteofcbkjhdadpaa
open Go.RowKit Go.Proofs.aD.aT Go.Proofs.Yteofcbkjhdadpaa.Pr
theorem JJ (r c : Int) (l : List Int) : bU.f r c l = some (bC r c l.length) := by
 unfold bU.f bC
 by_cases h1 : r ≥ 0
 ·rw [if_pos h1]
  by_cases h2 : r ≤ 64
  ·rw [if_pos h2]
   by_cases h3 : c ≥ 0
   ·rw [if_pos h3]
    by_cases h4 : c ≤ 64
    ·rw [if_pos h4]
     have b := xQ h1 h2 h3 h4;rw [RF (by omega) (by omega)]
     congr 1
     rw [Bool.eq_iff_iff, beq_iff_eq, decide_eq_true_eq];exact ⟨fun h => ⟨⟨h1, h2⟩, ⟨h3, h4⟩, h⟩, fun h => h.2.2⟩
    ·rw [if_neg h4]; congr 1; exact (decide_eq_false (fun h => h4 h.2.1.2)).symm
   ·rw [if_neg h3]; congr 1; exact (decide_eq_false (fun h => h3 h.2.1.1)).symm
  ·rw [if_neg h2]; congr 1; exact (decide_eq_false (fun h => h2 h.1.2)).symm
 ·rw [if_neg h1]; congr 1; exact (decide_eq_false (fun h => h1 h.1.1)).symm
theorem a18 {r : Int} {c i j : Nat} {xs : List UInt8} (h : i * c + j < xs.length) (hb : i * c + j ≤ 9223372036854775807) : cT.f r (c : Int) (nI xs) (i : Int) (j : Int) = some ((xs.getD (i * c + j) 0).toNat : Int) := by
 unfold cT.f;rw [yW hb, if_pos (by omega), if_pos (by rw [bY]; omega), ZA]
theorem W0 {r c : Nat} (h : r * c ≤ 281474976710656) : dN.f (r : Int) (c : Int) = some ((r : Int), (c : Int), nI (List.replicate (r * c) 0)) := by
 unfold dN.f;rw [GB (by omega), if_pos (by omega), Int.toNat_natCast, if_pos h, SS]
section
variable {ra ca cb : Nat} {xs ys : List UInt8}
end
end Go.Proofs.Yteofcbkjhdadpaa
namespace Go.Proofs.Yteofcbkjhdadpaa
open Go.RowKit Go.Proofs.aD.aT Go.Proofs.Yteofcbkjhdadpaa.Pr
theorem mR {n c l : Nat} (hn : n ≤ 64) (hc : c ≤ 64) (h : l = n * c) : bC (n : Int) (c : Int) l = true := by
 unfold bC;rw [decide_eq_true_eq];refine ⟨⟨by omega, by omega⟩, ⟨by omega, by omega⟩, ?_⟩;rw [h, Int.natCast_mul]
section
variable {n c : Nat} (hn : n ≤ 64) (hc : c ≤ 65)
include hn hc
theorem VD {i j : Nat} (hi : i < n) (hj : j < c) : i * c + j < n * c ∧ i * c + j ≤ 9223372036854775807 ∧ n * c ≤ 4160 := by
 have h1 := jI hi hj;have h2 : n * c ≤ 64 * 65 := Nat.mul_le_mul hn hc;omega
theorem VE {L : List (List UInt8)} (h : eG n c L) {i j : Nat} (hi : i < n) (hj : j < c) : cT.f (n : Int) (c : Int) (nI L.flatten) (i : Int) (j : Int) = some ((fH L i j).toNat : Int) := by
 obtain ⟨h1, h2, _⟩ := VD hn hc hi hj;rw [a18 (by rw [nH h]; exact h1) h2, n8 h hi hj]
end
theorem SB {n c i : Nat} {L : List (List UInt8)} (h : eG n c L) (hn : n ≤ 64) (hc : c ≤ 64) (hi : i < n) : Ev (fun k => b9.f k (n : Int) (c : Int) (nI L.flatten) (i : Int)) (nI (L.getD i []), (0 : Int)) := by
 have hw := h.wid i hi;unfold b9.f;rw [JJ, bY, nH h, mR hn hc rfl];simp only [Option.bind_some, if_true, if_neg (show ¬ (i : Int) < 0 by omega), decide_eq_false (show ¬ (i : Int) ≥ (n : Int) by omega)];have hloop : ∀ d q, q + d = c → Ev (fun k => b9.l0 k (i : Int) (nI ((L.getD i []).take q)) (q : Int) (n : Int) (c : Int) (nI L.flatten)) (nI (L.getD i []), (0 : Int)) := by
  intro d
  induction d with
  | zero =>
   intro q hq;obtain rfl : q = c := by omega
   refine Ev.step (f := fun _ => some (nI (L.getD i []), (0 : Int))) (fun k => ?_) (Ev.now _);rw [b9.l0, if_neg (by omega), List.take_of_length_le (by omega)]
  | succ d ih =>
   intro q hq;have e1 : (L.getD i []).take (q + 1) = (L.getD i []).take q ++ [fH L i q] := by
    rw [List.take_succ_eq_append_getElem (by omega)];unfold fH;rw [List.getD_eq_getElem?_getD (l := L.getD i []), List.getElem?_eq_getElem (by omega)];rfl
   refine Ev.step (fun k => ?_) (ih (q + 1) (by omega));rw [b9.l0, if_pos (by omega), VE hn (by omega) h hi (by omega), Option.bind_some, if_pos (by rw [bY, List.length_take]; omega), NI, ← e1, kW (by omega)]
 refine Ev.step (fun k => ?_) (hloop c 0 (by omega));rw [b9.j0, if_neg (by simp)];rfl
theorem ES {n c : Nat} {L : List (List UInt8)} (h : eG n c L) {i : Nat} (hi : i ≤ n) : (L.take i).flatten.length = i * c := by
 refine nH (n := i) ⟨by rw [List.length_take, h.len]; omega, fun k hk => ?_⟩;rw [List.getD_eq_getElem?_getD, List.getElem?_take_of_lt hk, ← List.getD_eq_getElem?_getD];exact h.wid k (by omega)
end Go.Proofs.Yteofcbkjhdadpaa
namespace Go.Proofs.Yteofcbkjhdadpaa
open Go.RowKit Go.Proofs.aD.aT Go.Proofs.Yteofcbkjhdadpaa.Pr
def VO (a0 a1 : Int) (xs : List UInt8) : Int × Int × List Int × Int :=
 if nY a0 a1 xs.length = true then (if (OS a1.toNat xs).2.2.length < a1.toNat then (0, 0, [], 6) else (a0, a1, nI (CL a0.toNat a1.toNat a1.toNat xs (OS a1.toNat xs).2.1.flatten), 0)) else (0, 0, [], 3)
theorem a2T (a0 a1 : Int) (xs : List UInt8) : dB.f a0 a1 (nI xs) = some (VO a0 a1 xs) := by
 unfold dB.f VO;rw [zL, if_pos rfl, bY, pZ]
 split
 ·split <;> rfl
 ·rfl
/-! Vandermonde -/
def KX (i j : Nat) : UInt8 := Gf.npow (UInt8.ofNat i) j
def vY (r c : Nat) : List UInt8 := jJ r c KX
def oQ (a0 a1 : Int) : Bool := decide ((0 ≤ a0 ∧ a0 ≤ 64) ∧ (0 ≤ a1 ∧ a1 ≤ 64))
def RI (a0 a1 : Int) : Int × Int × List Int × Int := if oQ a0 a1 = true then (a0, a1, nI (vY a0.toNat a1.toNat), 0) else (0, 0, [], 2)
theorem zA {a0 a1 : Int} (h : oQ a0 a1 = true) : ∃ a b : Nat, a0 = a ∧ a1 = b ∧ a ≤ 64 ∧ b ≤ 64 := by
 have h := of_decide_eq_true h;exact ⟨a0.toNat, a1.toNat, by omega, by omega, by omega, by omega⟩
theorem KA (n : Nat) : ((n : Int) % 256) = ((UInt8.ofNat n).toNat : Int) := by
 rw [UInt8.toNat_ofNat'];omega
theorem a01 (a b : UInt8) : kP.f (a.toNat : Int) (b.toNat : Int) = some ((Gf.mul a b).toNat : Int) := by
 unfold kP.f;rw [zU, zU, GJ, GJ];rfl
theorem TT (n : Int) : dU.f n = some (decide (0 ≤ n ∧ n ≤ 64)) := by
 unfold dU.f
 by_cases h1 : n ≥ 0
 ·rw [if_pos h1]
  congr 1
  rw [Bool.eq_iff_iff, decide_eq_true_eq, decide_eq_true_eq];omega
 ·rw [if_neg h1, decide_eq_false (by omega)]
theorem a00 (a0 a1 : Int) : j8.f a0 a1 = some (if oQ a0 a1 = true then (a0, a1, nI (List.replicate (a0.toNat * a1.toNat) 0), 0) else (0, 0, [], 2)) := by
 unfold j8.f;rw [TT, TT, Option.bind_some, Option.bind_some]
 by_cases h1 : 0 ≤ a0 ∧ a0 ≤ 64
 ·rw [if_pos (decide_eq_true h1)]
  by_cases h2 : 0 ≤ a1 ∧ a1 ≤ 64
  ·rw [if_pos (decide_eq_true h2)]
   have hs : oQ a0 a1 = true := decide_eq_true ⟨h1, h2⟩;rw [if_pos hs];obtain ⟨a, b, rfl, rfl, ha, hb⟩ := zA hs;have hab : a * b ≤ 64 * 64 := Nat.mul_le_mul ha hb;unfold fT.f;rw [GB (by omega), if_pos (by omega), Int.toNat_natCast, if_pos (by omega), Option.bind_some, SS, Int.toNat_natCast, Int.toNat_natCast]
  ·rw [if_neg (by simpa using h2), if_neg (by unfold oQ; simp; omega)]
 ·rw [if_neg (by simpa using h1), if_neg (by unfold oQ; simp; omega)]
theorem a2S (a0 a1 : Int) : Ev (fun k => aY.f k a0 a1) (RI a0 a1) := by
 unfold aY.f;simp only [a00, Option.bind_some]
 by_cases hs : oQ a0 a1 = true
 ·simp only [if_pos hs, if_true]
  unfold RI;rw [if_pos hs];obtain ⟨a, b, rfl, rfl, ha, hb⟩ := zA hs;have hab : a * b ≤ 64 * 64 := Nat.mul_le_mul ha hb;rw [Int.toNat_natCast, Int.toNat_natCast, AR a b KX];have hl1 : ∀ i, i < a → Ev (fun k => aY.l0 k (b : Int) (a : Int) ((i + 1 : Nat) : Int) (a : Int) (b : Int) (nI (pN a b KX (i + 1) 0))) ((a : Int), (b : Int), nI (vY a b), (0 : Int)) →
    ∀ d j, j + d = b → Ev (fun k => aY.l1 k (b : Int) (i : Int) ((KX i j).toNat : Int) (a : Int) (i : Int) (b : Int) (j : Int) (a : Int) (b : Int) (nI (pN a b KX i j))) ((a : Int), (b : Int), nI (vY a b), (0 : Int)) := by
   intro i hi hr d
   induction d with
   | zero =>
    intro j hj;obtain rfl : j = b := by omega
    refine Ev.step (fun k => ?_) hr;rw [aY.l1, if_neg (by omega), kW (by omega), DG]
   | succ d ih =>
    intro j hj;have hlt := jI hi (show j < b by omega);refine Ev.step (fun k => ?_) (ih (j + 1) (by omega));rw [aY.l1, if_pos (by omega), yW (by omega), if_pos (by omega), if_pos (by rw [bY, yA]; omega), KA, a01, Option.bind_some, Int.toNat_natCast, SR, kW (by omega), FN KX hi (show j < b by omega)];rfl
  have hl0 : ∀ d i, i + d = a → Ev (fun k => aY.l0 k (b : Int) (a : Int) (i : Int) (a : Int) (b : Int) (nI (pN a b KX i 0))) ((a : Int), (b : Int), nI (vY a b), (0 : Int)) := by
   intro d
   induction d with
   | zero =>
    intro i hi;obtain rfl : i = a := by omega
    refine Ev.step (f := fun _ => some ((i : Int), (b : Int), nI (vY i b), (0 : Int))) (fun k => ?_) (Ev.now _);rw [aY.l0, if_neg (by omega), FO];rfl
   | succ d ih =>
    intro i hi;have h1 := hl1 i (by omega) (ih (i + 1) (by omega)) b 0 (by omega);refine Ev.step (fun k => ?_) h1;rw [aY.l0, if_pos (by omega)];rfl
  exact hl0 a 0 (by omega)
 ·unfold RI
  simp only [if_neg hs];exact Ev.now _
/-! Reed -/
def CN (a0 a1 : Int) : Bool := decide (1 ≤ a0 ∧ 0 ≤ a1 ∧ a0 + a1 ≤ 64)
theorem ZS (a0 a1 : Int) : fQ.f a0 a1 = some (CN a0 a1) := by
 unfold fQ.f CN
 by_cases h1 : a0 ≥ 1
 ·rw [if_pos h1]
  by_cases h2 : a0 ≤ 64
  ·rw [if_pos h2]
   by_cases h3 : a1 ≥ 0
   ·rw [if_pos h3, RF (by omega) (by omega)]
    congr 1
    rw [Bool.eq_iff_iff, decide_eq_true_eq, decide_eq_true_eq];omega
   ·rw [if_neg h3, decide_eq_false (by omega)]
  ·rw [if_neg h2]
   congr 1
   exact (decide_eq_false (by omega)).symm
 ·rw [if_neg h1, decide_eq_false (by omega)]
def CC (a0 a1 : Int) : Int × Int × List Int × Int := if CN a0 a1 = true then VO (a0 + a1) a0 (vY (a0 + a1).toNat a0.toNat) else (0, 0, [], 2)
theorem S0 {a0 a1 : Int} (h : CN a0 a1 = true) : wrap64 (a0 + a1) = a0 + a1 ∧ RI (a0 + a1) a0 = (a0 + a1, a0, nI (vY (a0 + a1).toNat a0.toNat), 0) := by
 have h := of_decide_eq_true h;refine ⟨RF (by omega) (by omega), ?_⟩;unfold RI;rw [if_pos (show oQ (a0 + a1) a0 = true from decide_eq_true (by omega))]
theorem TU (a0 a1 : Int) : Ev (fun k => hY.f k a0 a1) (CC a0 a1) := by
 unfold hY.f CC;simp only [ZS, Option.bind_some]
 by_cases h : CN a0 a1 = true
 ·obtain ⟨e1, e2⟩ := S0 h
  have hv := a2S (a0 + a1) a0;rw [e2] at hv;simp only [if_pos h, e1];refine Ev.bind hv ?_;simp only [if_true, a2T, Option.bind_some];exact Ev.now _
 ·simp only [if_neg h]
  exact Ev.now _
end Go.Proofs.Yteofcbkjhdadpaa
namespace Go.Proofs.Yteofcbkjhdadpaa
open Go.RowKit Go.Proofs.aD.aT Go.Proofs.Yteofcbkjhdadpaa.Pr
def NB (n c : Nat) (xs : List UInt8) : Nat := (P6 n c xs).2.2.length
theorem ND {n c : Nat} {xs : List UInt8} (hn : n ≤ 64) (hc : c ≤ 64) (hx : xs.length = n * c) : bQ.f (n : Int) (c : Int) (nI xs) = some ((NB n c xs : Int), 0) := by
 unfold bQ.f eM.f;rw [zL, if_pos rfl, bY, mR hn hc hx, if_pos rfl, pZ, Option.bind_some, lI, Int.toNat_natCast, Int.toNat_natCast];rfl
theorem a0I {n c : Nat} {xs : List UInt8} (hx : xs.length = n * c) : ∃ L' A', pB n c 0 0 (fH (fY xs n c)) (fH (List.replicate n [])) [] L' A' (P6 n c xs).2.2 :=
 ⟨_, _, ((oH n c (fY xs n c) (List.replicate n [])).toF (jQ hx) (F6 n)).1⟩
theorem NA {n c : Nat} {xs : List UInt8} (hx : xs.length = n * c) {i j : Nat} (hi : i < n) (hj : j < c) : fH (fY xs n c) i j = xs.getD (i * c + j) 0 := by
 rw [← n8 (jQ hx) hi hj, tR hx]
theorem F8 {n c : Nat} {xs : List UInt8} (hx : xs.length = n * c) (h : ∀ z : Nat → UInt8, (∀ i, i < n → mP (fun j => Gf.mul (xs.getD (i * c + j) 0) (z j)) c = 0) → ∀ j, j < c → z j = 0) : NB n c xs = c := by
 obtain ⟨L', A', hF⟩ := a0I hx;refine hF.F9.2 fun z hz => h z fun i hi => ?_
 exact (dM fun j hj => by rw [NA hx hi hj]).trans (hz i hi)
theorem LC : CC 2 1 = (3, 2, [1, 0, 0, 1, 3, 2], 0) := by decide +kernel
theorem NF : Ev (fun k => bB.f k) true := by
 unfold bB.f;have h := TU 2 1;rw [LC] at h;refine Ev.bind h ?_;simp only [if_true];unfold aQ.f;simp only [if_true];unfold fP.f;simp only [beq_self_eq_true, Option.bind_some];exact Ev.now _
end Go.Proofs.Yteofcbkjhdadpaa
namespace Go.Proofs.Yteofcbkjhdadpaa
open Go.RowKit Go.Proofs.aD.aT Go.Proofs.Yteofcbkjhdadpaa.Pr
def gZ (o n : Nat) : List UInt8 := (List.range n).map fun i => UInt8.ofNat (o + i)
theorem eV (o n : Nat) : (gZ o n).length = n := by simp [gZ]
theorem xL {o n i : Nat} (h : i < n) : (gZ o n).getD i 0 = UInt8.ofNat (o + i) := by
 unfold gZ;rw [List.getD_eq_getElem?_getD, List.getElem?_map, List.getElem?_range h];rfl
theorem OW (o n : Nat) : nI (gZ o n) ++ [((o + n : Nat) : Int) % 256] = nI (gZ o (n + 1)) := by
 rw [KA, NI];unfold gZ;rw [List.range_succ, List.map_append];rfl
theorem VS {o n : Nat} (h : o + n ≤ 64) : EU (gZ o n ++ gZ 0 o) = false := by
 have hl : (gZ o n ++ gZ 0 o).length = n + o := by rw [List.length_append, eV, eV]
 have hg : ∀ i, i < n + o → ((gZ o n ++ gZ 0 o).getD i 0).toNat = if i < n then o + i else i - n := by
  intro i hi
  by_cases h1 : i < n
  ·rw [if_pos h1, List.getD_eq_getElem?_getD, List.getElem?_append_left (by rw [eV]; exact h1), ← List.getD_eq_getElem?_getD, xL h1, UInt8.toNat_ofNat']
   omega
  ·rw [if_neg h1, List.getD_eq_getElem?_getD, List.getElem?_append_right (by rw [eV]; omega), ← List.getD_eq_getElem?_getD, eV, xL (by omega), UInt8.toNat_ofNat']
   omega
 have hd : ∀ i, i ≤ n + o → qP (gZ o n ++ gZ 0 o) i = false := by
  intro i
  induction i with
  | zero => intro _; rfl
  | succ i ih =>
   intro hi;rw [qP, ih (by omega), Bool.false_or, decide_eq_false_iff_not];intro hm;obtain ⟨k, hk, _, e⟩ := H4 hm;have e2 := congrArg UInt8.toNat e;rw [hg i (by omega), hg k (by omega)] at e2
   split at e2 <;> split at e2 <;> omega
 unfold EU;rw [hl];exact hd _ (Nat.le_refl _)
theorem a7C (n : Nat) (h : n ≤ 64) : dA.f (n : Int) = some ((n : Int), (n : Int), nI (mT n n), 0) := by
 unfold dA.f;rw [if_pos (by simp [CP, gU]; omega), Int.toNat_natCast]
theorem VP (a0 a1 : Int) (xs : List UInt8) (b0 b1 : Int) (ys : List UInt8) : dQ.f a0 a1 (nI xs) b0 b1 (nI ys) = some (if rJ a0 a1 xs.length b0 b1 ys.length = 0 then (a0 + b0, a1, nI xs ++ nI ys, 0) else (0, 0, [], rJ a0 a1 xs.length b0 b1 ys.length)) := by
 unfold dQ.f;rw [zL, zL, bY, bY];simp only [Bool.and_self, if_true]
 split <;> rfl
def qC (a b : Nat) : List UInt8 := mT a a ++ yF (gZ a b) (gZ 0 a)
def zR (a0 a1 : Int) : Int × Int × List Int × Int := if CN a0 a1 = true then (a0 + a1, a0, nI (qC a0.toNat a1.toNat), 0) else (0, 0, [], 2)
theorem Q9 {a b : Nat} (h : a + b ≤ 64) : nW (gZ a b) (gZ 0 a) = 0 := by
 unfold nW;rw [eV, eV, if_neg (by omega), VS h];rfl
theorem K4 {a b : Nat} (h : a + b ≤ 64) : rJ (a : Int) (a : Int) (mT a a).length (b : Int) (a : Int) (yF (gZ a b) (gZ 0 a)).length = 0 := by
 unfold rJ;rw [lQ, mR (by omega) (by omega) rfl, show (yF (gZ a b) (gZ 0 a)).length = b * a by unfold yF; rw [eO, eV, eV], mR (by omega) (by omega) rfl]
 simp
 omega
theorem WL {a0 a1 : Int} (h : CN a0 a1 = true) : ∃ a b : Nat, a0 = a ∧ a1 = b ∧ 1 ≤ a ∧ a + b ≤ 64 := by
 have h := of_decide_eq_true h;exact ⟨a0.toNat, a1.toNat, by omega, by omega, by omega, by omega⟩
theorem a1g {a b : Nat} (h : a + b ≤ 64) : (a1i (gZ a b) (gZ 0 a), a1j (gZ a b) (gZ 0 a), nI (a1k (gZ a b) (gZ 0 a)), nW (gZ a b) (gZ 0 a)) = ((b : Int), (a : Int), nI (yF (gZ a b) (gZ 0 a)), (0 : Int)) := by
 unfold a1i a1j a1k;rw [Q9 h, if_pos rfl, if_pos rfl, if_pos rfl, eV, eV]
theorem ZR (o n : Nat) (h : o + n ≤ 64) : Ev (fun k => cI.f k (o : Int) (n : Int)) (nI (gZ o n)) := by
 unfold cI.f;have hl : ∀ d i, i + d = n → Ev (fun k => cI.l0 k (o : Int) (nI (gZ o i)) (n : Int) (i : Int)) (nI (gZ o n)) := by
  intro d
  induction d with
  | zero =>
   intro i hi;obtain rfl : i = n := by omega
   refine Ev.step (f := fun _ => some (nI (gZ o i))) (fun k => ?_) (Ev.now _);rw [cI.l0, if_neg (by omega)]
  | succ d ih =>
   intro i hi;refine Ev.step (fun k => ?_) (ih (i + 1) (by omega));rw [cI.l0, if_pos (by omega), if_pos (by rw [bY, eV]; omega), GC (by omega), OW, kW (by omega)]
 exact hl n 0 (by omega)
theorem YJ (a0 a1 : Int) : Ev (fun k => jA.f k a0 a1) (zR a0 a1) := by
 unfold jA.f zR;simp only [ZS, Option.bind_some]
 by_cases h : CN a0 a1 = true
 ·obtain ⟨a, b, rfl, rfl, ha, hab⟩ := WL h
  simp only [if_pos h, a7C a (by omega), Option.bind_some, if_true];have h1 := ZR a b hab;have h2 := ZR 0 a (by omega);refine Ev.bind h1 (Ev.bind h2 ?_);simp only [TV (gZ a b) (gZ 0 a) (by rw [eV]; omega) (by rw [eV]; omega), a1g hab, Option.bind_some, if_true, VP, K4 hab, SU];exact Ev.now _
 ·simp only [if_neg h]
  exact Ev.now _
end Go.Proofs.Yteofcbkjhdadpaa
namespace Go.Proofs.Yteofcbkjhdadpaa
open Go.RowKit Go.Proofs.aD.aT Go.Proofs.Yteofcbkjhdadpaa.Pr
theorem SD (a0 a1 : Int) : fO.f a0 a1 = some (if oQ a0 a1 = true then (a0, a1, nI (List.replicate (a0.toNat * a1.toNat) 0), 0) else (0, 0, [], 2)) := by
 unfold fO.f
 by_cases hs : oQ a0 a1 = true
 ·rw [if_pos hs]
  obtain ⟨a, b, rfl, rfl, ha, hb⟩ := zA hs;have hab : a * b ≤ 64 * 64 := Nat.mul_le_mul ha hb;rw [if_neg (by omega), if_neg (by omega), if_neg (by omega), if_neg (by omega), W0 (by omega), Option.bind_some, Int.toNat_natCast, Int.toNat_natCast]
 ·rw [if_neg hs]
  have hs' : ¬ ((0 ≤ a0 ∧ a0 ≤ 64) ∧ (0 ≤ a1 ∧ a1 ≤ 64)) := fun h => hs (decide_eq_true h)
  split
  ·rfl
  ·split
   ·rfl
   ·split
    ·rfl
    ·split
     ·rfl
     ·omega
theorem SE (n : Nat) (h : n ≤ 64) : Ev (fun k => aV.f k (n : Int)) ((n : Int), (n : Int), nI (mT n n), 0) := by
 have hnn : n * n ≤ 64 * 64 := Nat.mul_le_mul h h;unfold aV.f;have hs : oQ (n : Int) (n : Int) = true := decide_eq_true (by omega);simp only [SD, if_pos hs, Option.bind_some, Int.toNat_natCast];have hl : ∀ d i, i + d = n → Ev (fun k => aV.l0 k (n : Int) 0 (i : Int) (n : Int) (n : Int) (nI (mT n i))) ((n : Int), (n : Int), nI (mT n n), 0) := by
  intro d
  induction d with
  | zero =>
   intro i hi;obtain rfl : i = n := by omega
   refine Ev.step (f := fun _ => some ((i : Int), (i : Int), nI (mT i i), (0 : Int))) (fun k => ?_) (Ev.now _);rw [aV.l0, if_neg (by omega)]
  | succ d ih =>
   intro i hi;have hlt := jI (show i < n by omega) (show i < n by omega);refine Ev.step (fun k => ?_) (ih (i + 1) (by omega));have e : nI (mT n (i + 1)) = (nI (mT n i)).set (i * n + i) 1 := (SR (mT n i) (i * n + i) 1).symm;rw [aV.l0, if_pos (by omega), if_pos rfl, yW (by omega), if_pos (by omega), if_pos (by rw [bY, lQ]; omega), Int.toNat_natCast, kW (by omega), e]
 exact hl n 0 (by omega)
end Go.Proofs.Yteofcbkjhdadpaa
namespace Go.Proofs.Yteofcbkjhdadpaa
open Go.RowKit Go.Proofs.aD.aT Go.Proofs.Yteofcbkjhdadpaa.Pr
/-! the document's Pick -/
def kX (L : List (List UInt8)) (zs : List Nat) : List (List UInt8) := zs.map fun z => L.getD z []
theorem zJ (L : List (List UInt8)) (zs : List Nat) {i : Nat} (hi : i < zs.length) : (kX L zs).getD i [] = L.getD (zs.getD i 0) [] := by
 unfold kX;rw [List.getD_eq_getElem?_getD, List.getElem?_map, List.getElem?_eq_getElem hi, List.getD_eq_getElem?_getD (l := zs), List.getElem?_eq_getElem hi];rfl
theorem wE {n c : Nat} {L : List (List UInt8)} (hL : eG n c L) {zs : List Nat} (hz : ∀ i, i < zs.length → zs.getD i 0 < n) : eG zs.length c (kX L zs) :=
 ⟨by simp [kX], fun i hi => by rw [zJ L zs hi]; exact hL.wid _ (hz i hi)⟩
theorem NH {zs : List Nat} {i : Nat} (hi : i < zs.length) : rd (nZ zs) (i : Int) = ((zs.getD i 0 : Nat) : Int) := by
 unfold rd nZ;rw [Int.toNat_natCast, List.getD_eq_getElem?_getD, List.getElem?_map, List.getElem?_eq_getElem hi, List.getD_eq_getElem?_getD, List.getElem?_eq_getElem hi];rfl
theorem SC {n c : Nat} {L : List (List UInt8)} (hL : eG n c L) (hn : n ≤ 64) (hc : c ≤ 64) {zs : List Nat} (hl : zs.length ≤ 64) (hz : ∀ i, i < zs.length → zs.getD i 0 < n) :
  Ev (fun k => aH.f k (n : Int) (c : Int) (nI L.flatten) (nZ zs)) ((zs.length : Int), (c : Int), nI (kX L zs).flatten, (0 : Int)) := by
 have hP := wE hL hz;have hsz : zs.length * c ≤ 64 * 64 := Nat.mul_le_mul hl hc;unfold aH.f;rw [JJ, bY, nH hL, mR hn hc rfl];simp only [Option.bind_some, if_true];have hl1 : ∀ d i, i + d = zs.length → Ev (fun k => aH.l1 k (nZ zs) (i : Int) (n : Int) (c : Int) (nI L.flatten) (zs.length : Int) (c : Int) (nI ((kX L zs).take i).flatten)) ((zs.length : Int), (c : Int), nI (kX L zs).flatten, (0 : Int)) := by
  intro d
  induction d with
  | zero =>
   intro i hi;refine Ev.step (f := fun _ => some ((zs.length : Int), (c : Int), nI (kX L zs).flatten, (0 : Int))) (fun k => ?_) (Ev.now _);rw [aH.l1, if_neg (by rw [lI]; omega), List.take_of_length_le (by rw [hP.len]; omega)]
  | succ d ih =>
   intro i hi;have hil : i < zs.length := by omega
   have hrow := SB hL hn hc (hz i hil);have hw := hL.wid _ (hz i hil);have hfl := ES hP (show i ≤ zs.length by omega);have hb : i * c ≤ 64 * 64 := Nat.mul_le_mul (by omega) hc;have hadd : ((kX L zs).take (i + 1)).flatten = ((kX L zs).take i).flatten ++ L.getD (zs.getD i 0) [] := by
    rw [List.take_succ_eq_append_getElem (by rw [hP.len]; exact hil), List.flatten_append, List.flatten_singleton, ← zJ L zs hil]
    congr 1
    rw [List.getD_eq_getElem?_getD, List.getElem?_eq_getElem (by rw [hP.len]; exact hil)];rfl
   refine Ev.step (f := fun k => (b9.f k (n : Int) (c : Int) (nI L.flatten) ((zs.getD i 0 : Nat) : Int)).bind fun KB => (if (nI ((kX L zs).take i).flatten).length + KB.1.length < 140737488355328 then (aH.l1 k (nZ zs) (wrap64 ((i : Int) + 1)) (n : Int) (c : Int) (nI L.flatten) (zs.length : Int) (c : Int) (nI ((kX L zs).take i).flatten ++ KB.1)) else (none))) (fun k => ?_) (Ev.bind hrow ?_)
   ·rw [aH.l1, if_pos (by rw [lI]; omega), if_pos (by omega), NH hil]
   ·have c1 : (nI ((kX L zs).take i).flatten).length + (nI (L.getD (zs.getD i 0) [])).length < 140737488355328 := by rw [bY, bY]; omega
    simp only [if_pos c1, SU, kW (show i ≤ 9223372036854775806 by omega), ← hadd];exact ih (i + 1) (by omega)
 have hl0 : ∀ d i, i + d = zs.length → Ev (fun k => aH.l0 k (nZ zs) (i : Int) (n : Int) (c : Int) (nI L.flatten)) ((zs.length : Int), (c : Int), nI (kX L zs).flatten, (0 : Int)) := by
  intro d
  induction d with
  | zero =>
   intro i hi;refine Ev.step (fun k => ?_) (hl1 zs.length 0 (by omega));rw [aH.l0, if_neg (by rw [lI]; omega), if_neg (by rw [lI]; omega), lI];rfl
  | succ d ih =>
   intro i hi;have hil : i < zs.length := by omega
   have := hz i hil;refine Ev.step (fun k => ?_) (ih (i + 1) (by omega));rw [aH.l0, if_pos (by rw [lI]; omega), if_pos (by omega), NH hil, if_neg (by omega), if_neg (by omega), kW (by omega)]
 exact hl0 zs.length 0 (by omega)
theorem LJ {n c : Nat} {xs : List UInt8} (hx : xs.length = n * c) {zs : List Nat} (hz : ∀ i, i < zs.length → zs.getD i 0 < n) {i j : Nat} (hi : i < zs.length) (hj : j < c) : (kX (fY xs n c) zs).flatten.getD (i * c + j) 0 = xs.getD (zs.getD i 0 * c + j) 0 := by
 have hL := jQ hx;rw [n8 (wE hL hz) hi hj, ← NA hx (hz i hi) hj];unfold fH;rw [zJ _ _ hi]
/-! the rows that are chosen -/
structure AV (n : Nat) (zs : List Nat) : Prop where
 len : zs.length = n
 lt : ∀ i, i < n → zs.getD i 0 < n
 ne : ∀ i i', i < n → i' < n → i ≠ i' → zs.getD i 0 ≠ zs.getD i' 0
theorem N9 {zs : List Nat} {i j : Nat} {v : Nat} (hi : i < zs.length) : (zs.set i v).getD j 0 = if j = i then v else zs.getD j 0 := by
 rw [List.getD_eq_getElem?_getD, List.getElem?_set]
 by_cases e : i = j
 ·rw [if_pos e, if_pos hi, if_pos e.symm]
  rfl
 ·rw [if_neg e, if_neg (fun h => e h.symm), List.getD_eq_getElem?_getD]
theorem AV.swap {n : Nat} {zs : List Nat} (h : AV n zs) {a b : Nat} (ha : a < n) (hb : b < n) : AV n ((zs.set a (zs.getD b 0)).set b (zs.getD a 0)) := by
 have g : ∀ j, ((zs.set a (zs.getD b 0)).set b (zs.getD a 0)).getD j 0 = zs.getD (if j = b then a else if j = a then b else j) 0 := by
  intro j;rw [N9 (by rw [List.length_set, h.len]; exact hb), N9 (by rw [h.len]; exact ha)]
  split
  ·rfl
  ·split <;> rfl
 refine ⟨by simp [h.len], fun i hi => by rw [g]; exact h.lt _ (by split <;> (try split) <;> omega), fun i i' hi hi' hne => ?_⟩;rw [g, g];refine h.ne _ _ (by split <;> (try split) <;> omega) (by split <;> (try split) <;> omega) ?_
 split <;> split <;> (try split) <;> (try split) <;> omega
theorem LL (n : Nat) : AV n (List.range n) :=
 ⟨List.length_range, fun i hi => by rw [List.getD_eq_getElem?_getD, List.getElem?_range hi]; exact hi, fun i i' hi hi' hne => by
  rw [List.getD_eq_getElem?_getD, List.getElem?_range hi, List.getD_eq_getElem?_getD, List.getElem?_range hi']; exact hne⟩
theorem LU (zs : List Nat) (i v : Nat) : (nZ zs).set i (v : Int) = nZ (zs.set i v) := by simp [nZ, List.map_set]
theorem WB (zs : List Nat) (n : Nat) : (nZ zs).take n = nZ (zs.take n) := by simp [nZ, List.map_take]
def OK (n i : Nat) : List Nat := (List.range n).map fun k => if k < i then k else 0
theorem N3 (n i : Nat) : (OK n i).length = n := by simp [OK]
theorem VH {n i : Nat} (hi : i < n) : (OK n i).set i i = OK n (i + 1) := by
 refine List.ext_getElem (by simp [OK]) fun k h1 h2 => ?_
 simp only [OK, List.getElem_set, List.getElem_map, List.getElem_range]
 by_cases e : i = k
 ·rw [if_pos e, if_pos (by omega), e]
 ·rw [if_neg e]
  by_cases h3 : k < i
  ·rw [if_pos h3, if_pos (by omega)]
  ·rw [if_neg h3, if_neg (by omega)]
theorem RJ (n : Nat) : List.replicate n (0 : Int) = nZ (OK n 0) := by
 refine List.ext_getElem (by simp [OK, nZ]) fun k h1 h2 => ?_
 simp [OK, nZ]
theorem VI (n : Nat) : OK n n = List.range n := by
 refine List.ext_getElem (by simp [OK]) fun k h1 h2 => ?_
 rw [List.length_range] at h2
 simp [OK, h2]
theorem FA (a b : Nat) (turns : List UInt8) (hab : a + b ≤ 64) (hpos : 1 ≤ a) (ht : turns.length ≤ 140737488355328) : ∃ zs, AV (a + b) zs ∧ Ev (fun k => aI.f k (a : Int) (b : Int) (nI turns)) (nZ (zs.take a)) ∧ (turns = [] → zs = List.range (a + b)) := by
 have hl1 : ∀ d i zs, i + d = turns.length + 2 → AV (a + b) zs → ∃ zs', AV (a + b) zs' ∧ Ev (fun k => aI.l1 k (a : Int) (nI turns) (nZ zs) (i : Int)) (nZ (zs'.take a)) ∧ (turns = [] → zs' = zs) := by
  intro d
  induction d using Nat.strongRecOn with
  | ind d ih =>
   intro i zs hi hp
   by_cases h : i + 1 < turns.length
   ·obtain ⟨zs', h1, h2, h3⟩ := ih (d - 2) (by omega) (i + 2) _ (by omega) (hp.swap (a := (turns.getD i 0).toNat % (a + b)) (b := (turns.getD (i + 1) 0).toNat % (a + b)) (Nat.mod_lt _ (by omega)) (Nat.mod_lt _ (by omega)))
    refine ⟨zs', h1, Ev.step (fun k => ?_) h2, fun e => by rw [e] at h; simp at h⟩;have e1 : ∀ j, j < turns.length → Int.tmod (wrap64 (rd (nI turns) (j : Int))) ((nZ zs).length : Int) = (((turns.getD j 0).toNat % (a + b) : Nat) : Int) := by
     intro j hj;have := (turns.getD j 0).toNat_lt;rw [ZA, VF (by omega), lI, hp.len, Int.tmod_eq_emod_of_nonneg (by omega), Int.natCast_emod]
    have m1 := Nat.mod_lt (turns.getD i 0).toNat (show a + b > 0 by omega);have m2 := Nat.mod_lt (turns.getD (i + 1) 0).toNat (show a + b > 0 by omega);have e2 : wrap64 ((i : Int) + 2) = ((i + 2 : Nat) : Int) := by rw [RF (by omega) (by omega)]; rfl
    rw [aI.l1, kW (by omega), if_pos (by rw [bY]; omega), if_pos (by omega), if_pos (by rw [bY]; omega), if_neg (by rw [lI, hp.len]; omega), if_pos (by omega), e1 i (by omega), e1 (i + 1) h, if_pos (by omega), if_pos (by rw [lI, hp.len]; omega), if_pos (by omega), if_pos (by rw [lI, hp.len]; omega), Int.toNat_natCast, Int.toNat_natCast, NH (by rw [hp.len]; exact m2), NH (by rw [hp.len]; exact m1), LU, LU, e2]
   ·refine ⟨zs, hp, Ev.step (f := fun _ => some (nZ (zs.take a))) (fun k => ?_) (Ev.now _), fun _ => rfl⟩
    rw [aI.l1, kW (by omega), if_neg (by rw [bY]; omega), if_pos (by omega), if_pos (by rw [lI, hp.len]; omega), Int.toNat_natCast, WB]
 obtain ⟨zs, h1, h2, h3⟩ := hl1 (turns.length + 2) 0 (List.range (a + b)) (by omega) (LL _);refine ⟨zs, h1, ?_, h3⟩;unfold aI.f;have hl0 : ∀ d i, i + d = a + b → Ev (fun k => aI.l0 k (a : Int) (nI turns) (nZ (OK (a + b) i)) (i : Int)) (nZ (zs.take a)) := by
  intro d
  induction d with
  | zero =>
   intro i hi;obtain rfl : i = a + b := by omega
   refine Ev.step (fun k => ?_) h2;rw [aI.l0, if_neg (by rw [lI, N3]; omega), VI];rfl
  | succ d ih =>
   intro i hi;refine Ev.step (fun k => ?_) (ih (i + 1) (by omega));rw [aI.l0, if_pos (by rw [lI, N3]; omega), if_pos (by omega), Int.toNat_natCast, LU, VH (by omega), kW (by omega)]
 have h0 := hl0 (a + b) 0 (by omega);rw [← RJ] at h0;simp only [GC (show a + b ≤ 9223372036854775807 by omega), Int.toNat_natCast, if_pos (show (0 : Int) ≤ ((a + b : Nat) : Int) by omega), if_pos (show a + b ≤ 35184372088832 by omega)];exact h0
theorem OL {n a : Nat} {zs : List Nat} (h : AV n zs) (ha : a ≤ n) : (zs.take a).length = a ∧ (∀ i, i < a → (zs.take a).getD i 0 < n) ∧ ∀ i i', i < a → i' < a → i ≠ i' → (zs.take a).getD i 0 ≠ (zs.take a).getD i' 0 := by
 have g : ∀ i, i < a → (zs.take a).getD i 0 = zs.getD i 0 := by
  intro i hi;rw [List.getD_eq_getElem?_getD, List.getElem?_take_of_lt hi, ← List.getD_eq_getElem?_getD]
 refine ⟨by rw [List.length_take, h.len]; omega, fun i hi => by rw [g i hi]; exact h.lt i (by omega), fun i i' hi hi' hne => ?_⟩;rw [g i hi, g i' hi'];exact h.ne i i' (by omega) (by omega) hne
theorem WO (r c : Int) (l : List Int) : aQ.f r c l r c l = some true := by
 unfold aQ.f;rw [if_pos rfl, if_pos rfl];unfold fP.f;rw [beq_self_eq_true];rfl
theorem RH {n k i j : Nat} (hi : i < n) (hj : j < k) : (vY n k).getD (i * k + j) 0 = Gf.npow (UInt8.ofNat i) j := uF _ hi hj
def F4 (n k : Nat) : List UInt8 := CL n k k (vY n k) (nG k (vF k (vY n k))).2.1.flatten
theorem P4 (n k : Nat) : (F4 n k).length = n * k := eO _ _ _
theorem LB {a b : Nat} (ha : 1 ≤ a) (hab : a + b ≤ 64) : CC (a : Int) (b : Int) = (((a + b : Nat) : Int), (a : Int), nI (F4 (a + b) a), 0) := by
 have hl : (vY (a + b) a).length = (a + b) * a := eO _ _ _;have hf := BU (k := a) (n := a + b) (by omega) (by omega) hl (fun i j hi hj => RH hi hj);have hm : CN (a : Int) (b : Int) = true := decide_eq_true (by omega);have ht : nY ((a + b : Nat) : Int) (a : Int) (vY (a + b) a).length = true := by
  unfold nY;rw [mR (by omega) (by omega) hl, decide_eq_true (by omega)];rfl
 unfold CC;rw [if_pos hm, show (a : Int) + (b : Int) = ((a + b : Nat) : Int) from rfl, Int.toNat_natCast, Int.toNat_natCast];unfold VO;rw [if_pos ht, Int.toNat_natCast, Int.toNat_natCast];have e : (OS a (vY (a + b) a)).2.2.length = a := hf;rw [e, if_neg (by omega)];rfl
theorem Q7 (a b : Nat) : (qC a b).length = (a + b) * a := by
 unfold qC yF;rw [List.length_append, lQ, eO, eV, eV, Nat.add_mul]
theorem K5 {a b i j : Nat} (hab : a + b ≤ 64) (hi : i < a + b) (hj : j < a) : (qC a b).getD (i * a + j) 0 = wO a i j := by
 unfold qC wO
 by_cases h : i < a
 ·have hp := jI h hj
  rw [List.getD_eq_getElem?_getD, List.getElem?_append_left (by rw [lQ]; exact hp), ← List.getD_eq_getElem?_getD, zM a a (Nat.le_refl _), uF _ h hj, if_pos h]
  by_cases e : i = j
  ·rw [if_pos ⟨e, h⟩, if_pos e]
  ·rw [if_neg (fun q => e q.1), if_neg e]
 ·obtain ⟨q, rfl⟩ : ∃ q, i = a + q := ⟨i - a, by omega⟩
  have e1 : (a + q) * a + j - (mT a a).length = q * a + j := by rw [lQ, Nat.add_mul]; omega
  have hge : (mT a a).length ≤ (a + q) * a + j := by rw [lQ, Nat.add_mul]; omega
  rw [if_neg h, List.getD_eq_getElem?_getD, List.getElem?_append_right hge, ← List.getD_eq_getElem?_getD, e1];have e2 : (yF (gZ a b) (gZ 0 a)).getD (q * a + j) 0 = U8 (gZ a b) (gZ 0 a) q j := by
   have := uF (R := (gZ a b).length) (C := (gZ 0 a).length) (U8 (gZ a b) (gZ 0 a)) (i := q) (j := j) (by rw [eV]; omega) (by rw [eV]; exact hj);unfold yF;rw [eV 0 a] at this ⊢;exact this
  rw [e2];unfold U8;rw [xL (by omega), xL hj, Nat.zero_add]
end Go.Proofs.Yteofcbkjhdadpaa
namespace Go.Proofs.Yteofcbkjhdadpaa
open Go.RowKit Go.Proofs.aD.aT Go.Proofs.Yteofcbkjhdadpaa.Pr
theorem M6 {α : Type} {g : Option α} {r : α} (h : g = some r) : Ev (fun _ => g) r := ⟨0, fun _ _ => h⟩
theorem UM (a b : UInt8) (turns : List UInt8) (ht : turns.length ≤ 140737488355328) : ∃ k, aW.f k (a.toNat : Int) (b.toNat : Int) (nI turns) = some true := by
 refine Ev.rounds ?_;have ha := a.toNat_lt;have hb := b.toNat_lt;generalize a.toNat = a at ha ⊢;generalize b.toNat = b at hb ⊢;have wa : wrap64 (a : Int) = (a : Int) := RF (by omega) (by omega);have wb : wrap64 (b : Int) = (b : Int) := RF (by omega) (by omega);have wab : wrap64 ((a : Int) + (b : Int)) = (a : Int) + (b : Int) := RF (by omega) (by omega);unfold aW.f;simp only [wa, wb, wab];refine Ev.bind (TU (a : Int) (b : Int)) (Ev.bind (YJ (a : Int) (b : Int)) ?_)
 by_cases hm : 1 ≤ a ∧ a + b ≤ 64
 ·obtain ⟨h1, hab⟩ := hm
  have hn : a + b ≤ 64 := hab;have hmb : CN (a : Int) (b : Int) = true := decide_eq_true (by omega);have hcv : zR (a : Int) (b : Int) = (((a + b : Nat) : Int), (a : Int), nI (qC a b), 0) := by
   unfold zR;rw [if_pos hmb, Int.toNat_natCast, Int.toNat_natCast];rfl
  simp only [LB h1 hab, hcv, if_neg (show ¬ (a : Int) < 1 by omega), decide_eq_false (show ¬ (a : Int) + (b : Int) > 64 by omega)];obtain ⟨zs, z1, z2, _⟩ := FA a b turns hab h1 ht;obtain ⟨us, u1, u2, u3⟩ := FA a 0 [] (by omega) h1 (by simp);obtain ⟨t1, t2, t3⟩ := OL z1 (show a ≤ a + b by omega);have hus : us.take a = List.range a := by
   rw [u3 rfl, Nat.add_zero, List.take_of_length_le (by rw [List.length_range]; exact Nat.le_refl _)]
  rw [hus] at u2;have hMl := P4 (a + b) a;have hCl := Q7 a b;have hvl : (vY (a + b) a).length = (a + b) * a := eO _ _ _;have hva : ∀ i j, i < a + b → j < a → (vY (a + b) a).getD (i * a + j) 0 = Gf.npow (UInt8.ofNat i) j := fun i j hi hj => RH hi hj
  have ra : (List.range a).length = a := List.length_range;have rg : ∀ i, i < a → (List.range a).getD i 0 = i := fun i hi => by rw [List.getD_eq_getElem?_getD, List.getElem?_range hi]; rfl
  -- the four picks
  have pk : ∀ (X : List UInt8), X.length = (a + b) * a → ∀ ws : List Nat, ws.length = a → (∀ i, i < a → ws.getD i 0 < a + b) → Ev (fun k => aH.f k ((a + b : Nat) : Int) (a : Int) (nI X) (nZ ws)) ((a : Int), (a : Int), nI (kX (fY X (a + b) a) ws).flatten, (0 : Int)) := by
   intro X hX ws hw hlt;have h := SC (jQ hX) hn (show a ≤ 64 by omega) (zs := ws) (by omega) (fun i hi => hlt i (by omega));rw [tR hX, hw] at h;exact h
  have pl : ∀ (X : List UInt8), X.length = (a + b) * a → ∀ ws : List Nat, ws.length = a → (∀ i, i < a → ws.getD i 0 < a + b) → (kX (fY X (a + b) a) ws).flatten.length = a * a := by
   intro X hX ws hw hlt;have h := nH (wE (jQ hX) (zs := ws) (fun i hi => hlt i (by omega)));rw [hw] at h;exact h
  have pe : ∀ (X : List UInt8) (hX : X.length = (a + b) * a) (ws : List Nat) (hw : ws.length = a) (hlt : ∀ i, i < a → ws.getD i 0 < a + b) (i j : Nat), i < a → j < a → (kX (fY X (a + b) a) ws).flatten.getD (i * a + j) 0 = X.getD (ws.getD i 0 * a + j) 0 :=
   fun X hX ws hw hlt i j hi hj => LJ hX (fun i hi => hlt i (by omega)) (by omega) hj
  have k1 : NB a a (kX (fY (F4 (a + b) a) (a + b) a) (zs.take a)).flatten = a := by
   refine F8 (pl _ hMl _ t1 t2) fun z hz => S4 (k := a) (n := a + b) (by omega) (by omega) hvl hva (fun i => (zs.take a).getD i 0) t2 t3 z fun i hi => ?_
   exact (dM fun j hj => by rw [pe _ hMl _ t1 t2 i j hi hj]; rfl).trans (hz i hi)
  have k2 : NB a a (kX (fY (qC a b) (a + b) a) (zs.take a)).flatten = a := by
   refine F8 (pl _ hCl _ t1 t2) fun z hz => Q8 hab (fun i => (zs.take a).getD i 0) t2 t3 z fun i hi => ?_
   exact (dM fun j hj => by rw [pe _ hCl _ t1 t2 i j hi hj, K5 hab (t2 i hi) hj]).trans (hz i hi)
  have hid : ∀ (X : List UInt8), X.length = (a + b) * a → (∀ i j, i < a → j < a → X.getD (i * a + j) 0 = if i = j then 1 else 0) → (kX (fY X (a + b) a) (List.range a)).flatten = mT a a := by
   intro X hX hx;have hlt : ∀ i, i < a → (List.range a).getD i 0 < a + b := fun i hi => by rw [rg i hi]; omega
   have hl := pl X hX (List.range a) ra hlt;rw [zM a a (Nat.le_refl _)];refine JW hl fun i j hi hj => ?_
   have e := pe X hX (List.range a) ra hlt i j hi hj;rw [rg i hi, hx i j hi hj, List.getD_eq_getElem?_getD, List.getElem?_eq_getElem (by rw [hl]; exact jI hi hj)] at e;rw [List.getElem?_eq_getElem (by rw [hl]; exact jI hi hj)];simp only [Option.getD_some] at e;rw [e]
   by_cases q : i = j
   ·rw [if_pos q, if_pos ⟨q, hi⟩]
   ·rw [if_neg q, if_neg (fun h => q h.1)]
  have i1 := hid _ hMl (fun i j hi hj => S3 (k := a) (n := a + b) (by omega) (by omega) hvl hva hi hj);have i2 := hid _ hCl (fun i j hi hj => by rw [K5 hab (by omega) hj]; unfold wO; rw [if_pos hi]);have hlt : ∀ i, i < a → (List.range a).getD i 0 < a + b := fun i hi => by rw [rg i hi]; omega
  have q1 := pk _ hMl _ t1 t2;have q2 := pk _ hCl _ t1 t2;have q3 := pk _ hMl _ ra hlt;have q4 := pk _ hCl _ ra hlt;rw [i1] at q3;rw [i2] at q4;have r1 := ND (n := a) (c := a) (by omega) (by omega) (pl _ hMl _ t1 t2);have r2 := ND (n := a) (c := a) (by omega) (by omega) (pl _ hCl _ t1 t2);rw [k1] at r1;rw [k2] at r2;refine Ev.step (f := fun k => aW.j1 k (a : Int) (b : Int) (nI turns) false ((a + b : Nat) : Int) (a : Int) (nI (F4 (a + b) a)) ((a + b : Nat) : Int) (a : Int) (nI (qC a b))) (fun k => ?_) (Ev.step (f := fun k => (aI.f k (a : Int) (b : Int) (nI turns)).bind fun rG => ((aH.f k ((a + b : Nat) : Int) (a : Int) (nI (F4 (a + b) a)) rG).bind fun mC => ((aH.f k ((a + b : Nat) : Int) (a : Int) (nI (qC a b)) rG).bind fun jW => ((bQ.f mC.1 mC.2.1 mC.2.2.1).bind fun sZ => ((bQ.f jW.1 jW.2.1 jW.2.2.1).bind fun qS => ((aI.f k (a : Int) 0 ([] : List Int)).bind fun kU => ((aH.f k ((a + b : Nat) : Int) (a : Int) (nI (F4 (a + b) a)) kU).bind fun fU => ((aH.f k ((a + b : Nat) : Int) (a : Int) (nI (qC a b)) kU).bind fun eX => ((aV.f k (a : Int)).bind fun cE => ((bB.f k).bind fun n9 => (if n9 = true then (if mC.2.2.2 = 0 then (if jW.2.2.2 = 0 then (if sZ.1 = (a : Int) then (if qS.1 = (a : Int) then ((aQ.f fU.1 fU.2.1 fU.2.2.1 cE.1 cE.2.1 cE.2.2.1).bind fun m5 => (if m5 = true then ((aQ.f eX.1 eX.2.1 eX.2.2.1 cE.1 cE.2.1 cE.2.2.1).bind fun kO => (some kO)) else (some false))) else (some false)) else (some false)) else (some false)) else (some false)) else (some false)))))))))))) (fun k => ?_) ?_)
  ·rw [aW.j0, if_neg (by simp), if_pos rfl, show ((0 : Int) != 0) = false from by simp]
  ·rw [aW.j1, if_neg (by simp), wa, wb]
  ·have pa := NF
   revert pa
   generalize bB.f = AN;intro pa;have e1 := M6 r1;have e2 := M6 r2;refine Ev.bind z2 (Ev.bind q1 (Ev.bind q2 (Ev.bind e1 (Ev.bind e2 (Ev.bind u2 (Ev.bind q3 (Ev.bind q4 (Ev.bind (SE a (by omega)) (Ev.bind pa ?_)))))))));refine M6 ?_;rw [if_pos rfl, if_pos rfl, if_pos rfl, if_pos rfl, if_pos rfl, WO, Option.bind_some, if_pos rfl, Option.bind_some]
 ·have hmb : CN (a : Int) (b : Int) = false := decide_eq_false (by omega)
  have hrv : CC (a : Int) (b : Int) = (0, 0, [], 2) := by unfold CC; rw [hmb]; rfl
  have hcv : zR (a : Int) (b : Int) = (0, 0, [], 2) := by unfold zR; rw [hmb]; rfl
  have hj : Ev (fun k => aW.j0 k (a : Int) (b : Int) (nI turns) 2 2 true 0 0 [] 0 0 []) true := by
   refine Ev.step (f := fun k => (bB.f k).bind fun J8 => (if J8 = true then (if (2 : Int) = 2 then (some ((2 : Int) == 2)) else (some false)) else (some false))) (fun k => ?_) (Ev.bind NF (Ev.now _));rw [aW.j0, if_pos rfl]
  simp only [hrv, hcv]
  by_cases h1 : (a : Int) < 1
  ·simp only [if_pos h1]
   exact hj
  ·simp only [if_neg h1, decide_eq_true (show (a : Int) + (b : Int) > 64 by omega)]
   exact hj
theorem DN (a0 a1 : UInt8) (a2 : Option Addr) (n2 c2 : Nat) (x2 : List UInt8) (w : World)
  (r2 : Rd w w.heap.size a2 n2 (dF x2)) (l2 : n2 ≤ c2) (m2 : c2 ≤ 140737488351232) :
  Calls Try.prog 9 #[.int .u8 (a0.toNat : Int), .int .u8 (a1.toNat : Int), .slice a2 n2 c2] w fun e w' => e = .returned (.bool true) ∧ Below w.heap.size w w' := by
 obtain rfl : x2.length = n2 := by have := r2.len; rw [b6] at this; exact this
 obtain ⟨k, h⟩ := UM a0 a1 x2 (by omega);have hc := aW.calls k (a0.toNat : Int) (a1.toNat : Int) a2 c2 (nI x2) true w (Z2 r2 (by omega)) (by rw [bY]; exact l2) rfl h;rw [bY] at hc;exact hc
end Go.Proofs.Yteofcbkjhdadpaa
namespace Go.Proofs.Yteofcbkjhdadpaa.buildAny
open Go.ChangeShapes Go.WideShapes Go.ChangeAt Go.RowKit
theorem lifted (os : Os) (started : os.Started) (H : Type) (enc : TypeId × Value → H) :
  ReturnsInHanded {} Try.checked os 9 .any (Rows.buildAnySpec.pre6 enc Try.prog Try.f9 Rows.buildAnyRow.domain false) (Rows.buildAnySpec.post enc Try.prog Try.f9 false true false false) := by
 refine returnsInHanded_of_change_sized (C := Try.checked) SM started (by kernel_rfl) Try.func9
  (ChangeSpec.witness6 (enc := enc) (C := Try.checked) false ⟨#[], #[.int .u8 0, .int .u8 0, .slice none 0 0], []⟩ 8 (by kernel_rfl) (by kernel_rfl) (by kernel_rfl) (by kernel_rfl)) ?_
 intro W base args ds gs before hval0 hW hcnd a2o _;have hsz : (DataW.weightsEach Try.prog (Try.f9.params.toList ++ Rows.buildAnySpec.plain.varTypes Try.prog) (ds ++ gs)).all (· ≤ reachBytes) = true := a2o;have hval : ∀ (j : Nat) t v, Try.f9.params[j]? = some t → args[j]? = some v → Value.okWide Try.prog W .any base t v := hval0;have hW' := hW;obtain ⟨p, q, hA0, hV, rfl, hfz, hnd⟩ := hW;have hA : DataW.TrodAll enc Try.prog W 0 (fun _ => true) true Try.f9.params.toList args.toList ds p := hA0;rw [Try.params9] at hA hval hsz;obtain ⟨v0, vs0, d0, ds0, p0, q0, hargs, rfl, rfl, h0, r0⟩ := trodAll_cons hA;obtain ⟨v1, vs1, d1, ds1, p1, q1, rfl, rfl, rfl, h1, r1⟩ := trodAll_cons r0;obtain ⟨v2, vs2, d2, ds2, p2, q2, rfl, rfl, rfl, h2, r2⟩ := trodAll_cons r1;obtain ⟨rfl, rfl, rfl⟩ := trodAll_nil r2;obtain rfl : args = #[v0, v1, v2] := by cases args; simp_all
 obtain ⟨rfl, rfl⟩ := trodVars_none hV;have k0 := h0;have lt0 : ∀ x ∈ p0, x.block < W.heap.size := by obtain ⟨m, hm⟩ := k0; exact DataW.trod_lt m _ _ _ hm
 have k1 := h1;have lt1 : ∀ x ∈ p1, x.block < W.heap.size := by obtain ⟨m, hm⟩ := k1; exact DataW.trod_lt m _ _ _ hm
 have k2 := h2;have lt2 : ∀ x ∈ p2, x.block < W.heap.size := by obtain ⟨m, hm⟩ := k2; exact DataW.trod_lt m _ _ _ hm
 obtain ⟨a0, rfl, rfl, rfl, w0⟩ := open_int Try.underlying5 (hval 0 5 v0 rfl rfl) h0;obtain ⟨x0, rfl⟩ := RO w0;obtain ⟨a1, rfl, rfl, rfl, w1⟩ := open_int Try.underlying5 (hval 1 5 v1 rfl rfl) h1;obtain ⟨x1, rfl⟩ := RO w1;obtain ⟨a2, n2, c2, rfl⟩ := okWide_slice Try.underlying22 (hval 2 22 v2 rfl rfl);obtain ⟨x2, rd2, lc2, cm2, dd2⟩ := LR h2;have cr2 : c2 ≤ 140737488351232 := by
  rcases dd2 with ⟨_, h⟩ | ⟨es, rs, rfl, hl⟩
  ·omega
  ·have h := sized_slice hsz (j := 2) rfl rfl Try.underlying22
   rw [K9] at h;simp only [reachBytes] at h;omega
 clear hA0 hval0 a2o;refine (DN x0 x1 a2 n2 c2 x2 W rd2 lc2 cr2).mono fun e W' ⟨he, bel⟩ => ?_
 subst he;exact ⟨_, rfl, _, _, _, [], _, [], hW', trodAll_mk1 (shut_bool Try.underlying4 _), (trodAll_cons_mk (shut_int Try.underlying5 w0) (trodAll_cons_mk (shut_int Try.underlying5 w1) (trodAll_cons_mk (Below.trod TM (by kernel_rfl) (of_decide_eq_true (by kernel_rfl)) k2 bel lt2) trodAll_mk0))), rfl, bel.frame _, fun h => by cases h⟩
theorem over : Rows.buildAnyRow.holds Try.pinned (OpenSpec.ofChange Rows.buildAnySpec) :=
 OpenClaim.holds_of_wide 9 Try.f9 rfl rfl rfl rfl rfl rfl rfl ⟨rfl, rfl, rfl, rfl, rfl⟩ rfl rfl rfl rfl rfl (by kernel_rfl) Try.func9 (by kernel_rfl)
  (of_decide_eq_true (by kernel_rfl)) (by unfold Func.isWrapper; first | (rw [if_pos (by decide +kernel)]; kernel_rfl) | (rw [if_neg (by decide +kernel)]; exact ⟨rfl, rfl⟩))
  (fun os started H enc _ => lifted os started H enc)
theorem proved : Rows.BuildAnySaid := over
#print axioms proved
end Go.Proofs.Yteofcbkjhdadpaa.buildAny
