/- The law BuildChecks, proved: for every input the call returns true and each argument reads as before. -/
import Derived.Lib.Bytes
import Derived.WalkKit
import Derived.ProofKit
import Derived.OpenShut
import Derived.ChangeOld
import Derived.Below
import Derived.SizedLaws
import Derived.Test.YteofcbkjhdadpaaCBuildChecksx1
import Derived.Test.YteofcbkjhdadpaaCBuildChecksx2
import Derived.Test.YteofcbkjhdadpaaCBuildChecksx8
import Derived.Test.YteofcbkjhdadpaaCBuildChecksA3
import Derived.Test.YteofcbkjhdadpaaCBuildChecksA1
import Derived.Test.YteofcbkjhdadpaaCBuildChecksx3
import Derived.Test.YteofcbkjhdadpaaCBuildChecksx12
import Derived.Test.YteofcbkjhdadpaaCBuildChecksx9
import Derived.Test.YteofcbkjhdadpaaCBuildChecksA2
import Derived.Test.YteofcbkjhdadpaaCBuildChecksx11
import Derived.Test.YteofcbkjhdadpaaCBuildChecksx14
import Derived.Test.YteofcbkjhdadpaaCBuildChecksx15
import Derived.Test.YteofcbkjhdadpaaCBuildChecksx16
import Derived.Test.YteofcbkjhdadpaaCBuildChecksx18
import Derived.Test.YteofcbkjhdadpaaCBuildChecksx19
import Derived.Test.YteofcbkjhdadpaaCBuildChecksx20
import Derived.Test.YteofcbkjhdadpaaCBuildChecksx4
import Derived.Test.YteofcbkjhdadpaaCBuildChecksx21
import Derived.Test.YteofcbkjhdadpaaCBuildChecksx5
import Derived.Test.YteofcbkjhdadpaaCBuildChecksx22
import Derived.Test.YteofcbkjhdadpaaRows
import Derived.Test.YteofcbkjhdadpaaCBuildChecksq
set_option maxRecDepth 100000
set_option linter.unusedSimpArgs false
set_option linter.unusedVariables false
namespace Go.Proofs.Yteofcbkjhdadpaa
open Go.RowKit Go.Proofs.aH.bJ Go.Proofs.Yteofcbkjhdadpaa.Pr
theorem sX (r c : Int) (l : List Int) : bA.f r c l = some (bY r c l.length):=by
 unfold bA.f bY
 by_cases h1 : r ≥ 0
 ·rw [if_pos h1]
  by_cases h2 : r≤64
  ·rw [if_pos h2]
   by_cases h3 : c ≥ 0
   ·rw [if_pos h3]
    by_cases h4 : c≤64
    ·rw [if_pos h4]
     have b:=PS h1 h2 h3 h4;rw [w64 (by omega) (by omega)]
     congr 1
     rw [Bool.eq_iff_iff,beq_iff_eq,decide_eq_true_eq];exact ⟨fun h => ⟨⟨h1,h2⟩,⟨h3,h4⟩,h⟩,fun h => h.2.2⟩
    ·rw [if_neg h4];congr 1;exact (decide_eq_false (fun h => h4 h.2.1.2)).symm
   ·rw [if_neg h3];congr 1;exact (decide_eq_false (fun h => h3 h.2.1.1)).symm
  ·rw [if_neg h2];congr 1;exact (decide_eq_false (fun h => h2 h.1.2)).symm
 ·rw [if_neg h1];congr 1;exact (decide_eq_false (fun h => h1 h.1.1)).symm
theorem aIo {r : Int} {c i j : Nat} {xs : List UInt8} (h : i * c + j < xs.length) (hb : i * c + j≤9223372036854775807) : cF.f r (c : Int) (nI xs) (i : Int) (j : Int) = some ((xs.getD (i * c + j) 0).toNat : Int):=by
 unfold cF.f;rw [AU hb,if_pos (by omega),if_pos (by rw [bT];omega),YP]
theorem aCT (a b : UInt8) : dD.f (a.toNat : Int) (b.toNat : Int) = some ((Gf.mul a b).toNat : Int):=by
 unfold dD.f;rw [AX,AX,KV,KV];rfl
theorem aPP {r c : Nat} (h : r * c≤281474976710656) : gH.f (r : Int) (c : Int) = some ((r : Int),(c : Int),nI (List.replicate (r * c) 0)):=by
 unfold gH.f;rw [aCw (by omega),if_pos (by omega),Int.toNat_natCast,if_pos h,NG]
section
variable {ra ca cb : Nat} {xs ys : List UInt8}
theorem aKL (hra : ra≤64) (hca : ca≤64) (hcb : cb≤64) (hx : xs.length = ra * ca) (hy : ys.length = ca * cb) {i j : Nat} (hi : i < ra) (hj : j < cb) {r : Int×Int×List Int×Int}
  (hr : Ev (fun k => aX.l1 k (i : Int) ((j + 1 : Nat) : Int) ra ca (nI xs) ca cb (nI ys) ra cb (nI (sO ra cb (NH ca cb xs ys) i (j + 1)))) r) :
  ∀ d q,q + d = ca→Ev (fun k => aX.l2 k (i : Int) (j : Int) (q : Int) ra ca (nI xs) ca cb (nI ys) ra cb (nI ((sO ra cb (NH ca cb xs ys) i j).set (i * cb + j) (RV q fun t => Gf.mul (xs.getD (i * ca + t) 0) (ys.getD (t * cb + j) 0))))) r:=by
 have hp:=mI hi hj;have hpb : ra * cb≤64 * 64:=Nat.mul_le_mul hra hcb;have hab : ra * ca≤64 * 64:=Nat.mul_le_mul hra hca;have hbb : ca * cb≤64 * 64:=Nat.mul_le_mul hca hcb;intro d
 induction d with
 | zero =>
  intro q hq;obtain rfl : q = ca:=by omega
  refine Ev.step (fun k => ?_) hr;rw [aX.l2,if_neg (by omega),eN (by omega)];have e:=SQ (R:=ra) (C:=cb) (NH q cb xs ys) hi hj;rw [← e];rfl
 | succ d ih =>
  intro q hq;refine Ev.step (fun k => ?_) (ih (q + 1) (by omega));have h1:=mI hi (show q < ca by omega);have h2:=mI (show q < ca by omega) hj;rw [aX.l2,if_pos (by omega),AU (by omega),if_pos (by omega),if_pos (by rw [bT,List.length_set,AO];omega),
   aIo (by omega) (by omega),Option.bind_some,aIo (by omega) (by omega),Option.bind_some,aCT,Option.bind_some,eN (by omega),Int.toNat_natCast,YP,
   aAZ _ _ _ (by rw [AO];omega),aJJ,JC,List.set_set]
  rfl
theorem aKM (hra : ra≤64) (hca : ca≤64) (hcb : cb≤64) (hx : xs.length = ra * ca) (hy : ys.length = ca * cb) {i : Nat} (hi : i < ra) {r : Int×Int×List Int×Int}
  (hr : Ev (fun k => aX.l0 k ((i + 1 : Nat) : Int) ra ca (nI xs) ca cb (nI ys) ra cb (nI (sO ra cb (NH ca cb xs ys) (i + 1) 0))) r) :
  ∀ d j,j + d = cb→Ev (fun k => aX.l1 k (i : Int) (j : Int) ra ca (nI xs) ca cb (nI ys) ra cb (nI (sO ra cb (NH ca cb xs ys) i j))) r:=by
 intro d
 induction d with
 | zero =>
  intro j hj;obtain rfl : j = cb:=by omega
  refine Ev.step (fun k => ?_) hr;rw [aX.l1,if_neg (by omega),eN (by omega),NR]
 | succ d ih =>
  intro j hj;have h0:=aKL hra hca hcb hx hy hi (show j < cb by omega) (ih (j + 1) (by omega)) ca 0 (by omega);refine Ev.step (fun k => ?_) h0;rw [aX.l1,if_pos (by omega)];have e:=aNN (R:=ra) (C:=cb) (NH ca cb xs ys) hi (show j < cb by omega);simp only [RV];rw [e];rfl
theorem aKN (hra : ra≤64) (hca : ca≤64) (hcb : cb≤64) (hx : xs.length = ra * ca) (hy : ys.length = ca * cb) :
  ∀ d i,i + d = ra→Ev (fun k => aX.l0 k (i : Int) ra ca (nI xs) ca cb (nI ys) ra cb (nI (sO ra cb (NH ca cb xs ys) i 0))) ((ra : Int),(cb : Int),nI (aAW ra ca cb xs ys),0):=by
 intro d
 induction d with
 | zero =>
  intro i hi;obtain rfl : i = ra:=by omega
  refine Ev.step (fun k => ?_) (Ev.now _);rw [aX.l0,if_neg (by omega),SR];rfl
 | succ d ih =>
  intro i hi;have h0:=aKM hra hca hcb hx hy (show i < ra by omega) (ih (i + 1) (by omega)) cb 0 (by omega);refine Ev.step (fun k => ?_) h0;rw [aX.l0,if_pos (by omega)];rfl
end
theorem aUj (ra ca rb cb : Int) (xs ys : List UInt8) :
  Ev (fun k => aX.f k ra ca (nI xs) rb cb (nI ys)) (if vH ra ca xs.length rb cb ys.length = true then (ra,cb,nI (aAW ra.toNat ca.toNat cb.toNat xs ys),0) else (0,0,[],3)):=by
 unfold aX.f;simp only [sX,bT,Option.bind_some]
 by_cases h1 : bY ra ca xs.length = true
 ·by_cases h2 : bY rb cb ys.length = true
  ·simp only [h1,h2,if_true]
   by_cases h3 : ca = rb
   ·have hm : vH ra ca xs.length rb cb ys.length = true:=by unfold vH;rw [h1,h2];simp [h3]
    rw [if_pos hm];obtain ⟨a,b,c,rfl,rfl,rfl,rfl,k1,k2,k3,k4,k5⟩:=aLf hm;have hpb : a * c≤64 * 64:=Nat.mul_le_mul k1 k3;have h0:=aKN k1 k2 k3 k4 k5 a 0 (by omega);refine Ev.step (fun k => ?_) h0;rw [aX.j0,if_neg (by simp),aPP (by omega),Option.bind_some,JN a c (NH b c xs ys)];rfl
   ·have hm : ¬ vH ra ca xs.length rb cb ys.length = true:=by simp [vH,h3]
    rw [if_neg hm];refine Ev.step (fun k => ?_) (Ev.now _);rw [aX.j0,if_pos (by simpa using h3)]
  ·have hm : ¬ vH ra ca xs.length rb cb ys.length = true:=by simp [vH,h2]
   simp only [h1,h2,if_true,Bool.false_eq_true,if_false];rw [if_neg hm];refine Ev.step (fun k => ?_) (Ev.now _);rw [aX.j0,if_pos rfl]
 ·have hm : ¬ vH ra ca xs.length rb cb ys.length = true:=by simp [vH,h1]
  simp only [h1,Bool.false_eq_true,if_false];rw [if_neg hm];refine Ev.step (fun k => ?_) (Ev.now _);rw [aX.j0,if_pos rfl]
end Go.Proofs.Yteofcbkjhdadpaa
namespace Go.Proofs.Yteofcbkjhdadpaa
open Go.RowKit Go.Proofs.aH.bJ Go.Proofs.Yteofcbkjhdadpaa.Pr
theorem iU {n c l : Nat} (hn : n≤64) (hc : c≤64) (h : l = n * c) : bY (n : Int) (c : Int) l = true:=by
 unfold bY;rw [decide_eq_true_eq];refine ⟨⟨by omega,by omega⟩,⟨by omega,by omega⟩,?_⟩;rw [h,Int.natCast_mul]
section
variable {n c : Nat} (hn : n≤64) (hc : c≤65)
include hn hc
theorem VP {i j : Nat} (hi : i < n) (hj : j < c) : i * c + j < n * c∧i * c + j≤9223372036854775807∧n * c≤4160:=by
 have h1:=mI hi hj;have h2 : n * c≤64 * 65:=Nat.mul_le_mul hn hc;omega
theorem uX {L : List (List UInt8)} (h : fC n c L) {i j : Nat} (hi : i < n) (hj : j < c) : cF.f (n : Int) (c : Int) (nI L.flatten) (i : Int) (j : Int) = some ((gL L i j).toNat : Int):=by
 obtain ⟨h1,h2,_⟩:=VP hn hc hi hj;rw [aIo (by rw [oS h];exact h1) h2,yQ h hi hj]
end
theorem aFd {n c i : Nat} {L : List (List UInt8)} (h : fC n c L) (hn : n≤64) (hc : c≤64) (hi : i < n) : Ev (fun k => cD.f k (n : Int) (c : Int) (nI L.flatten) (i : Int)) (nI (L.getD i []),(0 : Int)):=by
 have hw:=h.wid i hi;unfold cD.f;rw [sX,bT,oS h,iU hn hc rfl];simp only [Option.bind_some,if_true,if_neg (show ¬ (i : Int) < 0 by omega),decide_eq_false (show ¬ (i : Int) ≥ (n : Int) by omega)];have hloop : ∀ d q,q + d = c→Ev (fun k => cD.l0 k (i : Int) (nI ((L.getD i []).take q)) (q : Int) (n : Int) (c : Int) (nI L.flatten)) (nI (L.getD i []),(0 : Int)):=by
  intro d
  induction d with
  | zero =>
   intro q hq;obtain rfl : q = c:=by omega
   refine Ev.step (f:=fun _ => some (nI (L.getD i []),(0 : Int))) (fun k => ?_) (Ev.now _);rw [cD.l0,if_neg (by omega),List.take_of_length_le (by omega)]
  | succ d ih =>
   intro q hq;have e1 : (L.getD i []).take (q + 1) = (L.getD i []).take q ++ [gL L i q]:=by
    rw [List.take_succ_eq_append_getElem (by omega)];unfold gL;rw [List.getD_eq_getElem?_getD (l:=L.getD i []),List.getElem?_eq_getElem (by omega)];rfl
   refine Ev.step (fun k => ?_) (ih (q + 1) (by omega));rw [cD.l0,if_pos (by omega),uX hn (by omega) h hi (by omega),Option.bind_some,if_pos (by rw [bT,List.length_take];omega),aCX,← e1,eN (by omega)]
 refine Ev.step (fun k => ?_) (hloop c 0 (by omega));rw [cD.j0,if_neg (by simp)];rfl
theorem MO {n c : Nat} {L : List (List UInt8)} (h : fC n c L) {i : Nat} (hi : i≤n) : (L.take i).flatten.length = i * c:=by
 refine oS (n:=i) ⟨by rw [List.length_take,h.len];omega,fun k hk => ?_⟩;rw [List.getD_eq_getElem?_getD,List.getElem?_take_of_lt hk,← List.getD_eq_getElem?_getD];exact h.wid k (by omega)
end Go.Proofs.Yteofcbkjhdadpaa
namespace Go.Proofs.Yteofcbkjhdadpaa
open Go.RowKit Go.Proofs.aH.bJ Go.Proofs.Yteofcbkjhdadpaa.Pr
def aUd (a0 a1 : Int) (xs : List UInt8) : Int×Int×List Int×Int :=
 if pC a0 a1 xs.length = true then (if (aMn a1.toNat xs).2.2.length < a1.toNat then (0,0,[],6) else (a0,a1,nI (aAW a0.toNat a1.toNat a1.toNat xs (aMn a1.toNat xs).2.1.flatten),0)) else (0,0,[],3)
theorem aYx (a0 a1 : Int) (xs : List UInt8) : fV.f a0 a1 (nI xs) = some (aUd a0 a1 xs):=by
 unfold fV.f aUd;rw [SN,if_pos rfl,bT,xG]
 split
 ·split <;> rfl
 ·rfl
/-! Vandermonde -/
def aGz (i j : Nat) : UInt8:=Gf.npow (UInt8.ofNat i) j
def aGA (r c : Nat) : List UInt8:=qM r c aGz
def IY (a0 a1 : Int) : Bool:=decide ((0≤a0∧a0≤64)∧(0≤a1∧a1≤64))
def aLZ (a0 a1 : Int) : Int×Int×List Int×Int:=if IY a0 a1 = true then (a0,a1,nI (aGA a0.toNat a1.toNat),0) else (0,0,[],2)
theorem aBn {a0 a1 : Int} (h : IY a0 a1 = true) : ∃ a b : Nat,a0 = a∧a1 = b∧a≤64∧b≤64:=by
 have h:=of_decide_eq_true h;exact ⟨a0.toNat,a1.toNat,by omega,by omega,by omega,by omega⟩
theorem aOm (n : Nat) : ((n : Int) % 256) = ((UInt8.ofNat n).toNat : Int):=by
 rw [UInt8.toNat_ofNat'];omega
theorem aUG (a b : UInt8) : rZ.f (a.toNat : Int) (b.toNat : Int) = some ((Gf.mul a b).toNat : Int):=by
 unfold rZ.f;rw [AX,AX,KV,KV];rfl
theorem aEp (n : Int) : dX.f n = some (decide (0≤n∧n≤64)):=by
 unfold dX.f
 by_cases h1 : n ≥ 0
 ·rw [if_pos h1]
  congr 1
  rw [Bool.eq_iff_iff,decide_eq_true_eq,decide_eq_true_eq];omega
 ·rw [if_neg h1,decide_eq_false (by omega)]
theorem aUF (a0 a1 : Int) : pE.f a0 a1 = some (if IY a0 a1 = true then (a0,a1,nI (List.replicate (a0.toNat * a1.toNat) 0),0) else (0,0,[],2)):=by
 unfold pE.f;rw [aEp,aEp,Option.bind_some,Option.bind_some]
 by_cases h1 : 0≤a0∧a0≤64
 ·rw [if_pos (decide_eq_true h1)]
  by_cases h2 : 0≤a1∧a1≤64
  ·rw [if_pos (decide_eq_true h2)]
   have hs : IY a0 a1 = true:=decide_eq_true ⟨h1,h2⟩;rw [if_pos hs];obtain ⟨a,b,rfl,rfl,ha,hb⟩:=aBn hs;have hab : a * b≤64 * 64:=Nat.mul_le_mul ha hb;unfold kQ.f;rw [aCw (by omega),if_pos (by omega),Int.toNat_natCast,if_pos (by omega),Option.bind_some,NG,Int.toNat_natCast,Int.toNat_natCast]
  ·rw [if_neg (by simpa using h2),if_neg (by unfold IY;simp;omega)]
 ·rw [if_neg (by simpa using h1),if_neg (by unfold IY;simp;omega)]
theorem aYw (a0 a1 : Int) : Ev (fun k => bU.f k a0 a1) (aLZ a0 a1):=by
 unfold bU.f;simp only [aUF,Option.bind_some]
 by_cases hs : IY a0 a1 = true
 ·simp only [if_pos hs,if_true]
  unfold aLZ;rw [if_pos hs];obtain ⟨a,b,rfl,rfl,ha,hb⟩:=aBn hs;have hab : a * b≤64 * 64:=Nat.mul_le_mul ha hb;rw [Int.toNat_natCast,Int.toNat_natCast,JN a b aGz];have hl1 : ∀ i,i < a→Ev (fun k => bU.l0 k (b : Int) (a : Int) ((i + 1 : Nat) : Int) (a : Int) (b : Int) (nI (sO a b aGz (i + 1) 0))) ((a : Int),(b : Int),nI (aGA a b),(0 : Int)) →
    ∀ d j,j + d = b→Ev (fun k => bU.l1 k (b : Int) (i : Int) ((aGz i j).toNat : Int) (a : Int) (i : Int) (b : Int) (j : Int) (a : Int) (b : Int) (nI (sO a b aGz i j))) ((a : Int),(b : Int),nI (aGA a b),(0 : Int)):=by
   intro i hi hr d
   induction d with
   | zero =>
    intro j hj;obtain rfl : j = b:=by omega
    refine Ev.step (fun k => ?_) hr;rw [bU.l1,if_neg (by omega),eN (by omega),NR]
   | succ d ih =>
    intro j hj;have hlt:=mI hi (show j < b by omega);refine Ev.step (fun k => ?_) (ih (j + 1) (by omega));rw [bU.l1,if_pos (by omega),AU (by omega),if_pos (by omega),if_pos (by rw [bT,AO];omega),aOm,aUG,Option.bind_some,Int.toNat_natCast,JC,eN (by omega),SQ aGz hi (show j < b by omega)];rfl
  have hl0 : ∀ d i,i + d = a→Ev (fun k => bU.l0 k (b : Int) (a : Int) (i : Int) (a : Int) (b : Int) (nI (sO a b aGz i 0))) ((a : Int),(b : Int),nI (aGA a b),(0 : Int)):=by
   intro d
   induction d with
   | zero =>
    intro i hi;obtain rfl : i = a:=by omega
    refine Ev.step (f:=fun _ => some ((i : Int),(b : Int),nI (aGA i b),(0 : Int))) (fun k => ?_) (Ev.now _);rw [bU.l0,if_neg (by omega),SR];rfl
   | succ d ih =>
    intro i hi;have h1:=hl1 i (by omega) (ih (i + 1) (by omega)) b 0 (by omega);refine Ev.step (fun k => ?_) h1;rw [bU.l0,if_pos (by omega)];rfl
  exact hl0 a 0 (by omega)
 ·unfold aLZ
  simp only [if_neg hs];exact Ev.now _
/-! Reed -/
def aMZ (a0 a1 : Int) : Bool:=decide (1≤a0∧0≤a1∧a0 + a1≤64)
theorem aYy (a0 a1 : Int) : pW.f a0 a1 = some (aMZ a0 a1):=by
 unfold pW.f aMZ
 by_cases h1 : a0 ≥ 1
 ·rw [if_pos h1]
  by_cases h2 : a0≤64
  ·rw [if_pos h2]
   by_cases h3 : a1 ≥ 0
   ·rw [if_pos h3,w64 (by omega) (by omega)]
    congr 1
    rw [Bool.eq_iff_iff,decide_eq_true_eq,decide_eq_true_eq];omega
   ·rw [if_neg h3,decide_eq_false (by omega)]
  ·rw [if_neg h2]
   congr 1
   exact (decide_eq_false (by omega)).symm
 ·rw [if_neg h1,decide_eq_false (by omega)]
def aMw (a0 a1 : Int) : Int×Int×List Int×Int:=if aMZ a0 a1 = true then aUd (a0 + a1) a0 (aGA (a0 + a1).toNat a0.toNat) else (0,0,[],2)
theorem aMv {a0 a1 : Int} (h : aMZ a0 a1 = true) : wrap64 (a0 + a1) = a0 + a1∧aLZ (a0 + a1) a0 = (a0 + a1,a0,nI (aGA (a0 + a1).toNat a0.toNat),0):=by
 have h:=of_decide_eq_true h;refine ⟨w64 (by omega) (by omega),?_⟩;unfold aLZ;rw [if_pos (show IY (a0 + a1) a0 = true from decide_eq_true (by omega))]
theorem aUE (a0 a1 : Int) : Ev (fun k => rI.f k a0 a1) (aMw a0 a1):=by
 unfold rI.f aMw;simp only [aYy,Option.bind_some]
 by_cases h : aMZ a0 a1 = true
 ·obtain ⟨e1,e2⟩:=aMv h
  have hv:=aYw (a0 + a1) a0;rw [e2] at hv;simp only [if_pos h,e1];refine Ev.bind hv ?_;simp only [if_true,aYx,Option.bind_some];exact Ev.now _
 ·simp only [if_neg h]
  exact Ev.now _
end Go.Proofs.Yteofcbkjhdadpaa
namespace Go.Proofs.Yteofcbkjhdadpaa
open Go.RowKit Go.Proofs.aH.bJ Go.Proofs.Yteofcbkjhdadpaa.Pr
def qZ (n c : Nat) (xs : List UInt8) : Nat:=(oH n c xs).2.2.length
theorem aIn {n c : Nat} {xs : List UInt8} (hn : n≤64) (hc : c≤64) (hx : xs.length = n * c) : dZ.f (n : Int) (c : Int) (nI xs) = some ((qZ n c xs : Int),0):=by
 unfold dZ.f eF.f;rw [SN,if_pos rfl,bT,iU hn hc hx,if_pos rfl,xG,Option.bind_some,jZ,Int.toNat_natCast,Int.toNat_natCast];rfl
theorem YN {n c : Nat} {xs : List UInt8} (hx : xs.length = n * c) : ∃ L' A',sA n c 0 0 (gL (jW xs n c)) (gL (List.replicate n [])) [] L' A' (oH n c xs).2.2 :=
 ⟨_,_,((uF n c (jW xs n c) (List.replicate n [])).toF (oF hx) (rX n)).1⟩
theorem PK {n c : Nat} {xs : List UInt8} (hx : xs.length = n * c) {i j : Nat} (hi : i < n) (hj : j < c) : gL (jW xs n c) i j = xs.getD (i * c + j) 0:=by
 rw [← yQ (oF hx) hi hj,AV hx]
theorem aBr {n c : Nat} {xs : List UInt8} (hx : xs.length = n * c) (h : ∀ z : Nat→UInt8,(∀ j,j < c→qX (fun i => Gf.mul (z i) (xs.getD (i * c + j) 0)) n = 0) → ∀ i,i < n→z i = 0) : qZ n c xs = n:=by
 obtain ⟨L',A',hF⟩:=YN hx;refine hF.aKI fun z hz => h z fun j hj => ?_
 exact (eQ fun i hi => by rw [PK hx hi hj]).trans (hz j hj)
theorem aGQ : aMw 2 1 = (3,2,[1,0,0,1,3,2],0):=by decide +kernel
theorem aCU : Ev (fun k => cG.f k) true:=by
 unfold cG.f;have h:=aUE 2 1;rw [aGQ] at h;refine Ev.bind h ?_;simp only [if_true];unfold gI.f;simp only [if_true];unfold cQ.f;simp only [beq_self_eq_true,Option.bind_some];exact Ev.now _
end Go.Proofs.Yteofcbkjhdadpaa
namespace Go.Proofs.Yteofcbkjhdadpaa
open Go.RowKit Go.Proofs.aH.bJ Go.Proofs.Yteofcbkjhdadpaa.Pr
end Go.Proofs.Yteofcbkjhdadpaa
namespace Go.Proofs.Yteofcbkjhdadpaa
open Go.RowKit Go.Proofs.aH.bJ Go.Proofs.Yteofcbkjhdadpaa.Pr
end Go.Proofs.Yteofcbkjhdadpaa
namespace Go.Proofs.Yteofcbkjhdadpaa
open Go.RowKit Go.Proofs.aH.bJ Go.Proofs.Yteofcbkjhdadpaa.Pr
/-! the document's Pick -/
def zQ (L : List (List UInt8)) (zs : List Nat) : List (List UInt8):=zs.map fun z => L.getD z []
theorem SI (L : List (List UInt8)) (zs : List Nat) {i : Nat} (hi : i < zs.length) : (zQ L zs).getD i [] = L.getD (zs.getD i 0) []:=by
 unfold zQ;rw [List.getD_eq_getElem?_getD,List.getElem?_map,List.getElem?_eq_getElem hi,List.getD_eq_getElem?_getD (l:=zs),List.getElem?_eq_getElem hi];rfl
theorem aHd {n c : Nat} {L : List (List UInt8)} (hL : fC n c L) {zs : List Nat} (hz : ∀ i,i < zs.length→zs.getD i 0 < n) : fC zs.length c (zQ L zs) :=
 ⟨by simp [zQ],fun i hi => by rw [SI L zs hi];exact hL.wid _ (hz i hi)⟩
theorem HJ {zs : List Nat} {i : Nat} (hi : i < zs.length) : rd (nZ zs) (i : Int) = ((zs.getD i 0 : Nat) : Int):=by
 unfold rd nZ;rw [Int.toNat_natCast,List.getD_eq_getElem?_getD,List.getElem?_map,List.getElem?_eq_getElem hi,List.getD_eq_getElem?_getD,List.getElem?_eq_getElem hi];rfl
theorem aMD {n c : Nat} {L : List (List UInt8)} (hL : fC n c L) (hn : n≤64) (hc : c≤64) {zs : List Nat} (hl : zs.length≤64) (hz : ∀ i,i < zs.length→zs.getD i 0 < n) :
  Ev (fun k => bD.f k (n : Int) (c : Int) (nI L.flatten) (nZ zs)) ((zs.length : Int),(c : Int),nI (zQ L zs).flatten,(0 : Int)):=by
 have hP:=aHd hL hz;have hsz : zs.length * c≤64 * 64:=Nat.mul_le_mul hl hc;unfold bD.f;rw [sX,bT,oS hL,iU hn hc rfl];simp only [Option.bind_some,if_true];have hl1 : ∀ d i,i + d = zs.length→Ev (fun k => bD.l1 k (nZ zs) (i : Int) (n : Int) (c : Int) (nI L.flatten) (zs.length : Int) (c : Int) (nI ((zQ L zs).take i).flatten)) ((zs.length : Int),(c : Int),nI (zQ L zs).flatten,(0 : Int)):=by
  intro d
  induction d with
  | zero =>
   intro i hi;refine Ev.step (f:=fun _ => some ((zs.length : Int),(c : Int),nI (zQ L zs).flatten,(0 : Int))) (fun k => ?_) (Ev.now _);rw [bD.l1,if_neg (by rw [jZ];omega),List.take_of_length_le (by rw [hP.len];omega)]
  | succ d ih =>
   intro i hi;have hil : i < zs.length:=by omega
   have hrow:=aFd hL hn hc (hz i hil);have hw:=hL.wid _ (hz i hil);have hfl:=MO hP (show i≤zs.length by omega);have hb : i * c≤64 * 64:=Nat.mul_le_mul (by omega) hc;have hadd : ((zQ L zs).take (i + 1)).flatten = ((zQ L zs).take i).flatten ++ L.getD (zs.getD i 0) []:=by
    rw [List.take_succ_eq_append_getElem (by rw [hP.len];exact hil),List.flatten_append,List.flatten_singleton,← SI L zs hil]
    congr 1
    rw [List.getD_eq_getElem?_getD,List.getElem?_eq_getElem (by rw [hP.len];exact hil)];rfl
   refine Ev.step (f:=fun k => (cD.f k (n : Int) (c : Int) (nI L.flatten) ((zs.getD i 0 : Nat) : Int)).bind fun aFW => (if (nI ((zQ L zs).take i).flatten).length + aFW.1.length < 140737488355328 then (bD.l1 k (nZ zs) (wrap64 ((i : Int) + 1)) (n : Int) (c : Int) (nI L.flatten) (zs.length : Int) (c : Int) (nI ((zQ L zs).take i).flatten ++ aFW.1)) else (none))) (fun k => ?_) (Ev.bind hrow ?_)
   ·rw [bD.l1,if_pos (by rw [jZ];omega),if_pos (by omega),HJ hil]
   ·have c1 : (nI ((zQ L zs).take i).flatten).length + (nI (L.getD (zs.getD i 0) [])).length < 140737488355328:=by rw [bT,bT];omega
    simp only [if_pos c1,aCY,eN (show i≤9223372036854775806 by omega),← hadd];exact ih (i + 1) (by omega)
 have hl0 : ∀ d i,i + d = zs.length→Ev (fun k => bD.l0 k (nZ zs) (i : Int) (n : Int) (c : Int) (nI L.flatten)) ((zs.length : Int),(c : Int),nI (zQ L zs).flatten,(0 : Int)):=by
  intro d
  induction d with
  | zero =>
   intro i hi;refine Ev.step (fun k => ?_) (hl1 zs.length 0 (by omega));rw [bD.l0,if_neg (by rw [jZ];omega),if_neg (by rw [jZ];omega),jZ];rfl
  | succ d ih =>
   intro i hi;have hil : i < zs.length:=by omega
   have:=hz i hil;refine Ev.step (fun k => ?_) (ih (i + 1) (by omega));rw [bD.l0,if_pos (by rw [jZ];omega),if_pos (by omega),HJ hil,if_neg (by omega),if_neg (by omega),eN (by omega)]
 exact hl0 zs.length 0 (by omega)
/-! the rows that are chosen -/
structure bHh (n : Nat) (zs : List Nat) : Prop where
 len : zs.length = n
 lt : ∀ i,i < n→zs.getD i 0 < n
 ne : ∀ i i',i < n→i' < n→i≠i'→zs.getD i 0≠zs.getD i' 0
theorem uA {α : Type} {g : Option α} {r : α} (h : g = some r) : Ev (fun _ => g) r:=⟨0,fun _ _ => h⟩
theorem lO {α : Type} {g f : Nat→Option α} {r : α} (h : ∀ k,g k = f k) (e : Ev f r) : Ev g r:=by
 rw [show g = f from funext h];exact e
end Go.Proofs.Yteofcbkjhdadpaa
namespace Go.Proofs.Yteofcbkjhdadpaa
open Go.RowKit Go.Proofs.aH.bJ Go.Proofs.Yteofcbkjhdadpaa.Pr
section
variable {r c : Nat} {xs : List UInt8}
theorem aMB (hr : r≤64) (hc : c≤64) (hx : xs.length = r * c) {j : Nat} (hj : j < c) {R : Int×Int×List Int×Int}
  (h : Ev (fun k => aW.l0 k ((j + 1 : Nat) : Int) r c (nI xs) c r (nI ((eR r c xs).take ((j + 1) * r)))) R) :
  ∀ d i,i + d = r→Ev (fun k => aW.l1 k (j : Int) (i : Int) r c (nI xs) c r (nI ((eR r c xs).take (j * r + i)))) R:=by
 have hb : c * r≤64 * 64:=Nat.mul_le_mul hc hr;have hb2 : r * c≤64 * 64:=Nat.mul_le_mul hr hc;intro d
 induction d with
 | zero =>
  intro i hi;obtain rfl : i = r:=by omega
  refine Ev.step (fun k => ?_) h;rw [aW.l1,if_neg (by omega),eN (by omega),Nat.add_mul,Nat.one_mul]
 | succ d ih =>
  intro i hi;refine Ev.step (fun k => ?_) (ih (i + 1) (by omega));have h1:=mI (show i < r by omega) hj;have h2:=mI hj (show i < r by omega);have e:=aBG (CV c xs) hj (show i < r by omega);have e2 : CV c xs j i = xs.getD (i * c + j) 0:=rfl;rw [aW.l1,if_pos (by omega),aIo (by omega) (by omega),Option.bind_some,if_pos (by rw [bT,List.length_take];omega),eN (by omega),aCX,← e2];unfold eR;rw [e];rfl
theorem aMC (hr : r≤64) (hc : c≤64) (hx : xs.length = r * c) :
  ∀ d j,j + d = c→Ev (fun k => aW.l0 k (j : Int) r c (nI xs) c r (nI ((eR r c xs).take (j * r)))) ((c : Int),(r : Int),nI (eR r c xs),0):=by
 intro d
 induction d with
 | zero =>
  intro j hj;obtain rfl : j = c:=by omega
  refine Ev.step (fun k => ?_) (Ev.now _);rw [aW.l0,if_neg (by omega),List.take_of_length_le (by rw [nC];omega)]
 | succ d ih =>
  intro j hj;have h0:=aMB hr hc hx (show j < c by omega) (ih (j + 1) (by omega)) r 0 (by omega);refine Ev.step (fun k => ?_) h0;rw [aW.l0,if_pos (by omega),Nat.add_zero];rfl
end
theorem aMA (a0 a1 : Int) (xs : List UInt8) :
  Ev (fun k => aW.f k a0 a1 (nI xs)) (if bY a0 a1 xs.length = true then (a1,a0,nI (eR a0.toNat a1.toNat xs),0) else (0,0,[],3)):=by
 unfold aW.f;simp only [sX,bT,Option.bind_some]
 by_cases h1 : bY a0 a1 xs.length = true
 ·simp only [h1,if_true]
  obtain ⟨a,b,rfl,rfl,k1,k2,k3⟩:=NB h1;have h0:=aMC k1 k2 k3 b 0 (by omega);rw [Nat.zero_mul,List.take_zero] at h0;exact h0
 ·simp only [h1,Bool.false_eq_true,if_false]
  exact Ev.now _
end Go.Proofs.Yteofcbkjhdadpaa
namespace Go.Proofs.Yteofcbkjhdadpaa
open Go.RowKit Go.Proofs.aH.bJ Go.Proofs.Yteofcbkjhdadpaa.Pr
theorem aKK {n c : Nat} {xs : List UInt8} (hn : n≤64) (hc : c≤64) (hx : xs.length = n * c) : eF.f (n : Int) (c : Int) (nI xs) = some ((n : Int),(c : Int),nI (oH n c xs).1.flatten,nZ (oH n c xs).2.2,0):=by
 unfold eF.f;rw [SN,if_pos rfl,bT,iU hn hc hx,if_pos rfl,xG,Int.toNat_natCast,Int.toNat_natCast]
theorem aGC {n c : Nat} {xs : List UInt8} (hn : n≤64) (hc : c≤64) (hx : xs.length = n * c) : Ev (fun r => aW.f r (n : Int) (c : Int) (nI xs)) ((c : Int),(n : Int),nI (eR n c xs),(0 : Int)):=by
 have h:=aMA (n : Int) (c : Int) xs;rw [iU hn hc hx,if_pos rfl,Int.toNat_natCast,Int.toNat_natCast] at h;exact h
end Go.Proofs.Yteofcbkjhdadpaa
namespace Go.Proofs.Yteofcbkjhdadpaa
open Go.RowKit Go.Proofs.aH.bJ Go.Proofs.Yteofcbkjhdadpaa.Pr
theorem aIr (xs : List UInt8) (i : Nat) : (nI xs).set i 1 = nI (xs.set i 1):=by simp [nI,List.map_set]
theorem KZ {n c : Nat} {xs : List UInt8} (hx : xs.length = n * c) : GU n c (gL (oH n c xs).1) (oH n c xs).2.2∧fC n c (oH n c xs).1:=by
 have h:=(uF n c (jW xs n c) (List.replicate n [])).toF (oF hx) (rX n);exact ⟨h.1.BI,h.2.1⟩
section
variable {n c : Nat} {xs : List UInt8} {R : List (List UInt8)} {p : List Nat} (hn : n≤64) (hc : c≤64) (hR : fC n c R) (hr : GU n c (gL R) p)
include hn hc hR hr
omit hR hr in
theorem aQj {i j : Nat} (hi : i < n) (hj : j < c) : wrap64 (wrap64 ((i : Int) * (c : Int)) + (j : Int)) = ((i * c + j : Nat) : Int):=by
 have h1 : i * c≤64 * 64:=Nat.mul_le_mul (by omega) hc;rw [w64 (e:=(i : Int) * (c : Int)) (by rw [← Int.natCast_mul];omega) (by rw [← Int.natCast_mul];omega),← Int.natCast_mul,w64 (by omega) (by omega),Int.natCast_add]
theorem IP {a j rows : Nat} (hj : j < c) {acc : List UInt8} (hacc : acc.length≤j * c) (hrows : rows≤j) {T : Int×Int×List Int×Int}
  (h : Ev (fun q => aY.l0 q (nZ p) (a : Int) ((j + 1 : Nat) : Int) (n : Int) (c : Int) (nI xs) (n : Int) (c : Int) (nI R.flatten) ((rows + 1 : Nat) : Int) (c : Int) (nI (acc ++ FZ c R p j p.length))) T) :
  ∀ d i,i + d = p.length→Ev (fun q => aY.l1 q (nZ p) (a : Int) (j : Int) (nI (FZ c R p j i)) (i : Int) (n : Int) (c : Int) (nI xs) (n : Int) (c : Int) (nI R.flatten) (rows : Int) (c : Int) (nI acc)) T:=by
 have hb : j * c≤64 * 64:=Nat.mul_le_mul (by omega) hc;intro d
 induction d with
 | zero =>
  intro i hi;obtain rfl : i = p.length:=by omega
  refine Ev.step (fun q => ?_) h;have hl:=vI c R p j p.length;rw [aY.l1,if_neg (by first | omega | (rw [jZ];omega)),if_pos (by rw [bT,bT];omega),eN (by omega),eN (by omega),aCY]
 | succ d ih =>
  intro i hi;have hip : i < p.length:=by omega
  have hin : i < n:=by have:=hr.le;omega
  have hpc:=hr.ltc i hip;refine Ev.step (fun q => ?_) (ih (i + 1) (by omega));rw [aY.l1,if_pos (by rw [jZ];omega),if_pos (by omega),uX hn (by omega) hR hin hj,Option.bind_some,HJ hip,if_pos (by omega),if_pos (by rw [bT,vI];omega),Int.toNat_natCast,JC,eN (by omega)];rfl
theorem IQ : ∀ d j a rows (acc : List UInt8),j + d = c→wK p j a→rows≤j→acc.length≤j * c →
  Ev (fun q => aY.l0 q (nZ p) (a : Int) (j : Int) (n : Int) (c : Int) (nI xs) (n : Int) (c : Int) (nI R.flatten) (rows : Int) (c : Int) (nI acc)) (((rows + (fL c R p d j a).length : Nat) : Int),(c : Int),nI (acc ++ (fL c R p d j a).flatten),(0 : Int)):=by
 intro d
 induction d with
 | zero =>
  intro j a rows acc hj ha hrows hacc;refine Ev.step (f:=fun _ => some ((rows : Int),(c : Int),nI acc,(0 : Int))) (fun q => ?_) ?_
  ·rw [aY.l0,if_neg (by omega)]
  ·simp only [fL,List.length_nil,List.flatten_nil,List.append_nil,Nat.add_zero]
   exact Ev.now _
 | succ d ih =>
  intro j a rows acc hj ha hrows hacc;have hjc : j < c:=by omega
  by_cases e : a < p.length∧p.getD a 0 = j
  ·have h1:=ih (j + 1) (a + 1) rows acc (by omega) (ha.yes hr.mono e.1 e.2) (by omega) (by rw [Nat.add_mul];omega)
   rw [fL,if_pos e];refine Ev.step (f:=fun q => aY.j1 q (nZ p) (a : Int) (j : Int) true (n : Int) (c : Int) (nI xs) (n : Int) (c : Int) (nI R.flatten) (rows : Int) (c : Int) (nI acc)) (fun q => ?_) (Ev.step (fun q => ?_) h1)
   ·rw [aY.l0,if_pos (by omega),if_pos (by rw [jZ];omega),if_pos (by omega),HJ e.1,e.2,beq_self_eq_true]
   ·rw [aY.j1,if_pos rfl,eN (by have:=hr.le;omega),eN (by omega)]
  ·have hno:=(ha.no hr.mono e).1
   have h1:=ih (j + 1) a (rows + 1) (acc ++ FZ c R p j p.length) (by omega) hno (by omega) (by rw [List.length_append,vI,Nat.add_mul];omega);rw [fL,if_neg e,List.flatten_cons,List.length_cons,← List.append_assoc,show rows + ((fL c R p d (j + 1) a).length + 1) = rows + 1 + (fL c R p d (j + 1) a).length by omega];have h2:=IP hn hc hR hr hjc hacc hrows h1 p.length 0 (by omega);have hj1 : Ev (fun q => aY.j1 q (nZ p) (a : Int) (j : Int) false (n : Int) (c : Int) (nI xs) (n : Int) (c : Int) (nI R.flatten) (rows : Int) (c : Int) (nI acc)) (((rows + 1 + (fL c R p d (j + 1) a).length : Nat) : Int),(c : Int),nI (acc ++ FZ c R p j p.length ++ (fL c R p d (j + 1) a).flatten),(0 : Int)):=by
    refine Ev.step (fun q => ?_) h2;rw [aY.j1,if_neg (by simp),if_pos (by omega),if_pos (by rw [Int.toNat_natCast];omega),Option.bind_some,if_pos (by omega),if_pos (by simp;omega),Int.toNat_natCast,Int.toNat_natCast,NG,aIr];rfl
   by_cases e1 : a < p.length
   ·refine Ev.step (fun q => ?_) hj1
    rw [aY.l0,if_pos (by omega),if_pos (by rw [jZ];omega),if_pos (by omega),HJ e1,show ((((p.getD a 0 : Nat) : Int) == (j : Int)) = false) from by
     rw [beq_eq_false_iff_ne];exact fun h => e ⟨e1,by omega⟩]
   ·refine Ev.step (fun q => ?_) hj1
    rw [aY.l0,if_pos (by omega),if_neg (by rw [jZ];omega)]
theorem VE {a j rows : Nat} (hj : j < c) {acc : List UInt8} (hacc : acc.length≤j * c) (hrows : rows≤j) {T : Int×Int×List Int×Int}
  (h : Ev (fun q => bS.l0 q (nZ p) (a : Int) (c : Int) ((j + 1 : Nat) : Int) (n : Int) (c : Int) (nI xs) (n : Int) (c : Int) (nI R.flatten) ((rows + 1 : Nat) : Int) (c : Int) (nI (acc ++ FZ c R p j p.length))) T) :
  ∀ d i,i + d = p.length→Ev (fun q => bS.l1 q (nZ p) (a : Int) (j : Int) (nI (FZ c R p j i)) (c : Int) (j : Int) (nZ p) (p.length : Int) (i : Int) (n : Int) (c : Int) (nI xs) (n : Int) (c : Int) (nI R.flatten) (rows : Int) (c : Int) (nI acc)) T:=by
 have hb : j * c≤64 * 64:=Nat.mul_le_mul (by omega) hc;intro d
 induction d with
 | zero =>
  intro i hi;obtain rfl : i = p.length:=by omega
  refine Ev.step (fun q => ?_) h;have hl:=vI c R p j p.length;rw [bS.l1,if_neg (by first | omega | (rw [jZ];omega)),if_pos (by rw [bT,bT];omega),eN (by omega),eN (by omega),aCY]
 | succ d ih =>
  intro i hi;have hip : i < p.length:=by omega
  have hin : i < n:=by have:=hr.le;omega
  have hpc:=hr.ltc i hip;refine Ev.step (fun q => ?_) (ih (i + 1) (by omega));rw [bS.l1,if_pos (by omega),if_pos (by omega),if_pos (by rw [jZ];omega),aQj hn hc hin hj,if_pos (by omega),if_pos (by rw [bT,oS hR];have:=mI hin hj;omega),HJ hip,if_pos (by omega),if_pos (by rw [bT,vI];omega),Int.toNat_natCast,YP,yQ hR hin hj,JC,eN (by omega)];rfl
theorem VF : ∀ d j a rows (acc : List UInt8),j + d = c→wK p j a→rows≤j→acc.length≤j * c →
  Ev (fun q => bS.l0 q (nZ p) (a : Int) (c : Int) (j : Int) (n : Int) (c : Int) (nI xs) (n : Int) (c : Int) (nI R.flatten) (rows : Int) (c : Int) (nI acc)) (((rows + (fL c R p d j a).length : Nat) : Int),(c : Int),nI (acc ++ (fL c R p d j a).flatten),(0 : Int)):=by
 intro d
 induction d with
 | zero =>
  intro j a rows acc hj ha hrows hacc;refine Ev.step (f:=fun _ => some ((rows : Int),(c : Int),nI acc,(0 : Int))) (fun q => ?_) ?_
  ·rw [bS.l0,if_neg (by omega)]
  ·simp only [fL,List.length_nil,List.flatten_nil,List.append_nil,Nat.add_zero]
   exact Ev.now _
 | succ d ih =>
  intro j a rows acc hj ha hrows hacc;have hjc : j < c:=by omega
  by_cases e : a < p.length∧p.getD a 0 = j
  ·have h1:=ih (j + 1) (a + 1) rows acc (by omega) (ha.yes hr.mono e.1 e.2) (by omega) (by rw [Nat.add_mul];omega)
   rw [fL,if_pos e];refine Ev.step (f:=fun q => bS.j1 q (nZ p) (a : Int) (j : Int) (c : Int) (j : Int) true (n : Int) (c : Int) (nI xs) (n : Int) (c : Int) (nI R.flatten) (rows : Int) (c : Int) (nI acc)) (fun q => ?_) (Ev.step (fun q => ?_) h1)
   ·rw [bS.l0,if_pos (by omega),if_pos (by rw [jZ];omega),if_pos (by omega),HJ e.1,e.2,beq_self_eq_true]
   ·rw [bS.j1,if_pos rfl,eN (by have:=hr.le;omega),eN (by omega)]
  ·have hno:=(ha.no hr.mono e).1
   have h1:=ih (j + 1) a (rows + 1) (acc ++ FZ c R p j p.length) (by omega) hno (by omega) (by rw [List.length_append,vI,Nat.add_mul];omega);rw [fL,if_neg e,List.flatten_cons,List.length_cons,← List.append_assoc,show rows + ((fL c R p d (j + 1) a).length + 1) = rows + 1 + (fL c R p d (j + 1) a).length by omega];have h2:=VE hn hc hR hr hjc hacc hrows h1 p.length 0 (by omega);have hj1 : Ev (fun q => bS.j1 q (nZ p) (a : Int) (j : Int) (c : Int) (j : Int) false (n : Int) (c : Int) (nI xs) (n : Int) (c : Int) (nI R.flatten) (rows : Int) (c : Int) (nI acc)) (((rows + 1 + (fL c R p d (j + 1) a).length : Nat) : Int),(c : Int),nI (acc ++ FZ c R p j p.length ++ (fL c R p d (j + 1) a).flatten),(0 : Int)):=by
    refine Ev.step (fun q => ?_) h2;rw [bS.j1,if_neg (by simp),if_pos (by omega),if_pos (by rw [Int.toNat_natCast];omega),Option.bind_some,if_pos (by omega),if_pos (by simp;omega),Int.toNat_natCast,Int.toNat_natCast,NG,aIr];rw [jZ];rfl
   by_cases e1 : a < p.length
   ·refine Ev.step (fun q => ?_) hj1
    rw [bS.l0,if_pos (by omega),if_pos (by rw [jZ];omega),if_pos (by omega),HJ e1,show ((((p.getD a 0 : Nat) : Int) == (j : Int)) = false) from by
     rw [beq_eq_false_iff_ne];exact fun h => e ⟨e1,by omega⟩]
   ·refine Ev.step (fun q => ?_) hj1
    rw [bS.l0,if_pos (by omega),if_neg (by rw [jZ];omega)]
end
def JE (n c : Nat) (xs : List UInt8) : List UInt8:=(ZA c (oH n c xs).1 (oH n c xs).2.2).flatten
theorem aHa {n c : Nat} {xs : List UInt8} (hn : n≤64) (hc : c≤64) (hx : xs.length = n * c) : lX.f (n : Int) (c : Int) (nI xs) = some ((n : Int),(c : Int),nI (oH n c xs).1.flatten,nZ (oH n c xs).2.2,0):=by
 unfold lX.f;rw [SN,if_pos rfl,bT,iU hn hc hx,if_pos rfl,xG,Int.toNat_natCast,Int.toNat_natCast]
theorem aRT (p : List Nat) : wK p 0 0:=⟨fun q h => by omega,fun q _ _ => Nat.zero_le _,Nat.zero_le _⟩
section
variable {n c : Nat} {xs : List UInt8} (hn : n≤64) (hc : c≤64) (hx : xs.length = n * c)
include hn hc hx
theorem aKO : Ev (fun q => aY.f q (n : Int) (c : Int) (nI xs)) (((c - qZ n c xs : Nat) : Int),(c : Int),nI (JE n c xs),(0 : Int)):=by
 obtain ⟨hr,hR⟩:=KZ hx;have h:=IQ (xs:=xs) hn hc hR hr c 0 0 0 [] (by omega) (aRT _) (Nat.le_refl _) (by simp);have hl:=(LD (R:=(oH n c xs).1) hr.mono hr.ltc).len;rw [Nat.zero_add,List.nil_append] at h;have e : (fL c (oH n c xs).1 (oH n c xs).2.2 c 0 0).length = c - qZ n c xs:=hl;rw [e] at h;unfold aY.f;refine Ev.bind (uA (aKK hn hc hx)) (lO (fun q => if_pos rfl) ?_);exact h
theorem aNI : Ev (fun q => bS.f q (n : Int) (c : Int) (nI xs)) (((c - qZ n c xs : Nat) : Int),(c : Int),nI (JE n c xs),(0 : Int)):=by
 obtain ⟨hr,hR⟩:=KZ hx;have h:=VF (xs:=xs) hn hc hR hr c 0 0 0 [] (by omega) (aRT _) (Nat.le_refl _) (by simp);have hl:=(LD (R:=(oH n c xs).1) hr.mono hr.ltc).len;rw [Nat.zero_add,List.nil_append] at h;have e : (fL c (oH n c xs).1 (oH n c xs).2.2 c 0 0).length = c - qZ n c xs:=hl;rw [e] at h;unfold bS.f;refine Ev.bind (uA (aHa hn hc hx)) (lO (fun q => if_pos rfl) ?_);exact h
end
/-! Check -/
def sT (a0 a1 : Int) (xs : List UInt8) : Int×Int×List Int×Int :=
 if pC a0 a1 xs.length = true then (if qZ a0.toNat a1.toNat xs < a1.toNat then (0,0,[],6) else (a0 - a1,a0,nI (JE a1.toNat a0.toNat (eR a0.toNat a1.toNat xs)),0)) else (0,0,[],3)
theorem aKb {n k : Nat} {xs : List UInt8} (hn : n≤64) (hk : k≤n) (hx : xs.length = n * k) : pC (n : Int) (k : Int) xs.length = true:=by
 unfold pC;rw [iU hn (show k≤64 by omega) hx,Bool.true_and,decide_eq_true_eq];omega
theorem aNH (a0 a1 : Int) (l : List Int) : nH.f a0 a1 l = some (bY a0 a1 l.length):=by
 unfold nH.f;rw [aEp,Option.bind_some]
 by_cases h0 : 0≤a0∧a0≤64
 ·rw [decide_eq_true h0,if_pos rfl,aEp,Option.bind_some]
  by_cases h1 : 0≤a1∧a1≤64
  ·rw [decide_eq_true h1,if_pos rfl]
   unfold bY;obtain ⟨a,rfl⟩ : ∃ a : Nat,a0 = a:=⟨a0.toNat,by omega⟩
   obtain ⟨b,rfl⟩ : ∃ b : Nat,a1 = b:=⟨a1.toNat,by omega⟩
   have hb : a * b≤64 * 64:=Nat.mul_le_mul (by omega) (by omega);rw [w64 (by rw [← Int.natCast_mul];omega) (by rw [← Int.natCast_mul];omega)]
   congr 1
   by_cases e : (l.length : Int) = (a : Int) * (b : Int)
   ·rw [show ((l.length : Int) == (a : Int) * (b : Int)) = true from by rw [e,beq_self_eq_true]]
    exact (decide_eq_true ⟨h0,h1,e⟩).symm
   ·rw [show ((l.length : Int) == (a : Int) * (b : Int)) = false from by rw [beq_eq_false_iff_ne];exact e]
    exact (decide_eq_false (fun h => e h.2.2)).symm
  ·rw [decide_eq_false h1,if_neg (by simp)]
   unfold bY
   congr 1
   exact (decide_eq_false (fun h => h1 h.2.1)).symm
 ·rw [decide_eq_false h0,if_neg (by simp)]
  unfold bY
  congr 1
  exact (decide_eq_false (fun h => h0 h.1)).symm
theorem aUD (a0 a1 : Int) (l : List Int) : mJ.f a0 a1 l = some (pC a0 a1 l.length):=by
 unfold mJ.f;rw [aNH,Option.bind_some];unfold pC
 by_cases h : bY a0 a1 l.length = true
 ·rw [h,if_pos rfl,Bool.true_and]
 ·rw [if_neg h,Bool.eq_false_iff.2 h,Bool.false_and]
theorem aNG (a0 a1 : Int) (xs : List UInt8) : eV.f a0 a1 (nI xs) = some (if bY a0 a1 xs.length = true then (a1,a0,nI (eR a0.toNat a1.toNat xs),0) else (0,0,[],3)):=by
 unfold eV.f;rw [SN,bT,xG];simp only [if_true]
 split <;> rfl
theorem KU {n k : Nat} {xs : List UInt8} (hk : k≤n) (hx : xs.length = n * k) (h : qZ n k xs = k) : qZ k n (eR n k xs) = k:=by
 refine aBr (nC n k xs) fun z hz => ?_
 obtain ⟨L',A',hF⟩:=YN hx;refine hF.aBs.1 h z fun i hi => ?_
 rw [← hz i hi];refine eQ fun j hj => ?_
 rw [PK hx hi hj,Gf.mul_comm];unfold eR;rw [EM _ hj hi];rfl
theorem aCR {n k : Nat} {xs : List UInt8} (hx : xs.length = n * k) : qZ n k xs≤k:=by
 obtain ⟨L',A',hF⟩:=YN hx;exact hF.BI.aIu
theorem aRl {n c : Nat} {xs : List UInt8} (hn : n≤64) (hc : c≤64) (hx : xs.length = n * c) : kI.f (n : Int) (c : Int) (nI xs) = some ((qZ n c xs : Int),0):=by
 unfold kI.f;rw [SN,if_pos rfl,bT,iU hn hc hx,if_pos rfl,xG,Int.toNat_natCast,Int.toNat_natCast];rfl
theorem NW {n k : Nat} {xs : List UInt8} (hn : n≤64) (hk : k≤n) (hx : xs.length = n * k) (hr : qZ n k xs = k) : sT (n : Int) (k : Int) xs = (((n - k : Nat) : Int),(n : Int),nI (JE k n (eR n k xs)),(0 : Int)):=by
 unfold sT;rw [aKb hn hk hx,if_pos rfl,Int.toNat_natCast,Int.toNat_natCast,hr,if_neg (by omega),Int.natCast_sub hk]
theorem aRm (a0 a1 : Int) (xs : List UInt8) : Ev (fun q => pG.f q a0 a1 (nI xs)) (sT a0 a1 xs):=by
 unfold pG.f;refine Ev.bind (uA (aUD a0 a1 (nI xs))) ?_;rw [bT]
 by_cases hm : pC a0 a1 xs.length = true
 ·obtain ⟨n,k,rfl,rfl,hn,hk,hx⟩:=PB hm
  refine lO (fun q => if_pos hm) (Ev.bind (uA (aRl hn (show k≤64 by omega) hx)) (lO (fun q => if_pos rfl) ?_))
  by_cases hr : qZ n k xs = k
  ·rw [NW hn hk hx hr]
   have ht : eV.f (n : Int) (k : Int) (nI xs) = some ((k : Int),(n : Int),nI (eR n k xs),0):=by
    rw [aNG,iU hn (show k≤64 by omega) hx,if_pos rfl,Int.toNat_natCast,Int.toNat_natCast]
   have hke:=aNI (show k≤64 by omega) hn (nC n k xs);rw [KU hk hx hr] at hke;refine lO (fun q => if_neg (by rw [hr];exact Int.lt_irrefl _)) (Ev.bind (uA ht) (lO (fun q => if_pos rfl) (Ev.bind hke (Ev.now _))))
  ·have hlt : qZ n k xs < k:=by have:=aCR hx;omega
   have hv : sT (n : Int) (k : Int) xs = (0,0,[],6):=by
    unfold sT;rw [hm,if_pos rfl,Int.toNat_natCast,Int.toNat_natCast,if_pos hlt]
   rw [hv];exact lO (fun q => if_pos (by show ((qZ n k xs : Nat) : Int) < (k : Int);omega)) (Ev.now _)
 ·have hv : sT a0 a1 xs = (0,0,[],3):=by unfold sT;rw [if_neg hm]
  rw [hv];exact lO (fun q => if_neg hm) (Ev.now _)
theorem aMF (a0 a1 : Int) (xs : List UInt8) : Ev (fun q => cN.f q a0 a1 (nI xs)) (sT a0 a1 xs):=by
 have hno : pC a0 a1 xs.length≠true→sT a0 a1 xs = (0,0,[],3):=fun hm => by unfold sT;rw [if_neg hm]
 have hj3 : Ev (fun q => cN.j0 q true a0 a1 (nI xs)) ((0 : Int),(0 : Int),([] : List Int),(3 : Int)):=Ev.step (f:=fun _ => some ((0 : Int),(0 : Int),([] : List Int),(3 : Int))) (fun q => by rw [cN.j0,if_pos rfl]) (Ev.now _);unfold cN.f;have hR : bA.f a0 a1 (nI xs) = some (bY a0 a1 xs.length):=by rw [sX,bT]
 refine Ev.bind (uA hR) ?_
 by_cases h1 : bY a0 a1 xs.length = true
 ·refine lO (fun q => if_pos h1) ?_
  by_cases h2 : a0 < a1
  ·rw [decide_eq_true h2,hno (by unfold pC;rw [h1,Bool.true_and,ne_eq,decide_eq_true_eq];omega)]
   exact hj3
  ·rw [decide_eq_false h2]
   have hm : pC a0 a1 xs.length = true:=by unfold pC;rw [h1,Bool.true_and,decide_eq_true_eq];omega
   obtain ⟨n,k,rfl,rfl,hn,hk,hx⟩:=PB hm;have hk6 : k≤64:=by omega
   refine Ev.step (f:=fun r => (dZ.f (n : Int) (k : Int) (nI xs)).bind fun aFV => (if aFV.1 < (k : Int) then (some (0,0,([] : List Int),6)) else ((aW.f r (n : Int) (k : Int) (nI xs)).bind fun BX => ((aY.f r BX.1 BX.2.1 BX.2.2.1).bind fun qP => (some (qP.1,qP.2.1,qP.2.2.1,qP.2.2.2)))))) (fun q => by rw [cN.j0,if_neg (by simp)]) ?_;refine Ev.bind (uA (aIn hn hk6 hx)) ?_
   by_cases hr : qZ n k xs = k
   ·rw [NW hn hk hx hr]
    have hke:=aKO hk6 hn (nC n k xs);rw [KU hk hx hr] at hke;exact lO (fun q => if_neg (by rw [hr];exact Int.lt_irrefl _)) (Ev.bind (aGC hn hk6 hx) (Ev.bind hke (Ev.now _)))
   ·have hlt : qZ n k xs < k:=by have:=aCR hx;omega
    have hv : sT (n : Int) (k : Int) xs = (0,0,[],6):=by
     unfold sT;rw [hm,if_pos rfl,Int.toNat_natCast,Int.toNat_natCast,if_pos hlt]
    rw [hv];exact lO (fun q => if_pos (by show ((qZ n k xs : Nat) : Int) < (k : Int);omega)) (Ev.now _)
 ·rw [hno (by unfold pC;rw [Bool.eq_false_iff.2 h1];simp)]
  exact lO (fun q => if_neg h1) hj3
end Go.Proofs.Yteofcbkjhdadpaa
namespace Go.Proofs.Yteofcbkjhdadpaa
open Go.RowKit Go.Proofs.aH.bJ Go.Proofs.Yteofcbkjhdadpaa.Pr
theorem aRk (a : UInt8) : iQ.f (a.toNat : Int) = some (((Gf.inv a).toNat : Int),Gf.QB a):=by
 unfold iQ.f;rw [AX,KV];rfl
theorem SO {n c : Nat} {L : List (List UInt8)} (h : fC n c L) {i j : Nat} (hi : i < n) (hj : j < c) (y : UInt8) : (nI L.flatten).set (i * c + j) (y.toNat : Int) = nI (L.set i ((L.getD i []).set j y)).flatten:=by rw [JC,aFE h hi hj]
def NI (a b : List UInt8) (l : Nat) : List UInt8:=a.take l ++ b.drop l
theorem aFl {a b : List UInt8} {c l : Nat} (h1 : a.length = c) (h2 : b.length = c) (hl : l≤c) : (NI a b l).length = c:=by
 unfold NI;rw [List.length_append,List.length_take,List.length_drop];omega
theorem aBx (a b : List UInt8) : NI a b 0 = b:=by simp [NI]
theorem aFm {a b : List UInt8} {c : Nat} (h1 : a.length = c) (h2 : b.length = c) : NI a b c = a:=by
 unfold NI;rw [List.take_of_length_le (by omega),List.drop_eq_nil_of_le (by omega),List.append_nil]
theorem aCZ {a b : List UInt8} {c l : Nat} (h1 : a.length = c) (h2 : b.length = c) (hl : l < c) : (NI a b l).getD l 0 = b.getD l 0:=by
 unfold NI;rw [List.getD_eq_getElem?_getD,List.getElem?_append_right (by rw [List.length_take];omega),List.length_take,Nat.min_eq_left (by omega),Nat.sub_self,List.getElem?_drop,Nat.add_zero,← List.getD_eq_getElem?_getD]
theorem YV {a b : List UInt8} {c l : Nat} (h1 : a.length = c) (h2 : b.length = c) (hl : l < c) : (NI a b l).set l (a.getD l 0) = NI a b (l + 1):=by
 unfold NI;rw [List.set_append_right _ _ (by rw [List.length_take];omega),List.length_take,Nat.min_eq_left (by omega),Nat.sub_self,List.drop_eq_getElem_cons (by omega : l < b.length),cS,List.take_succ_eq_append_getElem (by omega),List.append_assoc,List.getD_eq_getElem?_getD,List.getElem?_eq_getElem (by omega)];rfl
def zO (L : List (List UInt8)) (i top : Nat) (d : UInt8) (l : Nat) : List (List UInt8):=(L.set i (NI (L.getD top []) (L.getD i []) l)).set top (NI ((L.getD i []).map (Gf.mul d)) (L.getD top []) l)
section
variable {n c i top l : Nat} {L : List (List UInt8)} {d : UInt8}
theorem FU (h : fC n c L) (hi : i < n) (ht : top < n) (hl : l≤c) : fC n c (zO L i top d l) :=
 (h.set hi (aFl (h.wid top ht) (h.wid i hi) hl)).set ht (aFl (by rw [List.length_map];exact h.wid i hi) (h.wid top ht) hl)
theorem xD (h : fC n c L) (hi : i < n) (ht : top < n) (k : Nat) : (zO L i top d l).getD k [] = if k = top then NI ((L.getD i []).map (Gf.mul d)) (L.getD top []) l else if k = i then NI (L.getD top []) (L.getD i []) l else L.getD k []:=by
 unfold zO;rw [gE (by rw [List.length_set,h.len];exact ht),gE (by rw [h.len];exact hi)]
theorem aGF (h : fC n c L) (hi : i < n) (ht : top < n) : zO L i top d 0 = L:=by
 refine yX (FU h hi ht (Nat.zero_le _)).len h.len fun k hk => ?_
 rw [xD h hi ht,aBx,aBx]
 split
 ·next e => rw [e]
 ·split
  ·next e => rw [e]
  ·rfl
theorem aKt (h : fC n c L) (hi : i < n) (ht : top < n) : zO L i top d c = rU L i top d:=by
 unfold zO rU;rw [aFm (h.wid top ht) (h.wid i hi),aFm (by rw [List.length_map];exact h.wid i hi) (h.wid top ht)]
theorem aGG (h : fC n c L) (hi : i < n) (ht : top < n) (hl : l < c) :
  ((zO L i top d l).set i (((zO L i top d l).getD i []).set l ((L.getD top []).getD l 0))).set top ((((zO L i top d l).set i (((zO L i top d l).getD i []).set l ((L.getD top []).getD l 0))).getD top []).set l (Gf.mul d ((L.getD i []).getD l 0))) = zO L i top d (l + 1):=by
 have r:=FU (d:=d) h hi ht (Nat.le_of_lt hl);have wi:=h.wid i hi;have wt:=h.wid top ht;have wm : ((L.getD i []).map (Gf.mul d)).length = c:=by rw [List.length_map];exact wi
 have em : ((L.getD i []).map (Gf.mul d)).getD l 0 = Gf.mul d ((L.getD i []).getD l 0):=PW d _ l;refine yX (by simp [r.len]) (FU h hi ht hl).len fun k hk => ?_
 rw [gE (by rw [List.length_set,r.len];exact ht),gE (by rw [r.len];exact hi),gE (by rw [r.len];exact hi),xD h hi ht,xD h hi ht,xD h hi ht,xD h hi ht]
 by_cases h1 : k = top
 ·rw [if_pos h1,if_pos h1]
  by_cases h2 : top = i
  ·subst h2
   rw [if_pos rfl,if_pos rfl,List.set_set,← em,YV wm wt hl]
  ·rw [if_neg h2,if_pos rfl,← em,YV wm wt hl]
 ·rw [if_neg h1,if_neg h1,if_neg h1]
  by_cases h2 : k = i
  ·rw [if_pos h2,if_pos h2,← h2,if_neg h1,if_pos rfl,h2,YV wt wi hl]
  ·rw [if_neg h2,if_neg h2,if_neg h2]
end
section
variable {n c : Nat} (hn : n≤64) (hc : c≤65)
include hn hc
theorem aGW {piv : List Int} {j top k : Nat} {S E : List (List UInt8)} {r : Int×Int×List Int×List Int} (hS : fC n c S) (hE : fC n c E) (ht : top < n) (hk : k < n) (hkt : k≠top) (y : UInt8) (row : List UInt8) (hrow : row.length = c) (hT : E.getD top [] = S.getD top [])
  (hr : Ev (fun q => aM.l3 q piv (j : Int) (top : Int) ((k + 1 : Nat) : Int) (n : Int) (c : Int) (nI (E.set k (Gf.sY row y (S.getD top []))).flatten)) r) :
  ∀ d l,l + d = c→Ev (fun q => aM.l4 q piv (j : Int) (top : Int) (k : Int) (y.toNat : Int) (l : Int) (n : Int) (c : Int) (nI (E.set k (oK row (S.getD top []) y l)).flatten)) r:=by
 have hTl : (S.getD top []).length = c:=hS.wid top ht;intro d
 induction d with
 | zero =>
  intro l hl;obtain rfl : l = c:=by omega
  refine Ev.step (f:=fun q => aM.j5 q piv (j : Int) (top : Int) (k : Int) (y.toNat : Int) (l : Int) false (n : Int) (l : Int) (nI (E.set k (oK row (S.getD top []) y l)).flatten)) (fun q => ?_) (Ev.step (fun q => ?_) hr)
  ·rw [aM.l4,if_neg (by omega)]
  ·rw [aM.j5,if_neg (by simp),eN (by omega),aBt hrow hTl]
 | succ d ih =>
  intro l hl;have hlc : l < c:=by omega
  have hEs : fC n c (E.set k (oK row (S.getD top []) y l)):=hE.set hk (SJ hrow hTl (by omega));obtain ⟨b1,b2,b3⟩:=VP hn hc hk hlc;have hfl:=oS hEs;refine Ev.step (f:=fun q => aM.j5 q piv (j : Int) (top : Int) (k : Int) (y.toNat : Int) (l : Int) true (n : Int) (c : Int) (nI (E.set k (oK row (S.getD top []) y l)).flatten)) (fun q => ?_) (Ev.step (fun q => ?_) (ih (l + 1) (by omega)))
  ·rw [aM.l4,if_pos (by omega),show ((k : Int) != (top : Int)) = true by rw [bne_iff_ne];omega]
  ·have e1 : (E.set k (oK row (S.getD top []) y l)).flatten.getD (k * c + l) 0 = row.getD l 0:=by
    rw [yQ hEs hk hlc];unfold gL;rw [gE (by rw [hE.len];exact hk),if_pos rfl,aFf hrow hTl hlc]
   have e2 : gL (E.set k (oK row (S.getD top []) y l)) top l = (S.getD top []).getD l 0:=by
    unfold gL;rw [gE (by rw [hE.len];exact hk),if_neg (fun e => hkt e.symm),hT]
   rw [aM.j5,if_pos rfl,AU b2,if_pos (by omega),if_pos (by rw [bT,hfl];omega),uX hn hc hEs ht hlc,Option.bind_some,aCT,Option.bind_some,YP,e1,e2,GS,Int.toNat_natCast,SO hEs hk hlc,gE (by rw [hE.len];exact hk),if_pos rfl,List.set_set,YS hrow hTl hlc,eN (by omega)]
theorem aGX {piv : List Int} {j top : Nat} {S : List (List UInt8)} {r : Int×Int×List Int×List Int} (hS : fC n c S) (ht : top < n) (hj : j < c) (hp : piv.length < 17592186044416)
  (hr : Ev (fun q => aM.l0 q (piv ++ [(j : Int)]) ((j + 1 : Nat) : Int) (n : Int) (c : Int) (nI (eZ top j n S).flatten)) r) :
  ∀ d k,k + d = n→Ev (fun q => aM.l3 q piv (j : Int) (top : Int) (k : Int) (n : Int) (c : Int) (nI (eZ top j k S).flatten)) r:=by
 intro d
 induction d with
 | zero =>
  intro k hk;obtain rfl : k = n:=by omega
  refine Ev.step (fun q => ?_) hr;rw [aM.l3,if_neg (by omega),if_pos hp,eN (by omega)]
 | succ d ih =>
  intro k hk;have hkn : k < n:=by omega
  have rE:=uG hS ht k (by omega) (j:=j);have hrow : (eZ top j k S).getD k [] = S.getD k []:=by rw [rE.2,if_neg (by omega)]
  have hyk : gL (eZ top j k S) k j = gL S k j:=by unfold gL;rw [hrow]
  have hT : (eZ top j k S).getD top [] = S.getD top []:=by rw [rE.2,if_neg (by simp)]
  by_cases hkt : k = top
  ·refine Ev.step (f:=fun q => aM.l4 q piv (j : Int) (top : Int) (k : Int) ((gL S k j).toNat : Int) ((0 : Nat) : Int) (n : Int) (c : Int) (nI (eZ top j k S).flatten)) (fun q => ?_) (Ev.step (f:=fun q => aM.j5 q piv (j : Int) (top : Int) (k : Int) ((gL S k j).toNat : Int) ((0 : Nat) : Int) false (n : Int) (c : Int) (nI (eZ top j k S).flatten)) (fun q => ?_) (Ev.step (fun q => ?_) (ih (k + 1) (by omega))))
   ·rw [aM.l3,if_pos (by omega),uX hn hc rE.1 hkn hj,hyk]
    rfl
   ·rw [aM.l4,if_pos (by omega),hkt]
    simp
   ·rw [aM.j5,if_neg (by simp),eN (by omega)]
    have e : eZ top j (k + 1) S = eZ top j k S:=by rw [hkt];exact aBP
    rw [e]
  ·have e0 : (eZ top j k S).set k (oK (S.getD k []) (S.getD top []) (gL S k j) 0) = eZ top j k S:=by
    rw [YR];refine yX (by rw [List.length_set];exact rE.1.len) rE.1.len fun p hp2 => ?_
    rw [gE (by rw [rE.1.len];exact hkn)]
    split
    ·next e => rw [e];exact hrow.symm
    ·rfl
   have h4:=aGW hn hc hS rE.1 ht hkn hkt (gL S k j) (S.getD k []) (hS.wid k hkn) hT (piv:=piv) (j:=j) (r:=r) (by rw [aBQ hS ht hkn hkt];exact ih (k + 1) (by omega)) c 0 (by omega);rw [e0] at h4;refine Ev.step (fun q => ?_) h4;rw [aM.l3,if_pos (by omega),uX hn hc rE.1 hkn hj,hyk];rfl
theorem aGY {piv : List Int} {j i top : Nat} {L : List (List UInt8)} {d : UInt8} {r : Int×Int×List Int×List Int} (h : fC n c L) (hi : i < n) (ht : top < n)
  (hr : Ev (fun q => aM.l3 q piv (j : Int) (top : Int) ((0 : Nat) : Int) (n : Int) (c : Int) (nI (rU L i top d).flatten)) r) :
  ∀ e l,l + e = c→Ev (fun q => aM.l2 q piv (j : Int) (top : Int) (i : Int) (d.toNat : Int) (l : Int) (n : Int) (c : Int) (nI (zO L i top d l).flatten)) r:=by
 intro e
 induction e with
 | zero =>
  intro l hl;obtain rfl : l = c:=by omega
  refine Ev.step (fun q => ?_) hr;rw [aM.l2,if_neg (by omega),aKt h hi ht];rfl
 | succ e ih =>
  intro l hl;have hlc : l < c:=by omega
  have hs:=FU (d:=d) h hi ht (l:=l) (by omega);have wi:=h.wid i hi;have wt:=h.wid top ht;have wm : ((L.getD i []).map (Gf.mul d)).length = c:=by rw [List.length_map];exact wi
  obtain ⟨b1,b2,b3⟩:=VP hn hc hi hlc;obtain ⟨b4,b5,_⟩:=VP hn hc ht hlc;have e1 : gL (zO L i top d l) top l = (L.getD top []).getD l 0:=by
   unfold gL;rw [xD h hi ht,if_pos rfl,aCZ wm wt hlc]
  have e2 : gL (zO L i top d l) i l = (L.getD i []).getD l 0:=by
   unfold gL;rw [xD h hi ht]
   by_cases h2 : i = top
   ·rw [if_pos h2,aCZ wm wt hlc,h2]
   ·rw [if_neg h2,if_pos rfl,aCZ wt wi hlc]
  have hs2 : fC n c ((zO L i top d l).set i (((zO L i top d l).getD i []).set l ((L.getD top []).getD l 0))):=hs.set hi (by rw [List.length_set];exact hs.wid i hi);refine Ev.step (fun q => ?_) (ih (l + 1) (by omega));rw [aM.l2,if_pos (by omega),uX hn hc hs ht hlc,Option.bind_some,uX hn hc hs hi hlc,Option.bind_some,e1,e2,AU b2,if_pos (by omega),if_pos (by rw [bT,oS hs];omega),aCT,Option.bind_some,AU b5,if_pos (by omega),if_pos (by rw [bT,oS hs];omega),Int.toNat_natCast,Int.toNat_natCast,SO hs hi hlc,SO hs2 ht hlc,aGG h hi ht hlc,eN (by omega)]
theorem aGZ {piv : List Nat} {j : Nat} {L A : List (List UInt8)} {r : Int×Int×List Int×List Int} (h : fC n c L) (hj : j < c) (ht : piv.length≤n)
  (h0 : IC L j (n - piv.length) piv.length = none→Ev (fun q => aM.l0 q (nZ piv) ((j + 1 : Nat) : Int) (n : Int) (c : Int) (nI L.flatten)) r)
  (h1 : ∀ i,IC L j (n - piv.length) piv.length = some i→Ev (fun q => aM.l2 q (nZ piv) (j : Int) (piv.length : Int) (i : Int) ((Gf.inv (gL L i j)).toNat : Int) ((0 : Nat) : Int) (n : Int) (c : Int) (nI L.flatten)) r) :
  ∀ f i,i + f = n→piv.length≤i→(IC L j (n - piv.length) piv.length = IC L j f i)→Ev (fun q => aM.l1 q (nZ piv) (j : Int) (piv.length : Int) (i : Int) (n : Int) (c : Int) (nI L.flatten)) r:=by
 intro f
 induction f with
 | zero =>
  intro i hi hp he;refine Ev.step (fun q => ?_) (h0 (by rw [he];rfl));rw [aM.l1,if_neg (by omega),eN (by omega)]
 | succ f ih =>
  intro i hi hp he
  by_cases hz : gL L i j = 0
  ·refine Ev.step (fun q => ?_) (ih (i + 1) (by omega) (by omega) (by rw [he,IC,if_neg (fun h => h hz)]))
   rw [aM.l1,if_pos (by omega),uX hn hc h (by omega) hj,Option.bind_some,hz,if_pos (by rfl),eN (by omega)]
  ·refine Ev.step (fun q => ?_) (h1 i (by rw [he,IC,if_pos hz]))
   rw [aM.l1,if_pos (by omega),uX hn hc h (by omega) hj,Option.bind_some,if_neg (fun e => hz (UInt8.toNat_inj.1 (by simpa using e))),aRk,Option.bind_some];rfl
theorem ND : ∀ (f j : Nat) (L A : List (List UInt8)) (piv : List Nat),j + f = c→fC n c L→fC n 0 A→piv.length≤n→piv.length≤j →
  Ev (fun q => aM.l0 q (nZ piv) (j : Int) (n : Int) (c : Int) (nI L.flatten)) ((n : Int),(c : Int),nI (NC n c f piv.length j L A piv).1.flatten,nZ (NC n c f piv.length j L A piv).2.2)
 | 0,j,L,A,piv,hj,h,hA,ht,hpj => by
  refine Ev.step (fun q => ?_) (Ev.now _);rw [aM.l0,if_neg (by omega)];rfl
 | f + 1,j,L,A,piv,hj,h,hA,ht,hpj => by
  have hjc : j < c:=by omega
  have hl1:=aGZ hn hc (piv:=piv) (A:=A) (r:=((n : Int),(c : Int),nI (NC n c (f + 1) piv.length j L A piv).1.flatten,nZ (NC n c (f + 1) piv.length j L A piv).2.2)) h hjc ht
   (fun hf => by
    rw [NC,hf];exact ND f (j + 1) L A piv (by omega) h hA ht (by omega))
   (fun i hf => by
    obtain ⟨q1,q2,q3,q4⟩:=NQ hf;have hi : i < n:=by omega
    have htn : piv.length < n:=by omega
    have hS:=xE h hi htn (Gf.inv (gL L i j));have hSA:=xE hA hi htn (Gf.inv (gL L i j));have hEr:=(uG hS htn n (Nat.le_refl _) (j:=j)).1;have hEA:=(xH hS hSA htn n (Nat.le_refl _) (j:=j)).1;have h0:=ND f (j + 1) (eZ piv.length j n (rU L i piv.length (Gf.inv (gL L i j)))) (nR piv.length j (rU L i piv.length (Gf.inv (gL L i j))) n (rU A i piv.length (Gf.inv (gL L i j)))) (piv ++ [j]) (by omega) hEr hEA (by rw [List.length_append];simp;omega) (by rw [List.length_append];simp;omega);have e : NC n c (f + 1) piv.length j L A piv = NC n c f (piv ++ [j]).length (j + 1) (eZ piv.length j n (rU L i piv.length (Gf.inv (gL L i j)))) (nR piv.length j (rU L i piv.length (Gf.inv (gL L i j))) n (rU A i piv.length (Gf.inv (gL L i j)))) (piv ++ [j]):=by
     rw [NC,hf,List.length_append];rfl
    rw [← e] at h0;have e2 : nZ (piv ++ [j]) = nZ piv ++ [(j : Int)]:=by simp [nZ]
    rw [e2] at h0;have h3:=aGX hn hc hS htn hjc (by rw [jZ];omega) h0 n 0 (by omega);have h2:=aGY hn hc h hi htn h3 c 0 (by omega);rw [aGF h hi htn] at h2;exact h2)
   (n - piv.length) piv.length (by omega) (Nat.le_refl _) rfl
  refine Ev.step (fun q => ?_) hl1;rw [aM.l0,if_pos (by omega),jZ]
theorem aPQ {L : List (List UInt8)} (h : fC n c L) : Ev (fun q => aM.f q (n : Int) (c : Int) (nI L.flatten)) ((n : Int),(c : Int),nI (kA n c L (List.replicate n [])).1.flatten,nZ (kA n c L (List.replicate n [])).2.2):=by
 have h0:=ND hn hc c 0 L (List.replicate n []) [] (by omega) h (rX n) (Nat.zero_le _) (Nat.zero_le _);exact h0
end
end Go.Proofs.Yteofcbkjhdadpaa
namespace Go.Proofs.Yteofcbkjhdadpaa
open Go.RowKit Go.Proofs.aH.bJ Go.Proofs.Yteofcbkjhdadpaa.Pr
/-! Apply -/
def VI (n k : Nat) (xs ys : List UInt8) : List UInt8:=aAW n k 1 xs ys
theorem aAe (n k : Nat) (xs ys : List UInt8) : (VI n k xs ys).length = n:=by
 have:=lZ n 1 (NH k 1 xs ys);unfold VI aAW;omega
theorem aJI {n k i : Nat} (xs ys : List UInt8) (hi : i < n) : (VI n k xs ys).getD i 0 = qX (fun t => Gf.mul (xs.getD (i * k + t) 0) (ys.getD t 0)) k:=by
 have h:=EM (NH k 1 xs ys) hi (show 0 < 1 by omega);rw [Nat.mul_one,Nat.add_zero] at h;unfold VI aAW;rw [h];unfold NH;rw [aEW];exact eQ fun t ht => by rw [Nat.mul_one,Nat.add_zero]
theorem SE {n k : Nat} {xs ys : List UInt8} (hn : n≤64) (hk : k≤64) (hx : xs.length = n * k) (hy : ys.length = k) : Ev (fun r => dR.f r (n : Int) (k : Int) (nI xs) (nI ys)) (nI (VI n k xs ys),(0 : Int)):=by
 unfold dR.f;have hr : bA.f (n : Int) (k : Int) (nI xs) = some true:=by rw [sX,bT,iU hn hk hx]
 refine Ev.bind (uA hr) (lO (fun r => if_pos rfl) (lO (fun r => if_pos (by rw [bT,hy])) ?_));have hm : vH (n : Int) (k : Int) xs.length (k : Int) 1 ys.length = true:=by
  unfold vH;rw [iU hn hk hx,hy]
  simp [bY]
  omega
 have h:=aUj (n : Int) (k : Int) (k : Int) 1 xs ys;rw [if_pos hm] at h;exact Ev.bind h (Ev.now _)
/-! First -/
theorem aPA (xs : List UInt8) {m i : Nat} (h : i < m) : (xs.take m).getD i 0 = xs.getD i 0:=by
 rw [List.getD_eq_getElem?_getD,List.getElem?_take_of_lt h,← List.getD_eq_getElem?_getD]
theorem aGU (i : Nat) : nZ (List.range i) ++ [(i : Int)] = nZ (List.range (i + 1)):=by simp [nZ,List.range_succ]
section
variable {k n : Nat} {X : List UInt8} (hk : k≤64) (hn : n≤64) (hX : X.length = k * n) (hind : ∀ z : Nat→UInt8,(∀ j,j < n→qX (fun i => Gf.mul (z i) (X.getD (i * n + j) 0)) k = 0) → ∀ i,i < k→z i = 0)
include hk hn hX hind
omit hk hn in
theorem aKJ {m : Nat} (hm : m≤k) : qZ m n (X.take (m * n)) = m:=by
 have hle:=Nat.mul_le_mul_right n hm;have hl : (X.take (m * n)).length = m * n:=by rw [List.length_take,hX];omega
 refine aBr hl fun z hz i hi => ?_
 have h:=hind (fun t => if t < m then z t else 0) (fun j hj => ?_) i (by omega)
 ·rw [if_pos hi] at h
  exact h
 ·rw [aMr hm (fun t h1 h2 => by rw [if_neg (by omega),Gf.eS])]
  refine Eq.trans (eQ fun t ht => ?_) (hz j hj);have hp:=mI ht hj;rw [if_pos ht,aPA X hp]
theorem aME : Ev (fun q => bN.f q (k : Int) (n : Int) (nI X)) (nZ (List.range k),(0 : Int)):=by
 have hl : ∀ d i,i + d = k→Ev (fun q => bN.l0 q (nZ (List.range i)) (i : Int) (i : Int) (k : Int) (n : Int) (nI X)) (nZ (List.range k),(0 : Int)):=by
  intro d
  induction d with
  | zero =>
   intro i hi;obtain rfl : i = k:=by omega
   exact Ev.step (f:=fun _ => some (nZ (List.range i),(0 : Int))) (fun q => by rw [bN.l0,if_neg (by omega)]) (Ev.now _)
  | succ d ih =>
   intro i hi;have hb : (i + 1) * n≤64 * 64:=Nat.mul_le_mul (by omega) hn;have hle:=Nat.mul_le_mul_right n (show i + 1≤k by omega);have e1 : wrap64 (((i + 1 : Nat) : Int) * (n : Int)) = (((i + 1) * n : Nat) : Int):=by
    rw [← Int.natCast_mul];exact w64 (by omega) (by omega)
   have hl : (X.take ((i + 1) * n)).length = (i + 1) * n:=by rw [List.length_take,hX];omega
   refine Ev.step (fun q => ?_) (ih (i + 1) (by omega));rw [bN.l0,if_pos (by omega),eN (by omega),e1,if_pos (by omega),if_pos (by rw [bT,hX];omega),Int.toNat_natCast,aPY,aIn (by omega) hn hl,Option.bind_some,aKJ hX hind (show i + 1≤k by omega),if_pos (by omega),if_pos (by rw [jZ,List.length_range];omega),aGU]
 unfold bN.f;have hr : bA.f (k : Int) (n : Int) (nI X) = some true:=by rw [sX,bT,iU hk hn hX]
 exact Ev.bind (uA hr) (lO (fun q => if_pos rfl) (hl k 0 (by omega)))
end
/-! Solve -/
section
variable {n c : Nat} {L : List (List UInt8)} {b : List UInt8} (hn : n≤64) (hc : c≤64) (hL : fC n c L) (hb : b.length = n)
include hn hc hL hb
omit hn hc in
theorem XW : fC n (c + 1) (kA n (c + 1) (mW L (nS b)) (List.replicate n [])).1:=((uF n (c + 1) (mW L (nS b)) (List.replicate n [])).toF (SU hL (AW hb)) (rX n)).2.1
omit hn hc in
theorem aCv : ∃ A A',sA n (c + 1) 0 0 (gL (mW L (nS b))) A [] (gL (kA n (c + 1) (mW L (nS b)) (List.replicate n [])).1) A' (kA n (c + 1) (mW L (nS b)) (List.replicate n [])).2.2:=⟨_,_,((uF n (c + 1) (mW L (nS b)) (List.replicate n [])).toF (SU hL (AW hb)) (rX n)).1⟩
theorem aEX {T : List Int×Bool×Int}
  (h : Ev (fun q => aU.l1 q (nZ (kA n (c + 1) (mW L (nS b)) (List.replicate n [])).2.2) (nI (List.replicate c 0)) 0 (n : Int) (c : Int) (nI L.flatten) (n : Int) ((c + 1 : Nat) : Int) (nI (kA n (c + 1) (mW L (nS b)) (List.replicate n [])).1.flatten)) T) :
  Ev (fun q => aU.f q (n : Int) (c : Int) (nI L.flatten) (nI b)) T:=by
 have hX:=SU hL (AW hb);have hsz : n * (c + 1)≤64 * 65:=Nat.mul_le_mul hn (by omega);have hl0 : ∀ d i,i + d = n→Ev (fun q => aU.l0 q (nI b) (i : Int) (n : Int) (c : Int) (nI L.flatten) (n : Int) ((c + 1 : Nat) : Int) (nI ((mW L (nS b)).take i).flatten)) T:=by
  intro d
  induction d with
  | zero =>
   intro i hi;obtain rfl : i = n:=by omega
   have hw:=aPQ hn (show c + 1≤65 by omega) hX;refine Ev.step (f:=fun k => (aM.f k (i : Int) ((c + 1 : Nat) : Int) (nI (mW L (nS b)).flatten)).bind fun QZ => (if 0≤(c : Int) then (if ((c : Int) : Int).toNat≤281474976710656 then (aU.l1 k QZ.2.2.2 (List.replicate ((c : Int) : Int).toNat 0) 0 (i : Int) (c : Int) (nI L.flatten) QZ.1 QZ.2.1 QZ.2.2.1) else (none)) else (none))) (fun k => ?_) (Ev.bind hw ?_)
   ·rw [aU.l0,if_neg (by omega),List.take_of_length_le (by rw [hX.len];omega)]
   ·refine lO (fun q => if_pos (by omega)) (lO (fun q => if_pos (by rw [Int.toNat_natCast];omega)) ?_)
    rw [Int.toNat_natCast,NG];exact h
  | succ d ih =>
   intro i hi;have hic : i < n:=by omega
   have hfl : ((mW L (nS b)).take i).flatten.length = i * (c + 1):=MO hX (by omega);have hbd : i * (c + 1)≤64 * 65:=Nat.mul_le_mul (by omega) (by omega);have hadd : ((mW L (nS b)).take (i + 1)).flatten = ((mW L (nS b)).take i).flatten ++ L.getD i [] ++ [b.getD i 0]:=by
    rw [List.take_succ_eq_append_getElem (by rw [hX.len];omega),List.flatten_append,List.append_assoc]
    congr 1
    have e3 : (mW L (nS b))[i]'(by rw [hX.len];omega) = (mW L (nS b)).getD i []:=by
     rw [List.getD_eq_getElem?_getD,List.getElem?_eq_getElem (by rw [hX.len];omega)];rfl
    rw [e3,SV (by rw [hL.len,(AW hb).len]),ZN (by omega)]
    simp
   have hrow:=aFd hL hn hc hic;refine Ev.step (fun k => by rw [aU.l0,if_pos (by omega)]) (Ev.bind hrow ?_);have hw:=hL.wid i hic;have hst:=ih (i + 1) (by omega);rw [hadd] at hst;have e4 : nI (((mW L (nS b)).take i).flatten ++ L.getD i []) ++ [rd (nI b) (i : Int)] = nI (((mW L (nS b)).take i).flatten ++ L.getD i [] ++ [b.getD i 0]):=by
    rw [YP,aCX]
   simp only [aCY,Option.bind_some,e4,eN (show i≤9223372036854775806 by omega)];have c1 : (nI ((mW L (nS b)).take i).flatten).length + (nI (L.getD i [])).length < 140737488355328:=by rw [bT,bT];omega
   have c2 : (i : Int) < ((nI b).length : Int):=by rw [bT,hb];omega
   have c3 : (nI (((mW L (nS b)).take i).flatten ++ L.getD i [])).length + [rd (nI b) (i : Int)].length < 140737488355328:=by rw [bT,List.length_append,hfl,hw];simp;omega
   simp only [if_pos c1,if_pos (show (0 : Int)≤(i : Int) by omega),if_pos c2,if_pos c3];exact hst
 have h0:=hl0 n 0 (by omega);unfold aU.f;have hr : bA.f (n : Int) (c : Int) (nI L.flatten) = some true:=by rw [sX,bT,oS hL,iU hn hc rfl]
 refine Ev.bind (uA hr) (lO (fun q => if_pos rfl) (Ev.step (fun q => ?_) h0));rw [aU.j0,if_neg (by rw [bT,hb];simp),eN (by omega)];rfl
theorem aKw (hno : ∀ q,q < (kA n (c + 1) (mW L (nS b)) (List.replicate n [])).2.2.length→(kA n (c + 1) (mW L (nS b)) (List.replicate n [])).2.2.getD q 0≠c) :
  ∃ out : List UInt8,out.length = c∧Ev (fun q => aU.f q (n : Int) (c : Int) (nI L.flatten) (nI b)) (nI out,true,(0 : Int)):=by
 obtain ⟨A,A',hF⟩:=aCv hL hb;have hR:=XW hL hb;have hr:=hF.BI;have hl1 : ∀ d t y,t + d = (kA n (c + 1) (mW L (nS b)) (List.replicate n [])).2.2.length→y.length = c → ∃ out : List UInt8,out.length = c∧Ev (fun q => aU.l1 q (nZ (kA n (c + 1) (mW L (nS b)) (List.replicate n [])).2.2) (nI y) (t : Int) (n : Int) (c : Int) (nI L.flatten) (n : Int) ((c + 1 : Nat) : Int) (nI (kA n (c + 1) (mW L (nS b)) (List.replicate n [])).1.flatten)) (nI out,true,(0 : Int)):=by
  intro d
  induction d with
  | zero =>
   intro t y ht hy;exact ⟨y,hy,Ev.step (f:=fun _ => some (nI y,true,(0 : Int))) (fun q => by rw [aU.l1,if_neg (by rw [jZ];omega)]) (Ev.now _)⟩
  | succ d ih =>
   intro t y ht hy;have hlt : t < (kA n (c + 1) (mW L (nS b)) (List.replicate n [])).2.2.length:=by omega
   have hpc:=hr.ltc t hlt;have hne:=hno t hlt;have hle:=hr.le;obtain ⟨out,h1,h2⟩:=ih (t + 1) (y.set ((kA n (c + 1) (mW L (nS b)) (List.replicate n [])).2.2.getD t 0) (gL (kA n (c + 1) (mW L (nS b)) (List.replicate n [])).1 t c)) (by omega) (by rw [List.length_set];exact hy);refine ⟨out,h1,Ev.step (fun q => ?_) h2⟩;rw [aU.l1,if_pos (by rw [jZ];omega),if_pos (by omega),HJ hlt,if_neg (by omega),uX hn (by omega) hR (by omega) (by omega),Option.bind_some,if_pos (by omega),if_pos (by rw [bT,hy];omega),Int.toNat_natCast,JC,eN (by omega)]
 obtain ⟨out,h1,h2⟩:=hl1 _ 0 (List.replicate c 0) (Nat.zero_add _) (by simp);exact ⟨out,h1,aEX hn hc hL hb h2⟩
theorem aGL {s : Nat} (hs : s < (kA n (c + 1) (mW L (nS b)) (List.replicate n [])).2.2.length) (he : (kA n (c + 1) (mW L (nS b)) (List.replicate n [])).2.2.getD s 0 = c) :
  Ev (fun q => aU.f q (n : Int) (c : Int) (nI L.flatten) (nI b)) (([] : List Int),false,(0 : Int)):=by
 obtain ⟨A,A',hF⟩:=aCv hL hb;have hR:=XW hL hb;have hr:=hF.BI;have hl1 : ∀ d t y,t + d = s→y.length = c→Ev (fun q => aU.l1 q (nZ (kA n (c + 1) (mW L (nS b)) (List.replicate n [])).2.2) (nI y) (t : Int) (n : Int) (c : Int) (nI L.flatten) (n : Int) ((c + 1 : Nat) : Int) (nI (kA n (c + 1) (mW L (nS b)) (List.replicate n [])).1.flatten)) (([] : List Int),false,(0 : Int)):=by
  intro d
  induction d with
  | zero =>
   intro t y ht hy;obtain rfl : t = s:=by omega
   exact Ev.step (f:=fun _ => some (([] : List Int),false,(0 : Int))) (fun q => by rw [aU.l1,if_pos (by rw [jZ];omega),if_pos (by omega),HJ hs,he,if_pos rfl]) (Ev.now _)
  | succ d ih =>
   intro t y ht hy;have hlt : t < (kA n (c + 1) (mW L (nS b)) (List.replicate n [])).2.2.length:=by omega
   have hm:=hr.mono t s (by omega) hs;have hle:=hr.le;refine Ev.step (fun q => ?_) (ih (t + 1) (y.set ((kA n (c + 1) (mW L (nS b)) (List.replicate n [])).2.2.getD t 0) (gL (kA n (c + 1) (mW L (nS b)) (List.replicate n [])).1 t c)) (by omega) (by rw [List.length_set];exact hy));rw [aU.l1,if_pos (by rw [jZ];omega),if_pos (by omega),HJ hlt,if_neg (by omega),uX hn (by omega) hR (by omega) (by omega),Option.bind_some,if_pos (by omega),if_pos (by rw [bT,hy];omega),Int.toNat_natCast,JC,eN (by omega)]
 exact aEX hn hc hL hb (hl1 s 0 (List.replicate c 0) (by omega) (by simp))
end
/-! Combine -/
theorem aJZ {r c : Nat} {xs : List UInt8} (h : xs.length = r * c) : eR c r (eR r c xs) = xs:=by
 refine (aFA h fun i j hi hj => ?_).symm;have e : CV r (eR r c xs) i j = xs.getD (i * c + j) 0:=by
  unfold CV eR;rw [EM _ hj hi];rfl
 rw [e,List.getD_eq_getElem?_getD,List.getElem?_eq_getElem (by rw [h];exact mI hi hj)];rfl
theorem aMH {n c : Nat} {L : List (List UInt8)} (h : fC n c L) : zQ L (List.range n) = L:=by
 refine yX (n:=n) (by simp [zQ]) h.len fun i hi => ?_
 rw [SI L _ (by rw [List.length_range];exact hi)]
 congr 1
 rw [List.getD_eq_getElem?_getD,List.getElem?_range hi];rfl
theorem aHb {n k : Nat} {xs y : List UInt8} (hn : n≤64) (hk : k≤n) (hx : xs.length = n * k) (hy : y.length = n) (hr : qZ n k xs = k) :
  ∃ (l : List Int) (ok : Bool),Ev (fun q => bC.f q (k : Int) (n : Int) (nI (eR n k xs)) (nI y)) (l,ok,(0 : Int))∧(ok = true ↔ ∃ z : Nat→UInt8,∀ i,i < n→qX (fun t => Gf.mul (xs.getD (i * k + t) 0) (z t)) k = y.getD i 0):=by
 have hk6 : k≤64:=by omega
 have hX:=nC n k xs;have hind : ∀ z : Nat→UInt8,(∀ j,j < n→qX (fun i => Gf.mul (z i) ((eR n k xs).getD (i * n + j) 0)) k = 0) → ∀ i,i < k→z i = 0:=by
  intro z hz;obtain ⟨L',A',hF⟩:=YN hx;refine hF.aBs.1 hr z fun i hi => ?_
  rw [← hz i hi];refine eQ fun j hj => ?_
  rw [PK hx hi hj,Gf.mul_comm];unfold eR;rw [EM _ hj hi];rfl
 have hf:=aME hk6 hn hX hind;have hp:=aMD (oF hX) hk6 hn (zs:=List.range k) (by rw [List.length_range];omega) (fun i hi => by
  rw [List.length_range] at hi;rw [List.getD_eq_getElem?_getD,List.getElem?_range hi];exact hi)
 rw [AV hX,aMH (oF hX),AV hX,List.length_range] at hp;have ht:=aGC hk6 hn hX;rw [aJZ hx] at ht;have hL:=oF hx;have hiff : (∃ q,q < (kA n (k + 1) (mW (jW xs n k) (nS y)) (List.replicate n [])).2.2.length∧(kA n (k + 1) (mW (jW xs n k) (nS y)) (List.replicate n [])).2.2.getD q 0 = k) ↔ ¬ ∃ z : Nat→UInt8,∀ i,i < n→qX (fun t => Gf.mul (xs.getD (i * k + t) 0) (z t)) k = y.getD i 0:=by
  obtain ⟨A,A',hF⟩:=aCv hL hy;rw [aKx hL hy hF];refine not_congr (exists_congr fun z => forall_congr' fun i => forall_congr' fun hi => ?_);unfold sS;rw [eQ fun t ht => by rw [PK hx hi ht]]
 have hgo : ∀ (l : List Int) (ok : Bool) (T : List Int×Bool×Int),Ev (fun q => aU.f q (n : Int) (k : Int) (nI xs) (nI y)) (l,ok,(0 : Int)) →
   Ev (fun q => if ok = true then (if 0≤(k : Int) then (if ((k : Int) : Int).toNat≤281474976710656 then (bC.l0 q (nZ (List.range k)) l (List.replicate ((k : Int) : Int).toNat 0) 0) else (none)) else (none)) else (some (([] : List Int),false,0))) T →
   Ev (fun q => bC.f q (k : Int) (n : Int) (nI (eR n k xs)) (nI y)) T:=by
  intro l ok T hs hT;unfold bC.f;have hr : bA.f (k : Int) (n : Int) (nI (eR n k xs)) = some true:=by rw [sX,bT,iU hk6 hn hX]
  refine Ev.bind (uA hr) (lO (fun q => if_pos rfl) ?_);refine Ev.step (f:=fun q => (bN.f q (k : Int) (n : Int) (nI (eR n k xs))).bind fun UK => ((bD.f q (k : Int) (n : Int) (nI (eR n k xs)) UK.1).bind fun BW => ((aW.f q BW.1 BW.2.1 BW.2.2.1).bind fun wG => ((aU.f q wG.1 wG.2.1 wG.2.2.1 (nI y)).bind fun zE => (if zE.2.1 = true then (if 0≤(k : Int) then (if ((k : Int) : Int).toNat≤281474976710656 then (bC.l0 q UK.1 zE.1 (List.replicate ((k : Int) : Int).toNat 0) 0) else (none)) else (none)) else (some (([] : List Int),false,0))))))) (fun q => by rw [bC.j0,if_neg (by rw [bT,hy];simp)]) ?_;exact Ev.bind hf (Ev.bind hp (Ev.bind ht (Ev.bind hs hT)))
 by_cases hno : ∃ q,q < (kA n (k + 1) (mW (jW xs n k) (nS y)) (List.replicate n [])).2.2.length∧(kA n (k + 1) (mW (jW xs n k) (nS y)) (List.replicate n [])).2.2.getD q 0 = k
 ·obtain ⟨s,h1,h2⟩:=hno
  have hs:=aGL hn hk6 hL hy h1 h2;rw [AV hx] at hs;refine ⟨[],false,hgo _ _ _ hs (lO (fun q => if_neg (by simp)) (Ev.now _)),⟨fun h => (Bool.noConfusion h),fun h => absurd h (hiff.1 ⟨s,h1,h2⟩)⟩⟩
 ·obtain ⟨out,hl,hs⟩:=aKw hn hk6 hL hy (fun q hq e => hno ⟨q,hq,e⟩)
  rw [AV hx] at hs;have hl0 : ∀ d i (x : List Int),i + d = k→x.length = k → ∃ R : List Int,Ev (fun q => bC.l0 q (nZ (List.range k)) (nI out) x (i : Int)) (R,true,(0 : Int)):=by
   intro d
   induction d with
   | zero =>
    intro i x hi hx;exact ⟨x,Ev.step (f:=fun _ => some (x,true,(0 : Int))) (fun q => by rw [bC.l0,if_neg (by rw [jZ,List.length_range];omega)]) (Ev.now _)⟩
   | succ d ih =>
    intro i x hi hx;obtain ⟨R,hR⟩:=ih (i + 1) (x.set i (rd (nI out) (i : Int))) (by omega) (by rw [List.length_set];exact hx);refine ⟨R,Ev.step (fun q => ?_) hR⟩;have hrg : (List.range k).getD i 0 = i:=by
     rw [List.getD_eq_getElem?_getD,List.getElem?_range (by omega)];rfl
    rw [bC.l0,if_pos (by rw [jZ,List.length_range];omega),if_pos (by omega),if_pos (by rw [bT];omega),HJ (by rw [List.length_range];omega),hrg,if_pos (by omega),if_pos (by omega),Int.toNat_natCast,eN (by omega)]
  obtain ⟨R,hR⟩:=hl0 k 0 (List.replicate k 0) (by omega) (by simp);refine ⟨R,true,hgo _ _ _ hs (lO (fun q => if_pos rfl) (lO (fun q => if_pos (by omega)) (lO (fun q => if_pos (by rw [Int.toNat_natCast];omega)) ?_))),⟨fun _ => ?_,fun _ => rfl⟩⟩
  ·rw [Int.toNat_natCast]
   exact hR
  ·exact Classical.byContradiction fun h => hno (hiff.2 h)
end Go.Proofs.Yteofcbkjhdadpaa
namespace Go.Proofs.Yteofcbkjhdadpaa
open Go Go.RowKit Go.Proofs.aH.bJ Go.Proofs.Yteofcbkjhdadpaa.Pr
theorem aMp (xs : List UInt8) : (strOfNums (nI xs)).toList = xs:=by
 rw [Lib.strOfNums_toList];unfold Lib.bytesOf nI;rw [List.map_map];refine (List.map_congr_left (fun x _ => ?_)).trans (List.map_id xs)
 simp
theorem aIm (xs ys : List UInt8) : cQ.f (nI xs) (nI ys) = some (decide (xs = ys)):=by
 unfold cQ.f;rw [aMp,aMp]
 by_cases e : xs = ys
 ·rw [e,beq_self_eq_true,decide_eq_true rfl]
 ·rw [decide_eq_false e,show (xs == ys) = false from by rw [beq_eq_false_iff_ne];exact e]
theorem ZS {n k : Nat} {xs y : List UInt8} (hk : k≤n) (hx : xs.length = n * k) (hy : y.length = n) (hr : qZ n k xs = k) :
  VI (n - k) n (JE k n (eR n k xs)) y = List.replicate (n - k) 0 ↔ ∃ z : Nat→UInt8,∀ i,i < n→qX (fun t => Gf.mul (xs.getD (i * k + t) 0) (z t)) k = y.getD i 0:=by
 have hX:=nC n k xs;obtain ⟨hrr,hR⟩:=KZ hX;have hpl : (oH k n (eR n k xs)).2.2.length = k:=KU hk hx hr;have hK:=LD (R:=(oH k n (eR n k xs)).1) hrr.mono hrr.ltc;rw [hpl] at hK
 -- the product's entries
 have hat : ∀ i,i < n - k→(VI (n - k) n (JE k n (eR n k xs)) y).getD i 0 = qX (fun t => Gf.mul (((ZA n (oH k n (eR n k xs)).1 (oH k n (eR n k xs)).2.2).getD i []).getD t 0) (y.getD t 0)) n:=by
  intro i hi;rw [aJI _ _ hi];refine eQ fun t ht => ?_
  unfold JE;rw [yQ hK hi ht];rfl
 have h1 : VI (n - k) n (JE k n (eR n k xs)) y = List.replicate (n - k) 0 ↔ ∀ row∈ZA n (oH k n (eR n k xs)).1 (oH k n (eR n k xs)).2.2,qX (fun t => Gf.mul (row.getD t 0) (y.getD t 0)) n = 0:=by
  constructor
  ·intro h row hrow
   obtain ⟨i,hi,e⟩:=List.mem_iff_getElem.1 hrow;have hi' : i < n - k:=by rw [hK.len] at hi;exact hi
   have e2:=hat i hi';rw [h,aWg,List.getD_eq_getElem?_getD (l:=ZA n (oH k n (eR n k xs)).1 (oH k n (eR n k xs)).2.2),List.getElem?_eq_getElem hi,e] at e2;exact e2.symm
  ·intro h
   refine List.ext_getElem (by rw [aAe];simp) fun i h2 h3 => ?_
   have hi : i < n - k:=by rw [aAe] at h2;exact h2
   have e2:=hat i hi;have hlt : i < (ZA n (oH k n (eR n k xs)).1 (oH k n (eR n k xs)).2.2).length:=by rw [hK.len];exact hi
   rw [List.getD_eq_getElem?_getD,List.getElem?_eq_getElem h2,List.getD_eq_getElem?_getD (l:=ZA n (oH k n (eR n k xs)).1 (oH k n (eR n k xs)).2.2),List.getElem?_eq_getElem hlt] at e2;rw [List.getElem_replicate];exact e2.trans (h _ (List.getElem_mem hlt))
 rw [h1,aDb hrr]
 -- the row space
 have hF2:=((uF k n (jW (eR n k xs) k n) (idL k)).toF (oF hX) (aNi k)).1;obtain ⟨L',A',hF1⟩:=YN hX;have hF0:=((uF k n (jW (eR n k xs) k n) (List.replicate k [])).toF (oF hX) (rX k)).1;obtain ⟨u1,u2⟩:=sA.unique (A2:=gL (idL k)) hF0 hF2;have hs:=aKz hF2 (fun l => y.getD l 0);have e1 : gL (oH k n (eR n k xs)).1 = gL (kA k n (jW (eR n k xs) k n) (idL k)).1:=u1;have e2 : (oH k n (eR n k xs)).2.2 = (kA k n (jW (eR n k xs) k n) (idL k)).2.2:=u2;rw [← e1,← e2] at hs;rw [hs];refine exists_congr fun z => forall_congr' fun l => forall_congr' fun hl => ?_
 rw [eq_comm,eQ fun t ht => by
  rw [PK hX ht hl,Gf.mul_comm]]
 unfold eR;rw [eQ fun t ht => by rw [EM _ ht hl]];rfl
theorem aTN (xs ys : List UInt8) (i : Nat) : Go.bits .xor .u8 (rd (nI xs) (i : Int)) (rd (nI ys) (i : Int)) = (((xs.getD i 0) ^^^ (ys.getD i 0)).toNat : Int):=by
 rw [YP,YP];exact aJJ _ _
theorem aFN (a0 a1 : Int) (xs data spoilt : List UInt8) (hs : spoilt.length≤140737488355328) : ∃ q,aT.f q a0 a1 (nI xs) (nI data) (nI spoilt) = some true:=by
 refine Ev.rounds ?_;unfold aT.f;refine Ev.bind (aRm a0 a1 xs) (Ev.bind (aMF a0 a1 xs) ?_);have hno : ∀ e : Int,e≠0→Ev (fun r => (cG.f r).bind fun UX => (if UX = true then (some (e != 0)) else (some false))) true:=by
  intro e he;refine Ev.bind aCU (uA ?_);rw [if_pos rfl,show (e != 0) = true from by rw [bne_iff_ne];exact he]
 by_cases hm : pC a0 a1 xs.length = true
 ·obtain ⟨n,k,rfl,rfl,hn,hk,hx⟩:=PB hm
  have hk6 : k≤64:=by omega
  by_cases hr : qZ n k xs = k
  ·rw [NW hn hk hx hr]
   have hK : (JE k n (eR n k xs)).length = (n - k) * n:=by
    have hX:=nC n k xs;obtain ⟨hrr,hR⟩:=KZ hX;have hpl : (oH k n (eR n k xs)).2.2.length = k:=KU hk hx hr;have h:=oS (LD (R:=(oH k n (eR n k xs)).1) hrr.mono hrr.ltc);rw [hpl] at h;exact h
   have hnk : n - k≤64:=by omega
   have hrt : bA.f ((n - k : Nat) : Int) (n : Int) (nI (JE k n (eR n k xs))) = some true:=by rw [sX,bT,iU hnk hn hK]
   refine lO (fun q => if_pos rfl) (lO (fun q => if_pos rfl) (Ev.bind (uA hrt) (lO (fun q => if_pos rfl) (lO (fun q => if_pos rfl) ?_))))
   -- behind the loop
   have hj2 : ∀ y : List UInt8,y.length = n→Ev (fun q => aT.j2 q (nI y) (n : Int) (k : Int) (nI xs) ((n - k : Nat) : Int) (n : Int) (nI (JE k n (eR n k xs)))) true:=by
    intro y hy;obtain ⟨l,ok,hcm,hok⟩:=aHb hn hk hx hy hr;refine Ev.step (f:=fun r => (dR.f r ((n - k : Nat) : Int) (n : Int) (nI (JE k n (eR n k xs))) (nI y)).bind fun aOn => ((aW.f r (n : Int) (k : Int) (nI xs)).bind fun KA => ((bC.f r KA.1 KA.2.1 KA.2.2.1 (nI y)).bind fun ZY => ((cG.f r).bind fun UW => (if UW = true then (if 0≤((n - k : Nat) : Int) then (if (((n - k : Nat) : Int) : Int).toNat≤281474976710656 then ((cQ.f aOn.1 (List.replicate (((n - k : Nat) : Int) : Int).toNat 0)).bind fun IL => (some (IL == ZY.2.1))) else (none)) else (none)) else (some false)))))) (fun q => by rw [aT.j2]) ?_;refine Ev.bind (SE hnk hn hK hy) (Ev.bind (aGC hn hk6 hx) (Ev.bind hcm (Ev.bind aCU (uA ?_))));rw [if_pos rfl,if_pos (by omega),if_pos (by rw [Int.toNat_natCast];omega),Int.toNat_natCast,NG,aIm,Option.bind_some];have hz:=ZS hk hx hy hr;rw [← hok] at hz
    congr 1
    cases ok with
    | true => rw [decide_eq_true (hz.2 rfl)];rfl
    | false => rw [decide_eq_false (fun h => Bool.noConfusion (hz.1 h))];rfl
   have hl0 : ∀ d i (y : List UInt8),i + d = n→y.length = n→Ev (fun q => aT.l0 q (nI spoilt) (nI y) (i : Int) (n : Int) (k : Int) (nI xs) ((n - k : Nat) : Int) (n : Int) (nI (JE k n (eR n k xs)))) true:=by
    intro d
    induction d with
    | zero =>
     intro i y hi hy;refine Ev.step (fun q => ?_) (hj2 y hy);rw [aT.l0,if_neg (show ¬ (i : Int) < ((nI y).length : Int) by rw [bT];omega)]
     split <;> rfl
    | succ d ih =>
     intro i y hi hy
     by_cases hc : i < spoilt.length
     ·refine Ev.step (fun q => ?_) (ih (i + 1) (y.set i ((y.getD i 0) ^^^ (spoilt.getD i 0))) (by omega) (by rw [List.length_set];exact hy))
      rw [aT.l0,if_pos (by rw [bT];omega),if_pos (by rw [bT];omega),if_pos (by omega),Int.toNat_natCast,aTN,JC,eN (by omega)]
     ·refine Ev.step (fun q => ?_) (hj2 y hy)
      rw [aT.l0,if_neg (by rw [bT];omega)]
   have hw : wrap64 ((n : Int) - (k : Int)) = ((n - k : Nat) : Int):=by rw [w64 (by omega) (by omega)];omega
   refine Ev.step (f:=fun r => if (((nI data).length : Int) = (k : Int)) then ((dR.f r (n : Int) (k : Int) (nI xs) (nI data)).bind fun UJ => ((dR.f r ((n - k : Nat) : Int) (n : Int) (nI (JE k n (eR n k xs))) UJ.1).bind fun ZZ => (if 0≤((n - k : Nat) : Int) then (if (((n - k : Nat) : Int) : Int).toNat≤281474976710656 then ((cQ.f ZZ.1 (List.replicate (((n - k : Nat) : Int) : Int).toNat 0)).bind fun PC => (if PC = true then (aT.l0 r (nI spoilt) UJ.1 0 (n : Int) (k : Int) (nI xs) ((n - k : Nat) : Int) (n : Int) (nI (JE k n (eR n k xs)))) else (some false))) else (none)) else (none)))) else ((cG.f r).bind fun aEQ => (some aEQ))) (fun q => by rw [aT.j0,if_neg (by rw [hw];simp)]) ?_
   by_cases hd : data.length = k
   ·have hyl:=aAe n k xs data
    refine lO (fun q => if_pos (by rw [bT,hd])) (Ev.bind (SE hn hk6 hx hd) (Ev.bind (SE hnk hn hK hyl) (lO (fun q => if_pos (by omega)) (lO (fun q => if_pos (by rw [Int.toNat_natCast];omega)) ?_))));have hz : VI (n - k) n (JE k n (eR n k xs)) (VI n k xs data) = List.replicate (n - k) 0:=(ZS hk hx hyl hr).2 ⟨fun t => data.getD t 0,fun i hi => by rw [aJI _ _ hi]⟩;have hsm : cQ.f (nI (VI (n - k) n (JE k n (eR n k xs)) (VI n k xs data))) (List.replicate (((n - k : Nat) : Int) : Int).toNat 0) = some true:=by
     rw [Int.toNat_natCast,NG,aIm,decide_eq_true hz]
    exact Ev.bind (uA hsm) (lO (fun q => if_pos rfl) (hl0 n 0 _ (by omega) hyl))
   ·exact lO (fun q => if_neg (by rw [bT];omega)) (Ev.bind aCU (Ev.now _))
  ·have hlt : qZ n k xs < k:=by have:=aCR hx;omega
   have hv : sT (n : Int) (k : Int) xs = (0,0,[],6):=by
    unfold sT;rw [hm,if_pos rfl,Int.toNat_natCast,Int.toNat_natCast,if_pos hlt]
   rw [hv];exact lO (fun q => if_neg (by decide)) (hno 6 (by decide))
 ·have hv : sT a0 a1 xs = (0,0,[],3):=by unfold sT;rw [if_neg hm]
  rw [hv];exact lO (fun q => if_neg (by decide)) (hno 3 (by decide))
theorem QX (mr mc : Int) (a : Option Addr) (n c : Nat) (x : List UInt8) (a1 : Option Addr) (n1 c1 : Nat) (x1 : List UInt8) (a2 : Option Addr) (n2 c2 : Nat) (x2 : List UInt8) (w : World)
  (b0 : -9223372036854775808≤mr∧mr≤9223372036854775807) (b1 : -9223372036854775808≤mc∧mc≤9223372036854775807) (r0 : Rd w w.heap.size a n (fQ x)) (l0 : n≤c) (m0 : c≤140737488351232)
  (r1 : Rd w w.heap.size a1 n1 (fQ x1)) (l1 : n1≤c1) (m1 : c1≤140737488351232) (r2 : Rd w w.heap.size a2 n2 (fQ x2)) (l2 : n2≤c2) (m2 : c2≤140737488351232) :
  Calls Try.prog 6 #[mV mr mc a n c,.slice a1 n1 c1,.slice a2 n2 c2] w fun e w' => e = .returned (.bool true)∧Below w.heap.size w w':=by
 obtain rfl : x.length = n:=by have:=r0.len;rw [cB] at this;exact this
 obtain rfl : x1.length = n1:=by have:=r1.len;rw [cB] at this;exact this
 obtain rfl : x2.length = n2:=by have:=r2.len;rw [cB] at this;exact this
 obtain ⟨k,h⟩:=aFN mr mc x x1 x2 (by omega);have hc:=aT.calls k mr mc a c (nI x) a1 c1 (nI x1) a2 c2 (nI x2) true w (XP r0 (by omega)) (by rw [bT];exact l0) (XP r1 (by omega)) (by rw [bT];exact l1) (XP r2 (by omega)) (by rw [bT];exact l2) rfl h;rw [bT,bT,bT] at hc;exact hc
end Go.Proofs.Yteofcbkjhdadpaa
namespace Go.Proofs.Yteofcbkjhdadpaa.buildChecks
open Go.ChangeShapes Go.WideShapes Go.ChangeAt Go.RowKit
theorem lifted (os : Os) (started : os.Started) (H : Type) (enc : TypeId×Value→H) :
  ReturnsInHanded {} Try.checked os 6 .any (Rows.buildChecksSpec.pre6 enc Try.prog Try.f6 Rows.buildChecksRow.domain false) (Rows.buildChecksSpec.post enc Try.prog Try.f6 false true false false):=by
 refine returnsInHanded_of_change_sized (C:=Try.checked) aMP started (by kernel_rfl) Try.func6
  (ChangeSpec.witness6 (enc:=enc) (C:=Try.checked) false ⟨#[],#[.agg #[.int .i64 0,.int .i64 0,.slice none 0 0],.slice none 0 0,.slice none 0 0],[]⟩ 8 (by kernel_rfl) (by kernel_rfl) (by kernel_rfl) (by kernel_rfl)) ?_
 intro W base args ds gs before hval0 hW hcnd aWr _;have hsz : (DataW.weightsEach Try.prog (Try.f6.params.toList ++ Rows.buildChecksSpec.plain.varTypes Try.prog) (ds ++ gs)).all (· ≤ reachBytes) = true:=aWr;have hval : ∀ (j : Nat) t v,Try.f6.params[j]? = some t→args[j]? = some v→Value.okWide Try.prog W .any base t v:=hval0;have hW':=hW;obtain ⟨p,q,hA0,hV,rfl,hfz,hnd⟩:=hW;have hA : DataW.TrodAll enc Try.prog W 0 (fun _ => true) true Try.f6.params.toList args.toList ds p:=hA0;rw [Try.params6] at hA hval hsz;obtain ⟨v0,vs0,d0,ds0,p0,q0,hargs,rfl,rfl,h0,r0⟩:=trodAll_cons hA;obtain ⟨v1,vs1,d1,ds1,p1,q1,rfl,rfl,rfl,h1,r1⟩:=trodAll_cons r0;obtain ⟨v2,vs2,d2,ds2,p2,q2,rfl,rfl,rfl,h2,r2⟩:=trodAll_cons r1;obtain ⟨rfl,rfl,rfl⟩:=trodAll_nil r2;obtain rfl : args = #[v0,v1,v2]:=by cases args;simp_all
 obtain ⟨rfl,rfl⟩:=trodVars_none hV;have k0:=h0;have lt0 : ∀ x∈p0,x.block < W.heap.size:=by obtain ⟨m,hm⟩:=k0;exact DataW.trod_lt m _ _ _ hm
 have k1:=h1;have lt1 : ∀ x∈p1,x.block < W.heap.size:=by obtain ⟨m,hm⟩:=k1;exact DataW.trod_lt m _ _ _ hm
 have k2:=h2;have lt2 : ∀ x∈p2,x.block < W.heap.size:=by obtain ⟨m,hm⟩:=k2;exact DataW.trod_lt m _ _ _ hm
 obtain ⟨mr0,mc0,a0,n0,cap0,x0,dd0,rfl,wr0,wc0,rd0,lc0,cm0,rfl,sz0⟩:=aFj (hval 0 24 v0 rfl rfl) h0;have cr0:=aCK hsz (j:=0) rfl rfl sz0;obtain ⟨a1,n1,c1,rfl⟩:=okWide_slice Try.underlying22 (hval 1 22 v1 rfl rfl);obtain ⟨x1,rd1,lc1,cm1,dd1⟩:=NF h1;have cr1 : c1≤140737488351232:=by
  rcases dd1 with ⟨_,h⟩ | ⟨es,rs,rfl,hl⟩
  ·omega
  ·have h:=sized_slice hsz (j:=1) rfl rfl Try.underlying22
   rw [JX] at h;simp only [reachBytes] at h;omega
 obtain ⟨a2,n2,c2,rfl⟩:=okWide_slice Try.underlying22 (hval 2 22 v2 rfl rfl);obtain ⟨x2,rd2,lc2,cm2,dd2⟩:=NF h2;have cr2 : c2≤140737488351232:=by
  rcases dd2 with ⟨_,h⟩ | ⟨es,rs,rfl,hl⟩
  ·omega
  ·have h:=sized_slice hsz (j:=2) rfl rfl Try.underlying22
   rw [JX] at h;simp only [reachBytes] at h;omega
 clear hA0 hval0 aWr;refine (QX mr0 mc0 a0 n0 cap0 x0 a1 n1 c1 x1 a2 n2 c2 x2 W (bounds_i64 wr0) (bounds_i64 wc0) rd0 lc0 cr0 rd1 lc1 cr1 rd2 lc2 cr2).mono fun e W' ⟨he,bel⟩ => ?_
 subst he;exact ⟨_,rfl,_,_,_,[],_,[],hW',trodAll_mk1 (shut_bool Try.underlying4 _),(trodAll_cons_mk (Below.trod YZ (by kernel_rfl) (of_decide_eq_true (by kernel_rfl)) k0 bel lt0) (trodAll_cons_mk (Below.trod YZ (by kernel_rfl) (of_decide_eq_true (by kernel_rfl)) k1 bel lt1) (trodAll_cons_mk (Below.trod YZ (by kernel_rfl) (of_decide_eq_true (by kernel_rfl)) k2 bel lt2) trodAll_mk0))),rfl,bel.frame _,fun h => by cases h⟩
theorem over : Rows.buildChecksRow.holds Try.pinned (OpenSpec.ofChange Rows.buildChecksSpec) :=
 OpenClaim.holds_of_wide 6 Try.f6 rfl rfl rfl rfl rfl rfl rfl ⟨rfl,rfl,rfl,rfl,rfl⟩ rfl rfl rfl rfl rfl (by kernel_rfl) Try.func6 (by kernel_rfl)
  (of_decide_eq_true (by kernel_rfl)) (by unfold Func.isWrapper;first | (rw [if_pos (by decide +kernel)];kernel_rfl) | (rw [if_neg (by decide +kernel)];exact ⟨rfl,rfl⟩))
  (fun os started H enc _ => lifted os started H enc)
theorem proved : Rows.BuildChecksSaid:=over
#print axioms proved
end Go.Proofs.Yteofcbkjhdadpaa.buildChecks
