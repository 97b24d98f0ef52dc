/- The law BuildFresh, proved: for every input the call returns true and each argument reads as before. -/
import Derived.Lib.Bytes
import Derived.Deep.CutRange
import Derived.Deep.Cut
import Derived.Deep.RegionHeld3
import Derived.WalkKit
import Derived.ProofKit
import Derived.OpenShut
import Derived.ChangeOld
import Derived.Below
import Derived.SizedLaws
import Derived.Test.YteofcbkjhdadpaaCBuildFreshx1
import Derived.Test.YteofcbkjhdadpaaCBuildFreshx2
import Derived.Test.YteofcbkjhdadpaaCBuildFreshx8
import Derived.Test.YteofcbkjhdadpaaCBuildFreshA3
import Derived.Test.YteofcbkjhdadpaaCBuildFreshA1
import Derived.Test.YteofcbkjhdadpaaCBuildFreshx3
import Derived.Test.YteofcbkjhdadpaaCBuildFreshx12
import Derived.Test.YteofcbkjhdadpaaCBuildFreshx9
import Derived.Test.YteofcbkjhdadpaaCBuildFreshA2
import Derived.Test.YteofcbkjhdadpaaCBuildFreshx11
import Derived.Test.YteofcbkjhdadpaaCBuildFreshx14
import Derived.Test.YteofcbkjhdadpaaCBuildFreshx15
import Derived.Test.YteofcbkjhdadpaaCBuildFreshx16
import Derived.Test.YteofcbkjhdadpaaCBuildFreshx18
import Derived.Test.YteofcbkjhdadpaaCBuildFreshx19
import Derived.Test.YteofcbkjhdadpaaCBuildFreshx20
import Derived.Test.YteofcbkjhdadpaaCBuildFreshx4
import Derived.Test.YteofcbkjhdadpaaCBuildFreshx5
import Derived.Test.YteofcbkjhdadpaaCBuildFreshx6
import Derived.Test.YteofcbkjhdadpaaCBuildFreshx10
import Derived.Test.YteofcbkjhdadpaaCBuildFreshx21
import Derived.Test.YteofcbkjhdadpaaCBuildFreshx22
import Derived.Test.YteofcbkjhdadpaaRows
import Derived.Test.YteofcbkjhdadpaaCBuildFreshq
set_option maxHeartbeats 6400000
set_option maxRecDepth 100000
set_option linter.unusedSimpArgs false
set_option linter.unusedVariables false
namespace Go.Proofs.Yteofcbkjhdadpaa
open Go.RowKit Go.Proofs.aG.aX Go.Proofs.Yteofcbkjhdadpaa.Pr
theorem BI (r c : Int) (l : List Int) : bN.f r c l = some (bM r c l.length):=by
 unfold bN.f bM
 by_cases h1 : r ≥ 0
 ·rw [if_pos h1]
  by_cases h2 : r≤64
  ·rw [if_pos h2]
   by_cases h3 : c ≥ 0
   ·rw [if_pos h3]
    by_cases h4 : c≤64
    ·rw [if_pos h4]
     have b:=GR h1 h2 h3 h4;rw [w64 (by omega) (by omega)]
     congr 1
     rw [Bool.eq_iff_iff,beq_iff_eq,decide_eq_true_eq];exact ⟨fun h => ⟨⟨h1,h2⟩,⟨h3,h4⟩,h⟩,fun h => h.2.2⟩
    ·rw [if_neg h4];congr 1;exact (decide_eq_false (fun h => h4 h.2.1.2)).symm
   ·rw [if_neg h3];congr 1;exact (decide_eq_false (fun h => h3 h.2.1.1)).symm
  ·rw [if_neg h2];congr 1;exact (decide_eq_false (fun h => h2 h.1.2)).symm
 ·rw [if_neg h1];congr 1;exact (decide_eq_false (fun h => h1 h.1.1)).symm
theorem aHA {r : Int} {c i j : Nat} {xs : List UInt8} (h : i * c + j < xs.length) (hb : i * c + j≤9223372036854775807) : bV.f r (c : Int) (nI xs) (i : Int) (j : Int) = some ((xs.getD (i * c + j) 0).toNat : Int):=by
 unfold bV.f;rw [pO hb,if_pos (by omega),if_pos (by rw [aZ];omega),AJ]
theorem WK (a b : UInt8) : cI.f (a.toNat : Int) (b.toNat : Int) = some ((Gf.mul a b).toNat : Int):=by
 unfold cI.f;rw [sK,sK,zR,zR];rfl
theorem aDh {r c : Nat} (h : r * c≤281474976710656) : dF.f (r : Int) (c : Int) = some ((r : Int),(c : Int),nI (List.replicate (r * c) 0)):=by
 unfold dF.f;rw [GF (by omega),if_pos (by omega),Int.toNat_natCast,if_pos h,KI]
section
variable {ra ca cb : Nat} {xs ys : List UInt8}
theorem aFA (hra : ra≤64) (hca : ca≤64) (hcb : cb≤64) (hx : xs.length = ra * ca) (hy : ys.length = ca * cb) {i j : Nat} (hi : i < ra) (hj : j < cb) {r : Int×Int×List Int×Int}
  (hr : Ev (fun k => aV.l1 k (i : Int) ((j + 1 : Nat) : Int) ra ca (nI xs) ca cb (nI ys) ra cb (nI (jC ra cb (KJ ca cb xs ys) i (j + 1)))) r) :
  ∀ d q,q + d = ca→Ev (fun k => aV.l2 k (i : Int) (j : Int) (q : Int) ra ca (nI xs) ca cb (nI ys) ra cb (nI ((jC ra cb (KJ ca cb xs ys) i j).set (i * cb + j) (PM q fun t => Gf.mul (xs.getD (i * ca + t) 0) (ys.getD (t * cb + j) 0))))) r:=by
 have hp:=jV hi hj;have hpb : ra * cb≤64 * 64:=Nat.mul_le_mul hra hcb;have hab : ra * ca≤64 * 64:=Nat.mul_le_mul hra hca;have hbb : ca * cb≤64 * 64:=Nat.mul_le_mul hca hcb;intro d
 induction d with
 | zero =>
  intro q hq;obtain rfl : q = ca:=by omega
  refine Ev.step (fun k => ?_) hr;rw [aV.l2,if_neg (by omega),eM (by omega)];have e:=DJ (R:=ra) (C:=cb) (KJ q cb xs ys) hi hj;rw [← e];rfl
 | succ d ih =>
  intro q hq;refine Ev.step (fun k => ?_) (ih (q + 1) (by omega));have h1:=jV hi (show q < ca by omega);have h2:=jV (show q < ca by omega) hj;rw [aV.l2,if_pos (by omega),pO (by omega),if_pos (by omega),if_pos (by rw [aZ,List.length_set,rI];omega),
   aHA (by omega) (by omega),Option.bind_some,aHA (by omega) (by omega),Option.bind_some,WK,Option.bind_some,eM (by omega),Int.toNat_natCast,AJ,
   TA _ _ _ (by rw [rI];omega),aEF,BK,List.set_set]
  rfl
theorem aFB (hra : ra≤64) (hca : ca≤64) (hcb : cb≤64) (hx : xs.length = ra * ca) (hy : ys.length = ca * cb) {i : Nat} (hi : i < ra) {r : Int×Int×List Int×Int}
  (hr : Ev (fun k => aV.l0 k ((i + 1 : Nat) : Int) ra ca (nI xs) ca cb (nI ys) ra cb (nI (jC ra cb (KJ ca cb xs ys) (i + 1) 0))) r) :
  ∀ d j,j + d = cb→Ev (fun k => aV.l1 k (i : Int) (j : Int) ra ca (nI xs) ca cb (nI ys) ra cb (nI (jC ra cb (KJ ca cb xs ys) i j))) r:=by
 intro d
 induction d with
 | zero =>
  intro j hj;obtain rfl : j = cb:=by omega
  refine Ev.step (fun k => ?_) hr;rw [aV.l1,if_neg (by omega),eM (by omega),AA]
 | succ d ih =>
  intro j hj;have h0:=aFA hra hca hcb hx hy hi (show j < cb by omega) (ih (j + 1) (by omega)) ca 0 (by omega);refine Ev.step (fun k => ?_) h0;rw [aV.l1,if_pos (by omega)];have e:=aIq (R:=ra) (C:=cb) (KJ ca cb xs ys) hi (show j < cb by omega);simp only [PM];rw [e];rfl
theorem aFC (hra : ra≤64) (hca : ca≤64) (hcb : cb≤64) (hx : xs.length = ra * ca) (hy : ys.length = ca * cb) :
  ∀ d i,i + d = ra→Ev (fun k => aV.l0 k (i : Int) ra ca (nI xs) ca cb (nI ys) ra cb (nI (jC ra cb (KJ ca cb xs ys) i 0))) ((ra : Int),(cb : Int),nI (aAp ra ca cb xs ys),0):=by
 intro d
 induction d with
 | zero =>
  intro i hi;obtain rfl : i = ra:=by omega
  refine Ev.step (fun k => ?_) (Ev.now _);rw [aV.l0,if_neg (by omega),DK];rfl
 | succ d ih =>
  intro i hi;have h0:=aFB hra hca hcb hx hy (show i < ra by omega) (ih (i + 1) (by omega)) cb 0 (by omega);refine Ev.step (fun k => ?_) h0;rw [aV.l0,if_pos (by omega)];rfl
end
theorem aNO (ra ca rb cb : Int) (xs ys : List UInt8) :
  Ev (fun k => aV.f k ra ca (nI xs) rb cb (nI ys)) (if qN ra ca xs.length rb cb ys.length = true then (ra,cb,nI (aAp ra.toNat ca.toNat cb.toNat xs ys),0) else (0,0,[],3)):=by
 unfold aV.f;simp only [BI,aZ,Option.bind_some]
 by_cases h1 : bM ra ca xs.length = true
 ·by_cases h2 : bM rb cb ys.length = true
  ·simp only [h1,h2,if_true]
   by_cases h3 : ca = rb
   ·have hm : qN ra ca xs.length rb cb ys.length = true:=by unfold qN;rw [h1,h2];simp [h3]
    rw [if_pos hm];obtain ⟨a,b,c,rfl,rfl,rfl,rfl,k1,k2,k3,k4,k5⟩:=aFT hm;have hpb : a * c≤64 * 64:=Nat.mul_le_mul k1 k3;have h0:=aFC k1 k2 k3 k4 k5 a 0 (by omega);refine Ev.step (fun k => ?_) h0;rw [aV.j0,if_neg (by simp),aDh (by omega),Option.bind_some,xO a c (KJ b c xs ys)];rfl
   ·have hm : ¬ qN ra ca xs.length rb cb ys.length = true:=by simp [qN,h3]
    rw [if_neg hm];refine Ev.step (fun k => ?_) (Ev.now _);rw [aV.j0,if_pos (by simpa using h3)]
  ·have hm : ¬ qN ra ca xs.length rb cb ys.length = true:=by simp [qN,h2]
   simp only [h1,h2,if_true,Bool.false_eq_true,if_false];rw [if_neg hm];refine Ev.step (fun k => ?_) (Ev.now _);rw [aV.j0,if_pos rfl]
 ·have hm : ¬ qN ra ca xs.length rb cb ys.length = true:=by simp [qN,h1]
  simp only [h1,Bool.false_eq_true,if_false];rw [if_neg hm];refine Ev.step (fun k => ?_) (Ev.now _);rw [aV.j0,if_pos rfl]
end Go.Proofs.Yteofcbkjhdadpaa
namespace Go.Proofs.Yteofcbkjhdadpaa
open Go.RowKit Go.Proofs.aG.aX Go.Proofs.Yteofcbkjhdadpaa.Pr
theorem lR {n c l : Nat} (hn : n≤64) (hc : c≤64) (h : l = n * c) : bM (n : Int) (c : Int) l = true:=by
 unfold bM;rw [decide_eq_true_eq];refine ⟨⟨by omega,by omega⟩,⟨by omega,by omega⟩,?_⟩;rw [h,Int.natCast_mul]
section
variable {n c : Nat} (hn : n≤64) (hc : c≤65)
include hn hc
theorem NB {i j : Nat} (hi : i < n) (hj : j < c) : i * c + j < n * c∧i * c + j≤9223372036854775807∧n * c≤4160:=by
 have h1:=jV hi hj;have h2 : n * c≤64 * 65:=Nat.mul_le_mul hn hc;omega
theorem uN {L : List (List UInt8)} (h : dL n c L) {i j : Nat} (hi : i < n) (hj : j < c) : bV.f (n : Int) (c : Int) (nI L.flatten) (i : Int) (j : Int) = some ((fH L i j).toNat : Int):=by
 obtain ⟨h1,h2,_⟩:=NB hn hc hi hj;rw [aHA (by rw [iA h];exact h1) h2,tJ h hi hj]
end
theorem aHw {n c i : Nat} {L : List (List UInt8)} (h : dL n c L) (hn : n≤64) (hc : c≤64) (hi : i < n) : Ev (fun k => bR.f k (n : Int) (c : Int) (nI L.flatten) (i : Int)) (nI (L.getD i []),(0 : Int)):=by
 have hw:=h.wid i hi;unfold bR.f;rw [BI,aZ,iA h,lR hn hc rfl];simp only [Option.bind_some,if_true,if_neg (show ¬ (i : Int) < 0 by omega),decide_eq_false (show ¬ (i : Int) ≥ (n : Int) by omega)];have hloop : ∀ d q,q + d = c→Ev (fun k => bR.l0 k (i : Int) (nI ((L.getD i []).take q)) (q : Int) (n : Int) (c : Int) (nI L.flatten)) (nI (L.getD i []),(0 : Int)):=by
  intro d
  induction d with
  | zero =>
   intro q hq;obtain rfl : q = c:=by omega
   refine Ev.step (f:=fun _ => some (nI (L.getD i []),(0 : Int))) (fun k => ?_) (Ev.now _);rw [bR.l0,if_neg (by omega),List.take_of_length_le (by omega)]
  | succ d ih =>
   intro q hq;have e1 : (L.getD i []).take (q + 1) = (L.getD i []).take q ++ [fH L i q]:=by
    rw [List.take_succ_eq_append_getElem (by omega)];unfold fH;rw [List.getD_eq_getElem?_getD (l:=L.getD i []),List.getElem?_eq_getElem (by omega)];rfl
   refine Ev.step (fun k => ?_) (ih (q + 1) (by omega));rw [bR.l0,if_pos (by omega),uN hn (by omega) h hi (by omega),Option.bind_some,if_pos (by rw [aZ,List.length_take];omega),aDk,← e1,eM (by omega)]
 refine Ev.step (fun k => ?_) (hloop c 0 (by omega));rw [bR.j0,if_neg (by simp)];rfl
theorem TB {n c : Nat} {L : List (List UInt8)} (h : dL n c L) {i : Nat} (hi : i≤n) : (L.take i).flatten.length = i * c:=by
 refine iA (n:=i) ⟨by rw [List.length_take,h.len];omega,fun k hk => ?_⟩;rw [List.getD_eq_getElem?_getD,List.getElem?_take_of_lt hk,← List.getD_eq_getElem?_getD];exact h.wid k (by omega)
end Go.Proofs.Yteofcbkjhdadpaa
namespace Go.Proofs.Yteofcbkjhdadpaa
open Go.RowKit Go.Proofs.aG.aX Go.Proofs.Yteofcbkjhdadpaa.Pr
def GH (a0 a1 : Int) (xs : List UInt8) : Int×Int×List Int×Int :=
 if lJ a0 a1 xs.length = true then (if (SN a1.toNat xs).2.2.length < a1.toNat then (0,0,[],6) else (a0,a1,nI (aAp a0.toNat a1.toNat a1.toNat xs (SN a1.toNat xs).2.1.flatten),0)) else (0,0,[],3)
theorem aMI (a0 a1 : Int) (xs : List UInt8) : dV.f a0 a1 (nI xs) = some (GH a0 a1 xs):=by
 unfold dV.f GH;rw [BO,if_pos rfl,aZ,nN]
 split
 ·split <;> rfl
 ·rfl
/-! Vandermonde -/
def aBH (i j : Nat) : UInt8:=Gf.npow (UInt8.ofNat i) j
def aBI (r c : Nat) : List UInt8:=lZ r c aBH
def BE (a0 a1 : Int) : Bool:=decide ((0≤a0∧a0≤64)∧(0≤a1∧a1≤64))
def aGQ (a0 a1 : Int) : Int×Int×List Int×Int:=if BE a0 a1 = true then (a0,a1,nI (aBI a0.toNat a1.toNat),0) else (0,0,[],2)
theorem TP {a0 a1 : Int} (h : BE a0 a1 = true) : ∃ a b : Nat,a0 = a∧a1 = b∧a≤64∧b≤64:=by
 have h:=of_decide_eq_true h;exact ⟨a0.toNat,a1.toNat,by omega,by omega,by omega,by omega⟩
theorem aIN (n : Nat) : ((n : Int) % 256) = ((UInt8.ofNat n).toNat : Int):=by
 rw [UInt8.toNat_ofNat'];omega
theorem aOk (a b : UInt8) : oG.f (a.toNat : Int) (b.toNat : Int) = some ((Gf.mul a b).toNat : Int):=by
 unfold oG.f;rw [sK,sK,zR,zR];rfl
theorem YP (n : Int) : dA.f n = some (decide (0≤n∧n≤64)):=by
 unfold dA.f
 by_cases h1 : n ≥ 0
 ·rw [if_pos h1]
  congr 1
  rw [Bool.eq_iff_iff,decide_eq_true_eq,decide_eq_true_eq];omega
 ·rw [if_neg h1,decide_eq_false (by omega)]
theorem aOj (a0 a1 : Int) : lN.f a0 a1 = some (if BE a0 a1 = true then (a0,a1,nI (List.replicate (a0.toNat * a1.toNat) 0),0) else (0,0,[],2)):=by
 unfold lN.f;rw [YP,YP,Option.bind_some,Option.bind_some]
 by_cases h1 : 0≤a0∧a0≤64
 ·rw [if_pos (decide_eq_true h1)]
  by_cases h2 : 0≤a1∧a1≤64
  ·rw [if_pos (decide_eq_true h2)]
   have hs : BE a0 a1 = true:=decide_eq_true ⟨h1,h2⟩;rw [if_pos hs];obtain ⟨a,b,rfl,rfl,ha,hb⟩:=TP hs;have hab : a * b≤64 * 64:=Nat.mul_le_mul ha hb;unfold hH.f;rw [GF (by omega),if_pos (by omega),Int.toNat_natCast,if_pos (by omega),Option.bind_some,KI,Int.toNat_natCast,Int.toNat_natCast]
  ·rw [if_neg (by simpa using h2),if_neg (by unfold BE;simp;omega)]
 ·rw [if_neg (by simpa using h1),if_neg (by unfold BE;simp;omega)]
theorem aQQ (a0 a1 : Int) : Ev (fun k => bI.f k a0 a1) (aGQ a0 a1):=by
 unfold bI.f;simp only [aOj,Option.bind_some]
 by_cases hs : BE a0 a1 = true
 ·simp only [if_pos hs,if_true]
  unfold aGQ;rw [if_pos hs];obtain ⟨a,b,rfl,rfl,ha,hb⟩:=TP hs;have hab : a * b≤64 * 64:=Nat.mul_le_mul ha hb;rw [Int.toNat_natCast,Int.toNat_natCast,xO a b aBH];have hl1 : ∀ i,i < a→Ev (fun k => bI.l0 k (b : Int) (a : Int) ((i + 1 : Nat) : Int) (a : Int) (b : Int) (nI (jC a b aBH (i + 1) 0))) ((a : Int),(b : Int),nI (aBI a b),(0 : Int)) →
    ∀ d j,j + d = b→Ev (fun k => bI.l1 k (b : Int) (i : Int) ((aBH i j).toNat : Int) (a : Int) (i : Int) (b : Int) (j : Int) (a : Int) (b : Int) (nI (jC a b aBH i j))) ((a : Int),(b : Int),nI (aBI a b),(0 : Int)):=by
   intro i hi hr d
   induction d with
   | zero =>
    intro j hj;obtain rfl : j = b:=by omega
    refine Ev.step (fun k => ?_) hr;rw [bI.l1,if_neg (by omega),eM (by omega),AA]
   | succ d ih =>
    intro j hj;have hlt:=jV hi (show j < b by omega);refine Ev.step (fun k => ?_) (ih (j + 1) (by omega));rw [bI.l1,if_pos (by omega),pO (by omega),if_pos (by omega),if_pos (by rw [aZ,rI];omega),aIN,aOk,Option.bind_some,Int.toNat_natCast,BK,eM (by omega),DJ aBH hi (show j < b by omega)];rfl
  have hl0 : ∀ d i,i + d = a→Ev (fun k => bI.l0 k (b : Int) (a : Int) (i : Int) (a : Int) (b : Int) (nI (jC a b aBH i 0))) ((a : Int),(b : Int),nI (aBI a b),(0 : Int)):=by
   intro d
   induction d with
   | zero =>
    intro i hi;obtain rfl : i = a:=by omega
    refine Ev.step (f:=fun _ => some ((i : Int),(b : Int),nI (aBI i b),(0 : Int))) (fun k => ?_) (Ev.now _);rw [bI.l0,if_neg (by omega),DK];rfl
   | succ d ih =>
    intro i hi;have h1:=hl1 i (by omega) (ih (i + 1) (by omega)) b 0 (by omega);refine Ev.step (fun k => ?_) h1;rw [bI.l0,if_pos (by omega)];rfl
  exact hl0 a 0 (by omega)
 ·unfold aGQ
  simp only [if_neg hs];exact Ev.now _
/-! Reed -/
def aHS (a0 a1 : Int) : Bool:=decide (1≤a0∧0≤a1∧a0 + a1≤64)
theorem aQR (a0 a1 : Int) : oI.f a0 a1 = some (aHS a0 a1):=by
 unfold oI.f aHS
 by_cases h1 : a0 ≥ 1
 ·rw [if_pos h1]
  by_cases h2 : a0≤64
  ·rw [if_pos h2]
   by_cases h3 : a1 ≥ 0
   ·rw [if_pos h3,w64 (by omega) (by omega)]
    congr 1
    rw [Bool.eq_iff_iff,decide_eq_true_eq,decide_eq_true_eq];omega
   ·rw [if_neg h3,decide_eq_false (by omega)]
  ·rw [if_neg h2]
   congr 1
   exact (decide_eq_false (by omega)).symm
 ·rw [if_neg h1,decide_eq_false (by omega)]
def aHo (a0 a1 : Int) : Int×Int×List Int×Int:=if aHS a0 a1 = true then GH (a0 + a1) a0 (aBI (a0 + a1).toNat a0.toNat) else (0,0,[],2)
theorem aHn {a0 a1 : Int} (h : aHS a0 a1 = true) : wrap64 (a0 + a1) = a0 + a1∧aGQ (a0 + a1) a0 = (a0 + a1,a0,nI (aBI (a0 + a1).toNat a0.toNat),0):=by
 have h:=of_decide_eq_true h;refine ⟨w64 (by omega) (by omega),?_⟩;unfold aGQ;rw [if_pos (show BE (a0 + a1) a0 = true from decide_eq_true (by omega))]
theorem aOi (a0 a1 : Int) : Ev (fun k => nQ.f k a0 a1) (aHo a0 a1):=by
 unfold nQ.f aHo;simp only [aQR,Option.bind_some]
 by_cases h : aHS a0 a1 = true
 ·obtain ⟨e1,e2⟩:=aHn h
  have hv:=aQQ (a0 + a1) a0;rw [e2] at hv;simp only [if_pos h,e1];refine Ev.bind hv ?_;simp only [if_true,aMI,Option.bind_some];exact Ev.now _
 ·simp only [if_neg h]
  exact Ev.now _
end Go.Proofs.Yteofcbkjhdadpaa
namespace Go.Proofs.Yteofcbkjhdadpaa
open Go.RowKit Go.Proofs.aG.aX Go.Proofs.Yteofcbkjhdadpaa.Pr
def wZ (n c : Nat) (xs : List UInt8) : Nat:=(vQ n c xs).2.2.length
theorem aBX {n c : Nat} {xs : List UInt8} (hx : xs.length = n * c) : ∃ L' A',qB n c 0 0 (fH (iF xs n c)) (fH (List.replicate n [])) [] L' A' (vQ n c xs).2.2 :=
 ⟨_,_,((mE n c (iF xs n c) (List.replicate n [])).toF (sH hx) (sJ n)).1⟩
theorem aDe {n c : Nat} {xs : List UInt8} (hx : xs.length = n * c) {i j : Nat} (hi : i < n) (hj : j < c) : fH (iF xs n c) i j = xs.getD (i * c + j) 0:=by
 rw [← tJ (sH hx) hi hj,JX hx]
theorem aFw {n c : Nat} {xs : List UInt8} (hx : xs.length = n * c) (h : ∀ z : Nat→UInt8,(∀ j,j < c→yN (fun i => Gf.mul (z i) (xs.getD (i * c + j) 0)) n = 0) → ∀ i,i < n→z i = 0) : wZ n c xs = n:=by
 obtain ⟨L',A',hF⟩:=aBX hx;refine hF.aFx fun z hz => h z fun j hj => ?_
 exact (kN fun i hi => by rw [aDe hx hi hj]).trans (hz j hj)
theorem aBW : aHo 2 1 = (3,2,[1,0,0,1,3,2],0):=by decide +kernel
theorem aKd : Ev (fun k => hU.f k) true:=by
 unfold hU.f;have h:=aOi 2 1;rw [aBW] at h;refine Ev.bind h ?_;simp only [if_true];unfold dG.f;simp only [if_true];unfold fB.f;simp only [beq_self_eq_true,Option.bind_some];exact Ev.now _
end Go.Proofs.Yteofcbkjhdadpaa
namespace Go.Proofs.Yteofcbkjhdadpaa
open Go.RowKit Go.Proofs.aG.aX Go.Proofs.Yteofcbkjhdadpaa.Pr
end Go.Proofs.Yteofcbkjhdadpaa
namespace Go.Proofs.Yteofcbkjhdadpaa
open Go.RowKit Go.Proofs.aG.aX Go.Proofs.Yteofcbkjhdadpaa.Pr
end Go.Proofs.Yteofcbkjhdadpaa
namespace Go.Proofs.Yteofcbkjhdadpaa
open Go.RowKit Go.Proofs.aG.aX Go.Proofs.Yteofcbkjhdadpaa.Pr
/-! the document's Pick -/
theorem aHO {zs : List Nat} {i : Nat} (hi : i < zs.length) : rd (nZ zs) (i : Int) = ((zs.getD i 0 : Nat) : Int):=by
 unfold rd nZ;rw [Int.toNat_natCast,List.getD_eq_getElem?_getD,List.getElem?_map,List.getElem?_eq_getElem hi,List.getD_eq_getElem?_getD,List.getElem?_eq_getElem hi];rfl
/-! the rows that are chosen -/
structure aZr (n : Nat) (zs : List Nat) : Prop where
 len : zs.length = n
 lt : ∀ i,i < n→zs.getD i 0 < n
 ne : ∀ i i',i < n→i' < n→i≠i'→zs.getD i 0≠zs.getD i' 0
theorem aKu (r c : Int) (l : List Int) : dG.f r c l r c l = some true:=by
 unfold dG.f;rw [if_pos rfl,if_pos rfl];unfold fB.f;rw [beq_self_eq_true];rfl
theorem YS {α : Type} {g : Option α} {r : α} (h : g = some r) : Ev (fun _ => g) r:=⟨0,fun _ _ => h⟩
theorem QU {α : Type} {g f : Nat→Option α} {r : α} (h : ∀ k,g k = f k) (e : Ev f r) : Ev g r:=by
 rw [show g = f from funext h];exact e
end Go.Proofs.Yteofcbkjhdadpaa
namespace Go.Proofs.Yteofcbkjhdadpaa
open Go.RowKit Go.Proofs.aG.aX Go.Proofs.Yteofcbkjhdadpaa.Pr
section
variable {r c : Nat} {xs : List UInt8}
end
end Go.Proofs.Yteofcbkjhdadpaa
namespace Go.Proofs.Yteofcbkjhdadpaa
open Go.RowKit Go.Proofs.aG.aX Go.Proofs.Yteofcbkjhdadpaa.Pr
end Go.Proofs.Yteofcbkjhdadpaa
namespace Go.Proofs.Yteofcbkjhdadpaa
open Go.RowKit Go.Proofs.aG.aX Go.Proofs.Yteofcbkjhdadpaa.Pr
theorem aKk (xs : List UInt8) (i : Nat) : (nI xs).set i 1 = nI (xs.set i 1):=by simp [nI,List.map_set]
theorem TR {n c : Nat} {xs : List UInt8} (hx : xs.length = n * c) : DW n c (fH (vQ n c xs).1) (vQ n c xs).2.2∧dL n c (vQ n c xs).1:=by
 have h:=(mE n c (iF xs n c) (List.replicate n [])).toF (sH hx) (sJ n);exact ⟨h.1.xY,h.2.1⟩
section
variable {n c : Nat} {xs : List UInt8} {R : List (List UInt8)} {p : List Nat} (hn : n≤64) (hc : c≤64) (hR : dL n c R) (hr : DW n c (fH R) p)
include hn hc hR hr
omit hR hr in
theorem aKw {i j : Nat} (hi : i < n) (hj : j < c) : wrap64 (wrap64 ((i : Int) * (c : Int)) + (j : Int)) = ((i * c + j : Nat) : Int):=by
 have h1 : i * c≤64 * 64:=Nat.mul_le_mul (by omega) hc;rw [w64 (e:=(i : Int) * (c : Int)) (by rw [← Int.natCast_mul];omega) (by rw [← Int.natCast_mul];omega),← Int.natCast_mul,w64 (by omega) (by omega),Int.natCast_add]
theorem MT {a j rows : Nat} (hj : j < c) {acc : List UInt8} (hacc : acc.length≤j * c) (hrows : rows≤j) {T : Int×Int×List Int×Int}
  (h : Ev (fun q => bG.l0 q (nZ p) (a : Int) (c : Int) ((j + 1 : Nat) : Int) (n : Int) (c : Int) (nI xs) (n : Int) (c : Int) (nI R.flatten) ((rows + 1 : Nat) : Int) (c : Int) (nI (acc ++ WU c R p j p.length))) T) :
  ∀ d i,i + d = p.length→Ev (fun q => bG.l1 q (nZ p) (a : Int) (j : Int) (nI (WU c R p j i)) (c : Int) (j : Int) (nZ p) (p.length : Int) (i : Int) (n : Int) (c : Int) (nI xs) (n : Int) (c : Int) (nI R.flatten) (rows : Int) (c : Int) (nI acc)) T:=by
 have hb : j * c≤64 * 64:=Nat.mul_le_mul (by omega) hc;intro d
 induction d with
 | zero =>
  intro i hi;obtain rfl : i = p.length:=by omega
  refine Ev.step (fun q => ?_) h;have hl:=BL c R p j p.length;rw [bG.l1,if_neg (by first | omega | (rw [uE];omega)),if_pos (by rw [aZ,aZ];omega),eM (by omega),eM (by omega),aCn]
 | succ d ih =>
  intro i hi;have hip : i < p.length:=by omega
  have hin : i < n:=by have:=hr.le;omega
  have hpc:=hr.ltc i hip;refine Ev.step (fun q => ?_) (ih (i + 1) (by omega));rw [bG.l1,if_pos (by omega),if_pos (by omega),if_pos (by rw [uE];omega),aKw hn hc hin hj,if_pos (by omega),if_pos (by rw [aZ,iA hR];have:=jV hin hj;omega),aHO hip,if_pos (by omega),if_pos (by rw [aZ,BL];omega),Int.toNat_natCast,AJ,tJ hR hin hj,BK,eM (by omega)];rfl
theorem MU : ∀ d j a rows (acc : List UInt8),j + d = c→yK p j a→rows≤j→acc.length≤j * c →
  Ev (fun q => bG.l0 q (nZ p) (a : Int) (c : Int) (j : Int) (n : Int) (c : Int) (nI xs) (n : Int) (c : Int) (nI R.flatten) (rows : Int) (c : Int) (nI acc)) (((rows + (iM c R p d j a).length : Nat) : Int),(c : Int),nI (acc ++ (iM c R p d j a).flatten),(0 : Int)):=by
 intro d
 induction d with
 | zero =>
  intro j a rows acc hj ha hrows hacc;refine Ev.step (f:=fun _ => some ((rows : Int),(c : Int),nI acc,(0 : Int))) (fun q => ?_) ?_
  ·rw [bG.l0,if_neg (by omega)]
  ·simp only [iM,List.length_nil,List.flatten_nil,List.append_nil,Nat.add_zero]
   exact Ev.now _
 | succ d ih =>
  intro j a rows acc hj ha hrows hacc;have hjc : j < c:=by omega
  by_cases e : a < p.length∧p.getD a 0 = j
  ·have h1:=ih (j + 1) (a + 1) rows acc (by omega) (ha.yes hr.mono e.1 e.2) (by omega) (by rw [Nat.add_mul];omega)
   rw [iM,if_pos e];refine Ev.step (f:=fun q => bG.j1 q (nZ p) (a : Int) (j : Int) (c : Int) (j : Int) true (n : Int) (c : Int) (nI xs) (n : Int) (c : Int) (nI R.flatten) (rows : Int) (c : Int) (nI acc)) (fun q => ?_) (Ev.step (fun q => ?_) h1)
   ·rw [bG.l0,if_pos (by omega),if_pos (by rw [uE];omega),if_pos (by omega),aHO e.1,e.2,beq_self_eq_true]
   ·rw [bG.j1,if_pos rfl,eM (by have:=hr.le;omega),eM (by omega)]
  ·have hno:=(ha.no hr.mono e).1
   have h1:=ih (j + 1) a (rows + 1) (acc ++ WU c R p j p.length) (by omega) hno (by omega) (by rw [List.length_append,BL,Nat.add_mul];omega);rw [iM,if_neg e,List.flatten_cons,List.length_cons,← List.append_assoc,show rows + ((iM c R p d (j + 1) a).length + 1) = rows + 1 + (iM c R p d (j + 1) a).length by omega];have h2:=MT hn hc hR hr hjc hacc hrows h1 p.length 0 (by omega);have hj1 : Ev (fun q => bG.j1 q (nZ p) (a : Int) (j : Int) (c : Int) (j : Int) false (n : Int) (c : Int) (nI xs) (n : Int) (c : Int) (nI R.flatten) (rows : Int) (c : Int) (nI acc)) (((rows + 1 + (iM c R p d (j + 1) a).length : Nat) : Int),(c : Int),nI (acc ++ WU c R p j p.length ++ (iM c R p d (j + 1) a).flatten),(0 : Int)):=by
    refine Ev.step (fun q => ?_) h2;rw [bG.j1,if_neg (by simp),if_pos (by omega),if_pos (by rw [Int.toNat_natCast];omega),Option.bind_some,if_pos (by omega),if_pos (by simp;omega),Int.toNat_natCast,Int.toNat_natCast,KI,aKk];rw [uE];rfl
   by_cases e1 : a < p.length
   ·refine Ev.step (fun q => ?_) hj1
    rw [bG.l0,if_pos (by omega),if_pos (by rw [uE];omega),if_pos (by omega),aHO e1,show ((((p.getD a 0 : Nat) : Int) == (j : Int)) = false) from by
     rw [beq_eq_false_iff_ne];exact fun h => e ⟨e1,by omega⟩]
   ·refine Ev.step (fun q => ?_) hj1
    rw [bG.l0,if_pos (by omega),if_neg (by rw [uE];omega)]
end
def aKx (n c : Nat) (xs : List UInt8) : List UInt8:=(aHY c (vQ n c xs).1 (vQ n c xs).2.2).flatten
theorem aCg {n c : Nat} {xs : List UInt8} (hn : n≤64) (hc : c≤64) (hx : xs.length = n * c) : iT.f (n : Int) (c : Int) (nI xs) = some ((n : Int),(c : Int),nI (vQ n c xs).1.flatten,nZ (vQ n c xs).2.2,0):=by
 unfold iT.f;rw [BO,if_pos rfl,aZ,lR hn hc hx,if_pos rfl,nN,Int.toNat_natCast,Int.toNat_natCast]
theorem aPB (p : List Nat) : yK p 0 0:=⟨fun q h => by omega,fun q _ _ => Nat.zero_le _,Nat.zero_le _⟩
section
variable {n c : Nat} {xs : List UInt8} (hn : n≤64) (hc : c≤64) (hx : xs.length = n * c)
include hn hc hx
theorem aIk : Ev (fun q => bG.f q (n : Int) (c : Int) (nI xs)) (((c - wZ n c xs : Nat) : Int),(c : Int),nI (aKx n c xs),(0 : Int)):=by
 obtain ⟨hr,hR⟩:=TR hx;have h:=MU (xs:=xs) hn hc hR hr c 0 0 0 [] (by omega) (aPB _) (Nat.le_refl _) (by simp);have hl:=(UC (R:=(vQ n c xs).1) hr.mono hr.ltc).len;rw [Nat.zero_add,List.nil_append] at h;have e : (iM c (vQ n c xs).1 (vQ n c xs).2.2 c 0 0).length = c - wZ n c xs:=hl;rw [e] at h;unfold bG.f;refine Ev.bind (YS (aCg hn hc hx)) (QU (fun q => if_pos rfl) ?_);exact h
end
/-! Check -/
def wA (a0 a1 : Int) (xs : List UInt8) : Int×Int×List Int×Int :=
 if lJ a0 a1 xs.length = true then (if wZ a0.toNat a1.toNat xs < a1.toNat then (0,0,[],6) else (a0 - a1,a0,nI (aKx a1.toNat a0.toNat (uG a0.toNat a1.toNat xs)),0)) else (0,0,[],3)
theorem aEY {n k : Nat} {xs : List UInt8} (hn : n≤64) (hk : k≤n) (hx : xs.length = n * k) : lJ (n : Int) (k : Int) xs.length = true:=by
 unfold lJ;rw [lR hn (show k≤64 by omega) hx,Bool.true_and,decide_eq_true_eq];omega
theorem aIj (a0 a1 : Int) (l : List Int) : jY.f a0 a1 l = some (bM a0 a1 l.length):=by
 unfold jY.f;rw [YP,Option.bind_some]
 by_cases h0 : 0≤a0∧a0≤64
 ·rw [decide_eq_true h0,if_pos rfl,YP,Option.bind_some]
  by_cases h1 : 0≤a1∧a1≤64
  ·rw [decide_eq_true h1,if_pos rfl]
   unfold bM;obtain ⟨a,rfl⟩ : ∃ a : Nat,a0 = a:=⟨a0.toNat,by omega⟩
   obtain ⟨b,rfl⟩ : ∃ b : Nat,a1 = b:=⟨a1.toNat,by omega⟩
   have hb : a * b≤64 * 64:=Nat.mul_le_mul (by omega) (by omega);rw [w64 (by rw [← Int.natCast_mul];omega) (by rw [← Int.natCast_mul];omega)]
   congr 1
   by_cases e : (l.length : Int) = (a : Int) * (b : Int)
   ·rw [show ((l.length : Int) == (a : Int) * (b : Int)) = true from by rw [e,beq_self_eq_true]]
    exact (decide_eq_true ⟨h0,h1,e⟩).symm
   ·rw [show ((l.length : Int) == (a : Int) * (b : Int)) = false from by rw [beq_eq_false_iff_ne];exact e]
    exact (decide_eq_false (fun h => e h.2.2)).symm
  ·rw [decide_eq_false h1,if_neg (by simp)]
   unfold bM
   congr 1
   exact (decide_eq_false (fun h => h1 h.2.1)).symm
 ·rw [decide_eq_false h0,if_neg (by simp)]
  unfold bM
  congr 1
  exact (decide_eq_false (fun h => h0 h.1)).symm
theorem aOg (a0 a1 : Int) (l : List Int) : jD.f a0 a1 l = some (lJ a0 a1 l.length):=by
 unfold jD.f;rw [aIj,Option.bind_some];unfold lJ
 by_cases h : bM a0 a1 l.length = true
 ·rw [h,if_pos rfl,Bool.true_and]
 ·rw [if_neg h,Bool.eq_false_iff.2 h,Bool.false_and]
theorem aIi (a0 a1 : Int) (xs : List UInt8) : dQ.f a0 a1 (nI xs) = some (if bM a0 a1 xs.length = true then (a1,a0,nI (uG a0.toNat a1.toNat xs),0) else (0,0,[],3)):=by
 unfold dQ.f;rw [BO,aZ,nN];simp only [if_true]
 split <;> rfl
theorem aEW {n k : Nat} {xs : List UInt8} (hk : k≤n) (hx : xs.length = n * k) (h : wZ n k xs = k) : wZ k n (uG n k xs) = k:=by
 refine aFw (uO n k xs) fun z hz => ?_
 obtain ⟨L',A',hF⟩:=aBX hx;refine hF.aFy.1 h z fun i hi => ?_
 rw [← hz i hi];refine kN fun j hj => ?_
 rw [aDe hx hi hj,Gf.mul_comm];unfold uG;rw [aGc _ hj hi];rfl
theorem aDf {n k : Nat} {xs : List UInt8} (hx : xs.length = n * k) : wZ n k xs≤k:=by
 obtain ⟨L',A',hF⟩:=aBX hx;exact hF.xY.aDo
theorem aLr {n c : Nat} {xs : List UInt8} (hn : n≤64) (hc : c≤64) (hx : xs.length = n * c) : gW.f (n : Int) (c : Int) (nI xs) = some ((wZ n c xs : Int),0):=by
 unfold gW.f;rw [BO,if_pos rfl,aZ,lR hn hc hx,if_pos rfl,nN,Int.toNat_natCast,Int.toNat_natCast];rfl
theorem QY {n k : Nat} {xs : List UInt8} (hn : n≤64) (hk : k≤n) (hx : xs.length = n * k) (hr : wZ n k xs = k) : wA (n : Int) (k : Int) xs = (((n - k : Nat) : Int),(n : Int),nI (aKx k n (uG n k xs)),(0 : Int)):=by
 unfold wA;rw [aEY hn hk hx,if_pos rfl,Int.toNat_natCast,Int.toNat_natCast,hr,if_neg (by omega),Int.natCast_sub hk]
theorem aLs (a0 a1 : Int) (xs : List UInt8) : Ev (fun q => tU.f q a0 a1 (nI xs)) (wA a0 a1 xs):=by
 unfold tU.f;refine Ev.bind (YS (aOg a0 a1 (nI xs))) ?_;rw [aZ]
 by_cases hm : lJ a0 a1 xs.length = true
 ·obtain ⟨n,k,rfl,rfl,hn,hk,hx⟩:=BC hm
  refine QU (fun q => if_pos hm) (Ev.bind (YS (aLr hn (show k≤64 by omega) hx)) (QU (fun q => if_pos rfl) ?_))
  by_cases hr : wZ n k xs = k
  ·rw [QY hn hk hx hr]
   have ht : dQ.f (n : Int) (k : Int) (nI xs) = some ((k : Int),(n : Int),nI (uG n k xs),0):=by
    rw [aIi,lR hn (show k≤64 by omega) hx,if_pos rfl,Int.toNat_natCast,Int.toNat_natCast]
   have hke:=aIk (show k≤64 by omega) hn (uO n k xs);rw [aEW hk hx hr] at hke;refine QU (fun q => if_neg (by rw [hr];exact Int.lt_irrefl _)) (Ev.bind (YS ht) (QU (fun q => if_pos rfl) (Ev.bind hke (Ev.now _))))
  ·have hlt : wZ n k xs < k:=by have:=aDf hx;omega
   have hv : wA (n : Int) (k : Int) xs = (0,0,[],6):=by
    unfold wA;rw [hm,if_pos rfl,Int.toNat_natCast,Int.toNat_natCast,if_pos hlt]
   rw [hv];exact QU (fun q => if_pos (by show ((wZ n k xs : Nat) : Int) < (k : Int);omega)) (Ev.now _)
 ·have hv : wA a0 a1 xs = (0,0,[],3):=by unfold wA;rw [if_neg hm]
  rw [hv];exact QU (fun q => if_neg hm) (Ev.now _)
end Go.Proofs.Yteofcbkjhdadpaa
namespace Go.Proofs.Yteofcbkjhdadpaa
open Go.RowKit Go.Proofs.aG.aX Go.Proofs.Yteofcbkjhdadpaa.Pr
theorem aLq (a : UInt8) : eK.f (a.toNat : Int) = some (((Gf.inv a).toNat : Int),Gf.EX a):=by
 unfold eK.f;rw [sK,zR];rfl
theorem KN {n c : Nat} {L : List (List UInt8)} (h : dL n c L) {i j : Nat} (hi : i < n) (hj : j < c) (y : UInt8) : (nI L.flatten).set (i * c + j) (y.toNat : Int) = nI (L.set i ((L.getD i []).set j y)).flatten:=by rw [BK,aAH h hi hj]
def DT (a b : List UInt8) (l : Nat) : List UInt8:=a.take l ++ b.drop l
theorem QC {a b : List UInt8} {c l : Nat} (h1 : a.length = c) (h2 : b.length = c) (hl : l≤c) : (DT a b l).length = c:=by
 unfold DT;rw [List.length_append,List.length_take,List.length_drop];omega
theorem KK (a b : List UInt8) : DT a b 0 = b:=by simp [DT]
theorem QD {a b : List UInt8} {c : Nat} (h1 : a.length = c) (h2 : b.length = c) : DT a b c = a:=by
 unfold DT;rw [List.take_of_length_le (by omega),List.drop_eq_nil_of_le (by omega),List.append_nil]
theorem WR {a b : List UInt8} {c l : Nat} (h1 : a.length = c) (h2 : b.length = c) (hl : l < c) : (DT a b l).getD l 0 = b.getD l 0:=by
 unfold DT;rw [List.getD_eq_getElem?_getD,List.getElem?_append_right (by rw [List.length_take];omega),List.length_take,Nat.min_eq_left (by omega),Nat.sub_self,List.getElem?_drop,Nat.add_zero,← List.getD_eq_getElem?_getD]
theorem GV {a b : List UInt8} {c l : Nat} (h1 : a.length = c) (h2 : b.length = c) (hl : l < c) : (DT a b l).set l (a.getD l 0) = DT a b (l + 1):=by
 unfold DT;rw [List.set_append_right _ _ (by rw [List.length_take];omega),List.length_take,Nat.min_eq_left (by omega),Nat.sub_self,List.drop_eq_getElem_cons (by omega : l < b.length),cL,List.take_succ_eq_append_getElem (by omega),List.append_assoc,List.getD_eq_getElem?_getD,List.getElem?_eq_getElem (by omega)];rfl
def uH (L : List (List UInt8)) (i top : Nat) (d : UInt8) (l : Nat) : List (List UInt8):=(L.set i (DT (L.getD top []) (L.getD i []) l)).set top (DT ((L.getD i []).map (Gf.mul d)) (L.getD top []) l)
section
variable {n c i top l : Nat} {L : List (List UInt8)} {d : UInt8}
theorem zT (h : dL n c L) (hi : i < n) (ht : top < n) (hl : l≤c) : dL n c (uH L i top d l) :=
 (h.set hi (QC (h.wid top ht) (h.wid i hi) hl)).set ht (QC (by rw [List.length_map];exact h.wid i hi) (h.wid top ht) hl)
theorem sF (h : dL n c L) (hi : i < n) (ht : top < n) (k : Nat) : (uH L i top d l).getD k [] = if k = top then DT ((L.getD i []).map (Gf.mul d)) (L.getD top []) l else if k = i then DT (L.getD top []) (L.getD i []) l else L.getD k []:=by
 unfold uH;rw [eY (by rw [List.length_set,h.len];exact ht),eY (by rw [h.len];exact hi)]
theorem aBM (h : dL n c L) (hi : i < n) (ht : top < n) : uH L i top d 0 = L:=by
 refine oZ (zT h hi ht (Nat.zero_le _)).len h.len fun k hk => ?_
 rw [sF h hi ht,KK,KK]
 split
 ·next e => rw [e]
 ·split
  ·next e => rw [e]
  ·rfl
theorem aFk (h : dL n c L) (hi : i < n) (ht : top < n) : uH L i top d c = kM L i top d:=by
 unfold uH kM;rw [QD (h.wid top ht) (h.wid i hi),QD (by rw [List.length_map];exact h.wid i hi) (h.wid top ht)]
theorem aBN (h : dL n c L) (hi : i < n) (ht : top < n) (hl : l < c) :
  ((uH L i top d l).set i (((uH L i top d l).getD i []).set l ((L.getD top []).getD l 0))).set top ((((uH L i top d l).set i (((uH L i top d l).getD i []).set l ((L.getD top []).getD l 0))).getD top []).set l (Gf.mul d ((L.getD i []).getD l 0))) = uH L i top d (l + 1):=by
 have r:=zT (d:=d) h hi ht (Nat.le_of_lt hl);have wi:=h.wid i hi;have wt:=h.wid top ht;have wm : ((L.getD i []).map (Gf.mul d)).length = c:=by rw [List.length_map];exact wi
 have em : ((L.getD i []).map (Gf.mul d)).getD l 0 = Gf.mul d ((L.getD i []).getD l 0):=GW d _ l;refine oZ (by simp [r.len]) (zT h hi ht hl).len fun k hk => ?_
 rw [eY (by rw [List.length_set,r.len];exact ht),eY (by rw [r.len];exact hi),eY (by rw [r.len];exact hi),sF h hi ht,sF h hi ht,sF h hi ht,sF h hi ht]
 by_cases h1 : k = top
 ·rw [if_pos h1,if_pos h1]
  by_cases h2 : top = i
  ·subst h2
   rw [if_pos rfl,if_pos rfl,List.set_set,← em,GV wm wt hl]
  ·rw [if_neg h2,if_pos rfl,← em,GV wm wt hl]
 ·rw [if_neg h1,if_neg h1,if_neg h1]
  by_cases h2 : k = i
  ·rw [if_pos h2,if_pos h2,← h2,if_neg h1,if_pos rfl,h2,GV wt wi hl]
  ·rw [if_neg h2,if_neg h2,if_neg h2]
end
section
variable {n c : Nat} (hn : n≤64) (hc : c≤65)
include hn hc
theorem aCb {piv : List Int} {j top k : Nat} {S E : List (List UInt8)} {r : Int×Int×List Int×List Int} (hS : dL n c S) (hE : dL n c E) (ht : top < n) (hk : k < n) (hkt : k≠top) (y : UInt8) (row : List UInt8) (hrow : row.length = c) (hT : E.getD top [] = S.getD top [])
  (hr : Ev (fun q => aI.l3 q piv (j : Int) (top : Int) ((k + 1 : Nat) : Int) (n : Int) (c : Int) (nI (E.set k (Gf.mL row y (S.getD top []))).flatten)) r) :
  ∀ d l,l + d = c→Ev (fun q => aI.l4 q piv (j : Int) (top : Int) (k : Int) (y.toNat : Int) (l : Int) (n : Int) (c : Int) (nI (E.set k (kR row (S.getD top []) y l)).flatten)) r:=by
 have hTl : (S.getD top []).length = c:=hS.wid top ht;intro d
 induction d with
 | zero =>
  intro l hl;obtain rfl : l = c:=by omega
  refine Ev.step (f:=fun q => aI.j5 q piv (j : Int) (top : Int) (k : Int) (y.toNat : Int) (l : Int) false (n : Int) (l : Int) (nI (E.set k (kR row (S.getD top []) y l)).flatten)) (fun q => ?_) (Ev.step (fun q => ?_) hr)
  ·rw [aI.l4,if_neg (by omega)]
  ·rw [aI.j5,if_neg (by simp),eM (by omega),TU hrow hTl]
 | succ d ih =>
  intro l hl;have hlc : l < c:=by omega
  have hEs : dL n c (E.set k (kR row (S.getD top []) y l)):=hE.set hk (KG hrow hTl (by omega));obtain ⟨b1,b2,b3⟩:=NB hn hc hk hlc;have hfl:=iA hEs;refine Ev.step (f:=fun q => aI.j5 q piv (j : Int) (top : Int) (k : Int) (y.toNat : Int) (l : Int) true (n : Int) (c : Int) (nI (E.set k (kR row (S.getD top []) y l)).flatten)) (fun q => ?_) (Ev.step (fun q => ?_) (ih (l + 1) (by omega)))
  ·rw [aI.l4,if_pos (by omega),show ((k : Int) != (top : Int)) = true by rw [bne_iff_ne];omega]
  ·have e1 : (E.set k (kR row (S.getD top []) y l)).flatten.getD (k * c + l) 0 = row.getD l 0:=by
    rw [tJ hEs hk hlc];unfold fH;rw [eY (by rw [hE.len];exact hk),if_pos rfl,aAk hrow hTl hlc]
   have e2 : fH (E.set k (kR row (S.getD top []) y l)) top l = (S.getD top []).getD l 0:=by
    unfold fH;rw [eY (by rw [hE.len];exact hk),if_neg (fun e => hkt e.symm),hT]
   rw [aI.j5,if_pos rfl,pO b2,if_pos (by omega),if_pos (by rw [aZ,hfl];omega),uN hn hc hEs ht hlc,Option.bind_some,WK,Option.bind_some,AJ,e1,e2,xP,Int.toNat_natCast,KN hEs hk hlc,eY (by rw [hE.len];exact hk),if_pos rfl,List.set_set,PZ hrow hTl hlc,eM (by omega)]
theorem aCc {piv : List Int} {j top : Nat} {S : List (List UInt8)} {r : Int×Int×List Int×List Int} (hS : dL n c S) (ht : top < n) (hj : j < c) (hp : piv.length < 17592186044416)
  (hr : Ev (fun q => aI.l0 q (piv ++ [(j : Int)]) ((j + 1 : Nat) : Int) (n : Int) (c : Int) (nI (dN top j n S).flatten)) r) :
  ∀ d k,k + d = n→Ev (fun q => aI.l3 q piv (j : Int) (top : Int) (k : Int) (n : Int) (c : Int) (nI (dN top j k S).flatten)) r:=by
 intro d
 induction d with
 | zero =>
  intro k hk;obtain rfl : k = n:=by omega
  refine Ev.step (fun q => ?_) hr;rw [aI.l3,if_neg (by omega),if_pos hp,eM (by omega)]
 | succ d ih =>
  intro k hk;have hkn : k < n:=by omega
  have rE:=kS hS ht k (by omega) (j:=j);have hrow : (dN top j k S).getD k [] = S.getD k []:=by rw [rE.2,if_neg (by omega)]
  have hyk : fH (dN top j k S) k j = fH S k j:=by unfold fH;rw [hrow]
  have hT : (dN top j k S).getD top [] = S.getD top []:=by rw [rE.2,if_neg (by simp)]
  by_cases hkt : k = top
  ·refine Ev.step (f:=fun q => aI.l4 q piv (j : Int) (top : Int) (k : Int) ((fH S k j).toNat : Int) ((0 : Nat) : Int) (n : Int) (c : Int) (nI (dN top j k S).flatten)) (fun q => ?_) (Ev.step (f:=fun q => aI.j5 q piv (j : Int) (top : Int) (k : Int) ((fH S k j).toNat : Int) ((0 : Nat) : Int) false (n : Int) (c : Int) (nI (dN top j k S).flatten)) (fun q => ?_) (Ev.step (fun q => ?_) (ih (k + 1) (by omega))))
   ·rw [aI.l3,if_pos (by omega),uN hn hc rE.1 hkn hj,hyk]
    rfl
   ·rw [aI.l4,if_pos (by omega),hkt]
    simp
   ·rw [aI.j5,if_neg (by simp),eM (by omega)]
    have e : dN top j (k + 1) S = dN top j k S:=by rw [hkt];exact UT
    rw [e]
  ·have e0 : (dN top j k S).set k (kR (S.getD k []) (S.getD top []) (fH S k j) 0) = dN top j k S:=by
    rw [PY];refine oZ (by rw [List.length_set];exact rE.1.len) rE.1.len fun p hp2 => ?_
    rw [eY (by rw [rE.1.len];exact hkn)]
    split
    ·next e => rw [e];exact hrow.symm
    ·rfl
   have h4:=aCb hn hc hS rE.1 ht hkn hkt (fH S k j) (S.getD k []) (hS.wid k hkn) hT (piv:=piv) (j:=j) (r:=r) (by rw [UU hS ht hkn hkt];exact ih (k + 1) (by omega)) c 0 (by omega);rw [e0] at h4;refine Ev.step (fun q => ?_) h4;rw [aI.l3,if_pos (by omega),uN hn hc rE.1 hkn hj,hyk];rfl
theorem aCd {piv : List Int} {j i top : Nat} {L : List (List UInt8)} {d : UInt8} {r : Int×Int×List Int×List Int} (h : dL n c L) (hi : i < n) (ht : top < n)
  (hr : Ev (fun q => aI.l3 q piv (j : Int) (top : Int) ((0 : Nat) : Int) (n : Int) (c : Int) (nI (kM L i top d).flatten)) r) :
  ∀ e l,l + e = c→Ev (fun q => aI.l2 q piv (j : Int) (top : Int) (i : Int) (d.toNat : Int) (l : Int) (n : Int) (c : Int) (nI (uH L i top d l).flatten)) r:=by
 intro e
 induction e with
 | zero =>
  intro l hl;obtain rfl : l = c:=by omega
  refine Ev.step (fun q => ?_) hr;rw [aI.l2,if_neg (by omega),aFk h hi ht];rfl
 | succ e ih =>
  intro l hl;have hlc : l < c:=by omega
  have hs:=zT (d:=d) h hi ht (l:=l) (by omega);have wi:=h.wid i hi;have wt:=h.wid top ht;have wm : ((L.getD i []).map (Gf.mul d)).length = c:=by rw [List.length_map];exact wi
  obtain ⟨b1,b2,b3⟩:=NB hn hc hi hlc;obtain ⟨b4,b5,_⟩:=NB hn hc ht hlc;have e1 : fH (uH L i top d l) top l = (L.getD top []).getD l 0:=by
   unfold fH;rw [sF h hi ht,if_pos rfl,WR wm wt hlc]
  have e2 : fH (uH L i top d l) i l = (L.getD i []).getD l 0:=by
   unfold fH;rw [sF h hi ht]
   by_cases h2 : i = top
   ·rw [if_pos h2,WR wm wt hlc,h2]
   ·rw [if_neg h2,if_pos rfl,WR wt wi hlc]
  have hs2 : dL n c ((uH L i top d l).set i (((uH L i top d l).getD i []).set l ((L.getD top []).getD l 0))):=hs.set hi (by rw [List.length_set];exact hs.wid i hi);refine Ev.step (fun q => ?_) (ih (l + 1) (by omega));rw [aI.l2,if_pos (by omega),uN hn hc hs ht hlc,Option.bind_some,uN hn hc hs hi hlc,Option.bind_some,e1,e2,pO b2,if_pos (by omega),if_pos (by rw [aZ,iA hs];omega),WK,Option.bind_some,pO b5,if_pos (by omega),if_pos (by rw [aZ,iA hs];omega),Int.toNat_natCast,Int.toNat_natCast,KN hs hi hlc,KN hs2 ht hlc,aBN h hi ht hlc,eM (by omega)]
theorem aCe {piv : List Nat} {j : Nat} {L A : List (List UInt8)} {r : Int×Int×List Int×List Int} (h : dL n c L) (hj : j < c) (ht : piv.length≤n)
  (h0 : AM L j (n - piv.length) piv.length = none→Ev (fun q => aI.l0 q (nZ piv) ((j + 1 : Nat) : Int) (n : Int) (c : Int) (nI L.flatten)) r)
  (h1 : ∀ i,AM L j (n - piv.length) piv.length = some i→Ev (fun q => aI.l2 q (nZ piv) (j : Int) (piv.length : Int) (i : Int) ((Gf.inv (fH L i j)).toNat : Int) ((0 : Nat) : Int) (n : Int) (c : Int) (nI L.flatten)) r) :
  ∀ f i,i + f = n→piv.length≤i→(AM L j (n - piv.length) piv.length = AM L j f i)→Ev (fun q => aI.l1 q (nZ piv) (j : Int) (piv.length : Int) (i : Int) (n : Int) (c : Int) (nI L.flatten)) r:=by
 intro f
 induction f with
 | zero =>
  intro i hi hp he;refine Ev.step (fun q => ?_) (h0 (by rw [he];rfl));rw [aI.l1,if_neg (by omega),eM (by omega)]
 | succ f ih =>
  intro i hi hp he
  by_cases hz : fH L i j = 0
  ·refine Ev.step (fun q => ?_) (ih (i + 1) (by omega) (by omega) (by rw [he,AM,if_neg (fun h => h hz)]))
   rw [aI.l1,if_pos (by omega),uN hn hc h (by omega) hj,Option.bind_some,hz,if_pos (by rfl),eM (by omega)]
  ·refine Ev.step (fun q => ?_) (h1 i (by rw [he,AM,if_pos hz]))
   rw [aI.l1,if_pos (by omega),uN hn hc h (by omega) hj,Option.bind_some,if_neg (fun e => hz (UInt8.toNat_inj.1 (by simpa using e))),aLq,Option.bind_some];rfl
theorem EU : ∀ (f j : Nat) (L A : List (List UInt8)) (piv : List Nat),j + f = c→dL n c L→dL n 0 A→piv.length≤n→piv.length≤j →
  Ev (fun q => aI.l0 q (nZ piv) (j : Int) (n : Int) (c : Int) (nI L.flatten)) ((n : Int),(c : Int),nI (ER n c f piv.length j L A piv).1.flatten,nZ (ER n c f piv.length j L A piv).2.2)
 | 0,j,L,A,piv,hj,h,hA,ht,hpj => by
  refine Ev.step (fun q => ?_) (Ev.now _);rw [aI.l0,if_neg (by omega)];rfl
 | f + 1,j,L,A,piv,hj,h,hA,ht,hpj => by
  have hjc : j < c:=by omega
  have hl1:=aCe hn hc (piv:=piv) (A:=A) (r:=((n : Int),(c : Int),nI (ER n c (f + 1) piv.length j L A piv).1.flatten,nZ (ER n c (f + 1) piv.length j L A piv).2.2)) h hjc ht
   (fun hf => by
    rw [ER,hf];exact EU f (j + 1) L A piv (by omega) h hA ht (by omega))
   (fun i hf => by
    obtain ⟨q1,q2,q3,q4⟩:=FF hf;have hi : i < n:=by omega
    have htn : piv.length < n:=by omega
    have hS:=jR h hi htn (Gf.inv (fH L i j));have hSA:=jR hA hi htn (Gf.inv (fH L i j));have hEr:=(kS hS htn n (Nat.le_refl _) (j:=j)).1;have hEA:=(oH hS hSA htn n (Nat.le_refl _) (j:=j)).1;have h0:=EU f (j + 1) (dN piv.length j n (kM L i piv.length (Gf.inv (fH L i j)))) (iU piv.length j (kM L i piv.length (Gf.inv (fH L i j))) n (kM A i piv.length (Gf.inv (fH L i j)))) (piv ++ [j]) (by omega) hEr hEA (by rw [List.length_append];simp;omega) (by rw [List.length_append];simp;omega);have e : ER n c (f + 1) piv.length j L A piv = ER n c f (piv ++ [j]).length (j + 1) (dN piv.length j n (kM L i piv.length (Gf.inv (fH L i j)))) (iU piv.length j (kM L i piv.length (Gf.inv (fH L i j))) n (kM A i piv.length (Gf.inv (fH L i j)))) (piv ++ [j]):=by
     rw [ER,hf,List.length_append];rfl
    rw [← e] at h0;have e2 : nZ (piv ++ [j]) = nZ piv ++ [(j : Int)]:=by simp [nZ]
    rw [e2] at h0;have h3:=aCc hn hc hS htn hjc (by rw [uE];omega) h0 n 0 (by omega);have h2:=aCd hn hc h hi htn h3 c 0 (by omega);rw [aBM h hi htn] at h2;exact h2)
   (n - piv.length) piv.length (by omega) (Nat.le_refl _) rfl
  refine Ev.step (fun q => ?_) hl1;rw [aI.l0,if_pos (by omega),uE]
theorem aKc {L : List (List UInt8)} (h : dL n c L) : Ev (fun q => aI.f q (n : Int) (c : Int) (nI L.flatten)) ((n : Int),(c : Int),nI (wX n c L (List.replicate n [])).1.flatten,nZ (wX n c L (List.replicate n [])).2.2):=by
 have h0:=EU hn hc c 0 L (List.replicate n []) [] (by omega) h (sJ n) (Nat.zero_le _) (Nat.zero_le _);exact h0
end
end Go.Proofs.Yteofcbkjhdadpaa
namespace Go.Proofs.Yteofcbkjhdadpaa
open Go.RowKit Go.Proofs.aG.aX Go.Proofs.Yteofcbkjhdadpaa.Pr
def AZ (c q : Nat) : List (List UInt8):=(WX c).map (DU q)
theorem aAM {c q i : Nat} (hq : q < c) (hi : i < c) : (AZ c q).getD i [] = [(qF c q).getD i 0]:=by
 unfold AZ;rw [lS (by simp [DU]),HJ hi];unfold DU;rw [List.take_one,List.head?_drop,List.getElem?_eq_getElem (by rw [vD];exact hq)];rw [List.getD_eq_getElem?_getD,List.getElem?_eq_getElem (by rw [vD];exact hi)];unfold qF;simp only [Option.toList_some,Option.getD_some,List.getElem_set,List.getElem_replicate,List.cons.injEq,and_true]
 by_cases e : i = q
 ·rw [if_pos e,if_pos e.symm]
 ·rw [if_neg e,if_neg (fun h => e h.symm)]
theorem KQ {c q : Nat} (hq : q < c) : dL c 1 (AZ c q):=⟨by unfold AZ;rw [List.length_map,NK],fun i hi => by rw [aAM hq hi];rfl⟩
section
variable {c : Nat} {L : List (List UInt8)} (hL : dL c c L)
include hL
theorem aHh {q : Nat} (hq : q < c) (hp : (gH c L).2.2.length = c) :
  (wX c (c + 1) (pK L (AZ c q)) (List.replicate c [])).1 = pK (gH c L).1 ((gH c L).2.1.map (DU q))∧(wX c (c + 1) (pK L (AZ c q)) (List.replicate c [])).2.2 = (gH c L).2.2:=by
 have hm:=(mE c c L (WX c)).map (aIx hq) hL (BP c);obtain ⟨X',h2⟩:=hm.cat hL (KQ hq) rfl hp (List.replicate c []);have e:=h2.aMK;exact ⟨e.1.symm,e.2.2.symm⟩
theorem aHi {q t : Nat} (hq : q < c) (ht : t < c) : fH (pK (gH c L).1 ((gH c L).2.1.map (DU q))) t c = fH (gH c L).2.1 t q:=by
 have h1:=aAv hL;have hm : dL c 1 ((gH c L).2.1.map (DU q)):=⟨by rw [List.length_map];exact h1.2.len,fun i hi => by
  rw [lS (by simp [DU])];have:=h1.2.wid i hi;unfold DU;rw [List.length_take,List.length_drop];omega⟩
 rw [YY h1.1 hm ht,if_neg (by omega),Nat.sub_self];unfold fH;rw [lS (by simp [DU])];unfold DU;rw [List.getD_eq_getElem?_getD,List.getElem?_take_of_lt (by omega),List.getElem?_drop,Nat.add_zero,← List.getD_eq_getElem?_getD]
def yB (c : Nat) (L : List (List UInt8)) (q : Nat) : List UInt8:=(List.range c).map fun t => fH (gH c L).2.1 t q
omit hL in
theorem zX (q : Nat) : (yB c L q).length = c:=by simp [yB]
omit hL in
theorem QJ {q t : Nat} (ht : t < c) : (yB c L q).getD t 0 = fH (gH c L).2.1 t q:=by
 unfold yB;rw [List.getD_eq_getElem?_getD,List.getElem?_map,List.getElem?_range ht];rfl
theorem aHv (hc : c≤64) {q : Nat} (hq : q < c) (hp : (gH c L).2.2.length = c) :
  Ev (fun k => aW.f k (c : Int) (c : Int) (nI L.flatten) (nI (qF c q))) (nI (yB c L q),true,(0 : Int)):=by
 have hX:=vE hL (KQ hq);have hlen : (qF c q).length = c:=vD c q;have hsz : c * (c + 1)≤64 * 65:=Nat.mul_le_mul hc (by omega);obtain ⟨e1,e2⟩:=aHh hL hq hp;unfold aW.f;rw [BI,aZ,iA hL,lR hc hc rfl,aZ,hlen];simp only [Option.bind_some,if_true]
 -- the loop over the pivots
 have hl1 : ∀ d t,t + d = c→Ev (fun k => aW.l1 k (nZ (gH c L).2.2) (nI (DT (yB c L q) (List.replicate c 0) t)) (t : Int) (c : Int) (c : Int) (nI L.flatten) (c : Int) ((c + 1 : Nat) : Int) (nI (pK (gH c L).1 ((gH c L).2.1.map (DU q))).flatten)) (nI (yB c L q),true,(0 : Int)):=by
  have hR : dL c (c + 1) (pK (gH c L).1 ((gH c L).2.1.map (DU q))):=by
   rw [← e1];exact ((mE c (c + 1) (pK L (AZ c q)) (List.replicate c [])).toF hX (sJ c)).2.1
  intro d
  induction d with
  | zero =>
   intro t ht;obtain rfl : t = c:=by omega
   refine Ev.step (f:=fun _ => some (nI (yB t L q),true,(0 : Int))) (fun k => ?_) (Ev.now _);rw [aW.l1,if_neg (by rw [uE,hp];omega),QD (zX q) (by simp)]
  | succ d ih =>
   intro t ht;have htc : t < c:=by omega
   have ep : rd (nZ (gH c L).2.2) (t : Int) = (t : Int):=by
    unfold rd nZ;rw [Int.toNat_natCast,List.getD_eq_getElem?_getD,List.getElem?_map,List.getElem?_eq_getElem (by omega)];have:=aKy hL hp htc;rw [List.getD_eq_getElem?_getD,List.getElem?_eq_getElem (by omega)] at this;simp only [Option.map_some,Option.getD_some] at this ⊢;rw [this]
   refine Ev.step (fun k => ?_) (ih (t + 1) (by omega));rw [aW.l1,if_pos (by rw [uE,hp];omega),if_pos (by omega),ep,if_neg (by omega),uN hc (by omega) hR htc (by omega),Option.bind_some,if_pos (by omega),if_pos (by rw [aZ,QC (zX q) (by simp) (by omega)];omega),Int.toNat_natCast,BK,aHi hL hq htc,← QJ htc,GV (zX q) (by simp) htc,eM (by omega)]
 -- the loop that lays the wide matrix
 have hl0 : ∀ d i,i + d = c→Ev (fun k => aW.l0 k (nI (qF c q)) (i : Int) (c : Int) (c : Int) (nI L.flatten) (c : Int) ((c + 1 : Nat) : Int) (nI ((pK L (AZ c q)).take i).flatten)) (nI (yB c L q),true,(0 : Int)):=by
  intro d
  induction d with
  | zero =>
   intro i hi;obtain rfl : i = c:=by omega
   have hw:=aKc hc (show i + 1≤65 by omega) hX;rw [e1,e2] at hw;have h1:=hl1 i 0 (by omega);rw [KK] at h1;refine Ev.step (f:=fun k => (aI.f k (i : Int) ((i + 1 : Nat) : Int) (nI (pK L (AZ i q)).flatten)).bind fun JI => (if 0≤(i : Int) then (if ((i : Int) : Int).toNat≤281474976710656 then (aW.l1 k JI.2.2.2 (List.replicate ((i : Int) : Int).toNat 0) 0 (i : Int) (i : Int) (nI L.flatten) JI.1 JI.2.1 JI.2.2.1) else (none)) else (none))) (fun k => ?_) (Ev.bind hw ?_)
   ·rw [aW.l0,if_neg (by omega),List.take_of_length_le (by rw [hX.len];omega)]
   ·simp only [Int.toNat_natCast,if_pos (show (0 : Int)≤(i : Int) by omega),if_pos (show i≤281474976710656 by omega),KI]
    exact h1
  | succ d ih =>
   intro i hi;have hic : i < c:=by omega
   have hfl : ((pK L (AZ c q)).take i).flatten.length = i * (c + 1):=TB hX (by omega);have hb : i * (c + 1)≤64 * 65:=Nat.mul_le_mul (by omega) (by omega);have hadd : ((pK L (AZ c q)).take (i + 1)).flatten = ((pK L (AZ c q)).take i).flatten ++ L.getD i [] ++ [(qF c q).getD i 0]:=by
    rw [List.take_succ_eq_append_getElem (by rw [hX.len];omega),List.flatten_append,List.append_assoc]
    congr 1
    have e3 : (pK L (AZ c q))[i]'(by rw [hX.len];omega) = (pK L (AZ c q)).getD i []:=by
     rw [List.getD_eq_getElem?_getD,List.getElem?_eq_getElem (by rw [hX.len];omega)];rfl
    rw [e3,mF (by rw [hL.len,(KQ hq).len]),aAM hq hic]
    simp
   have hrow:=aHw hL hc hc hic;refine Ev.step (fun k => by rw [aW.l0,if_pos (by omega)]) (Ev.bind hrow ?_);have hw:=hL.wid i hic;have hst:=ih (i + 1) (by omega);rw [hadd] at hst;have e4 : nI (((pK L (AZ c q)).take i).flatten ++ L.getD i []) ++ [rd (nI (qF c q)) (i : Int)] = nI (((pK L (AZ c q)).take i).flatten ++ L.getD i [] ++ [(qF c q).getD i 0]):=by
    rw [AJ,aDk]
   simp only [aCn,Option.bind_some,e4,eM (show i≤9223372036854775806 by omega)];have c1 : (nI ((pK L (AZ c q)).take i).flatten).length + (nI (L.getD i [])).length < 140737488355328:=by rw [aZ,aZ];omega
   have c2 : (i : Int) < ((nI (qF c q)).length : Int):=by rw [aZ,hlen];omega
   have c3 : (nI (((pK L (AZ c q)).take i).flatten ++ L.getD i [])).length + [rd (nI (qF c q)) (i : Int)].length < 140737488355328:=by rw [aZ,List.length_append,hfl,hw];simp;omega
   simp only [if_pos c1,if_pos (show (0 : Int)≤(i : Int) by omega),if_pos c2,if_pos c3];exact hst
 refine Ev.step (fun k => ?_) (hl0 c 0 (by omega));rw [aW.j0,if_neg (by simp),eM (by omega)];rfl
theorem aHq {xs : List UInt8} (hx : xs.length = c * c) (e : iF xs c c = L) : (vQ c c xs).2.2 = (gH c L).2.2:=by
 subst e;exact (NG hx (BP c) (mE c c _ (WX c))).2.symm
theorem aNP (hc : c≤64) : Ev (fun k => aU.f k (c : Int) (c : Int) (nI L.flatten)) (if (gH c L).2.2.length < c then ((0 : Int),(0 : Int),([] : List Int),(6 : Int)) else ((c : Int),(c : Int),nI (gH c L).2.1.flatten,(0 : Int))):=by
 have hxl:=iA hL;have hsz : c * c≤64 * 64:=Nat.mul_le_mul hc hc;have hR:=(mE c c L (WX c)).toF hL (BP c);have hle : (gH c L).2.2.length≤c:=hR.1.xY.le;unfold aU.f;rw [BI,aZ,hxl,lR hc hc rfl];simp only [Option.bind_some,if_true,bne_self_eq_false];have hrank : gG.f (c : Int) (c : Int) (nI L.flatten) = some (((gH c L).2.2.length : Int),0):=by
  unfold gG.f gF.f;rw [BO,if_pos rfl,aZ,hxl,lR hc hc rfl,if_pos rfl,nN,Option.bind_some,uE,Int.toNat_natCast,aHq hL hxl (aGe hL)]
 by_cases hp : (gH c L).2.2.length < c
 ·rw [if_pos hp]
  refine Ev.step (f:=fun _ => some ((0 : Int),(0 : Int),([] : List Int),(6 : Int))) (fun k => ?_) (Ev.now _);rw [aU.j0,if_neg (by simp),hrank,Option.bind_some,if_pos (by omega)]
 ·rw [if_neg hp]
  have hpe : (gH c L).2.2.length = c:=by omega
  have hres : (gH c L).2.1.flatten = lZ c c (fun i j => fH (gH c L).2.1 i j):=by
   refine aAB (iA hR.2.2) fun i j hi hj => ?_
   have e:=tJ hR.2.2 hi hj;have hlt:=jV hi hj;rw [List.getD_eq_getElem?_getD,List.getElem?_eq_getElem (by rw [iA hR.2.2];exact hlt)] at e;rw [List.getElem?_eq_getElem (by rw [iA hR.2.2];exact hlt),← e];rfl
  have hl1 : ∀ q,q < c→Ev (fun k => aU.l0 k ((q + 1 : Nat) : Int) (c : Int) (c : Int) (nI L.flatten) (c : Int) (c : Int) (nI (vY c c (fun i j => fH (gH c L).2.1 i j) (q + 1) 0))) ((c : Int),(c : Int),nI (gH c L).2.1.flatten,(0 : Int)) →
    ∀ d t,t + d = c→Ev (fun k => aU.l1 k (q : Int) (nI (yB c L q)) (t : Int) (c : Int) (c : Int) (nI L.flatten) (c : Int) (c : Int) (nI (vY c c (fun i j => fH (gH c L).2.1 i j) q t))) ((c : Int),(c : Int),nI (gH c L).2.1.flatten,(0 : Int)):=by
   intro q hq hr d
   induction d with
   | zero =>
    intro t ht;obtain rfl : t = c:=by omega
    refine Ev.step (fun k => ?_) hr;rw [aU.l1,if_neg (by omega),eM (by omega),QS]
   | succ d ih =>
    intro t ht;have htc : t < c:=by omega
    have hlt:=jV htc hq;refine Ev.step (fun k => ?_) (ih (t + 1) (by omega));rw [aU.l1,if_pos (by omega),if_pos (by omega),if_pos (by rw [aZ,zX];omega),pO (by omega),if_pos (by omega),if_pos (by rw [aZ,JB];omega),Int.toNat_natCast,AJ,QJ htc,BK,eM (by omega)];have e:=UP (fun i j => fH (gH c L).2.1 i j) htc hq;rw [← e]
  have hl0 : ∀ d q,q + d = c→Ev (fun k => aU.l0 k (q : Int) (c : Int) (c : Int) (nI L.flatten) (c : Int) (c : Int) (nI (vY c c (fun i j => fH (gH c L).2.1 i j) q 0))) ((c : Int),(c : Int),nI (gH c L).2.1.flatten,(0 : Int)):=by
   intro d
   induction d with
   | zero =>
    intro q hq;obtain rfl : q = c:=by omega
    refine Ev.step (f:=fun _ => some ((q : Int),(q : Int),nI (gH q L).2.1.flatten,(0 : Int))) (fun k => ?_) (Ev.now _);rw [aU.l0,if_neg (by omega),UQ,hres]
   | succ d ih =>
    intro q hq;have hqc : q < c:=by omega
    have hs:=aHv hL hc hqc hpe;have h1:=hl1 q hqc (ih (q + 1) (by omega)) c 0 (by omega);have e1 : (nI (List.replicate c 0)).set q 1 = nI (qF c q):=by
     have:=BK (List.replicate c 0) q 1;exact this
    refine Ev.step (f:=fun k => (aW.f k (c : Int) (c : Int) (nI L.flatten) (nI (qF c q))).bind fun RF => aU.l1 k (q : Int) RF.1 0 (c : Int) (c : Int) (nI L.flatten) (c : Int) (c : Int) (nI (vY c c (fun i j => fH (gH c L).2.1 i j) q 0))) (fun k => ?_) (Ev.bind hs h1);rw [aU.l0,if_pos (by omega),if_pos (by omega),if_pos (by rw [Int.toNat_natCast];omega),Option.bind_some,if_pos (by omega),Int.toNat_natCast,KI,if_pos (by rw [aZ,List.length_replicate];omega),Int.toNat_natCast,e1]
  refine Ev.step (fun k => ?_) (hl0 c 0 (by omega));rw [aU.j0,if_neg (by simp),hrank,Option.bind_some,if_neg (by omega),aDh (by omega),Option.bind_some,LY c c (fun i j => fH (gH c L).2.1 i j)];rfl
end
end Go.Proofs.Yteofcbkjhdadpaa
namespace Go.Proofs.Yteofcbkjhdadpaa
open Go.RowKit Go.Proofs.aG.aX Go.Proofs.Yteofcbkjhdadpaa.Pr
theorem aQS (xs : List UInt8) (h : xs.length < 140737488355328) : dP.f (nI xs) = some (nI xs):=by
 unfold dP.f;rw [Option.bind_some,if_pos (by rw [aZ];simpa using h),List.nil_append]
theorem aNN (a0 a1 : Int) (xs : List UInt8) : Ev (fun k => bQ.f k a0 a1 (nI xs)) (GH a0 a1 xs):=by
 have herr : Ev (fun k => bQ.j0 k true a0 a1 (nI xs)) ((0 : Int),(0 : Int),([] : List Int),(3 : Int)):=by
  refine Ev.step (f:=fun _ => some ((0 : Int),(0 : Int),([] : List Int),(3 : Int))) (fun k => ?_) (Ev.now _);rw [bQ.j0,if_pos rfl]
 unfold bQ.f;rw [BI,aZ];simp only [Option.bind_some]
 by_cases h1 : bM a0 a1 xs.length = true
 ·rw [h1]
  simp only [if_true]
  by_cases h2 : a0 < a1
  ·have e : GH a0 a1 xs = (0,0,[],3):=by
    unfold GH lJ;rw [h1,decide_eq_false (show ¬ a1≤a0 by omega)];rfl
   rw [e,decide_eq_true h2];exact herr
  ·have ht : lJ a0 a1 xs.length = true:=by
    unfold lJ;rw [h1,decide_eq_true (show a1≤a0 by omega)];rfl
   obtain ⟨a,c,rfl,rfl,ha,hca,hx⟩:=BC ht;have hc : c≤64:=by omega
   have hcc : c * c≤64 * 64:=Nat.mul_le_mul hc hc;have hac : a * c≤64 * 64:=Nat.mul_le_mul ha hc;have hle : c * c≤a * c:=Nat.mul_le_mul_right c hca;have htl : (xs.take (c * c)).length = c * c:=by rw [List.length_take];omega
   have hL : dL c c (iF (xs.take (c * c)) c c):=sH htl;have hA:=(aAv hL).2;have hinv:=aNP hL hc;rw [JX htl] at hinv;have es : gH c (iF (xs.take (c * c)) c c) = SN c xs:=rfl;rw [es] at hinv hA;have htop : dB.f (a : Int) (c : Int) (nI xs) (c : Int) = some ((c : Int),(c : Int),nI (xs.take (c * c))):=by
    unfold dB.f;rw [GF (by omega),if_pos (by omega),if_pos (by rw [aZ];omega),Int.toNat_natCast,aKj,aQS _ (by omega),Option.bind_some]
   rw [decide_eq_false h2];refine Ev.step (f:=fun k => (aU.f k (c : Int) (c : Int) (nI (xs.take (c * c)))).bind fun nR => (if nR.2.2.2 = 0 then ((aV.f k (a : Int) (c : Int) (nI xs) nR.1 nR.2.1 nR.2.2.1).bind fun nC => (some (nC.1,nC.2.1,nC.2.2.1,nC.2.2.2))) else (some (0,0,([] : List Int),nR.2.2.2)))) (fun k => ?_) (Ev.bind hinv ?_)
   ·rw [bQ.j0,if_neg (by simp),htop,Option.bind_some]
   ·unfold GH
    rw [if_pos ht,Int.toNat_natCast,Int.toNat_natCast]
    by_cases hp : (SN c xs).2.2.length < c
    ·simp only [if_pos hp]
     exact Ev.now _
    ·simp only [if_neg hp,if_true]
     have hm:=aNO (a : Int) (c : Int) (c : Int) (c : Int) xs (SN c xs).2.1.flatten;have hmb : qN (a : Int) (c : Int) xs.length (c : Int) (c : Int) (SN c xs).2.1.flatten.length = true:=by
      unfold qN;rw [iA hA,lR hc hc rfl,h1]
      simp
     rw [if_pos hmb,Int.toNat_natCast,Int.toNat_natCast] at hm;exact Ev.bind hm (Ev.now _)
 ·have e : GH a0 a1 xs = (0,0,[],3):=by
   unfold GH lJ;simp only [Bool.not_eq_true] at h1;rw [h1];rfl
  simp only [if_neg h1];rw [e];exact herr
end Go.Proofs.Yteofcbkjhdadpaa
namespace Go.Proofs.Yteofcbkjhdadpaa
open Go.RowKit Go.Proofs.aG.aX Go.Proofs.Yteofcbkjhdadpaa.Pr
theorem aOh (a : UInt8) : eK.f (a.toNat : Int) = some (((Gf.inv a).toNat : Int),Gf.EX a):=by
 unfold eK.f;rw [sK,zR];rfl
theorem aHu {r c : Nat} (h : r * c≤281474976710656) : dF.f (r : Int) (c : Int) = some ((r : Int),(c : Int),nI (List.replicate (r * c) 0)):=by
 unfold dF.f;rw [GF (by omega),if_pos (by omega),Int.toNat_natCast,if_pos h,KI]
theorem aHz (xs : List UInt8) (h : xs.length < 140737488355328) : dP.f (nI xs) = some (nI xs):=by
 unfold dP.f;rw [Option.bind_some,if_pos (by rw [aZ];simpa using h),List.nil_append]
theorem aHy (l : List Int) : fB.f l l = some true:=by
 unfold fB.f;rw [beq_self_eq_true]
theorem aHx (r c : Int) (l : List Int) (e : Int) : kQ.f r c l e r c l e = some true:=by
 unfold kQ.f dG.f;rw [if_pos rfl,if_pos rfl,if_pos rfl,aHy];rfl
theorem aCf (xs ys : List UInt8) : Ev (fun k => aK.f k (nI xs) (nI ys)) (JE xs ys,JF xs ys,nI (DV xs ys),kT xs ys):=by
 have herr : ∀ E : Int,kT xs ys = E→E≠0→(JE xs ys,JF xs ys,nI (DV xs ys),kT xs ys) = ((0 : Int),(0 : Int),nI [],E):=by
  intro E h hE;unfold JE JF DV;rw [h,if_neg hE,if_neg hE,if_neg hE]
 have hbig : 64 < xs.length ∨ 64 < ys.length→Ev (fun k => aK.j0 k (nI xs) (nI ys) true) (JE xs ys,JF xs ys,nI (DV xs ys),kT xs ys):=by
  intro h;rw [herr 4 (by unfold kT;rw [if_pos h]) (by omega)];refine Ev.step (f:=fun _ => some ((0 : Int),(0 : Int),nI [],(4 : Int))) (fun k => ?_) (Ev.now _);rw [aK.j0,if_pos rfl];rfl
 unfold aK.f;rw [aZ,aZ]
 by_cases h1 : (xs.length : Int) > 64
 ·simp only [if_pos h1];exact hbig (.inl (by omega))
 ·simp only [if_neg h1]
  by_cases h2 : (ys.length : Int) > 64
  ·rw [decide_eq_true h2];exact hbig (.inr (by omega))
  ·rw [decide_eq_false h2]
   obtain ⟨n,hn⟩ : ∃ n,n = xs.length:=⟨_,rfl⟩
   obtain ⟨m,hm⟩ : ∃ m,m = ys.length:=⟨_,rfl⟩
   obtain ⟨al,hal⟩ : ∃ al,al = xs ++ ys:=⟨_,rfl⟩
   have hall : al.length = n + m:=by rw [hal,List.length_append,← hn,← hm]
   have hnm : n * m≤4096:=Nat.le_trans (Nat.mul_le_mul (show n≤64 by omega) (show m≤64 by omega)) (by omega);have hE : kT xs ys = if QV al = true then 2 else 0:=by unfold kT;rw [if_neg (by omega),hal]
   have hfill : kT xs ys = 0→Ev (fun k => aK.l2 k (nI xs) (nI ys) 0 (n : Int) (m : Int) (nI (jC n m (JG xs ys) 0 0))) (JE xs ys,JF xs ys,nI (DV xs ys),kT xs ys):=by
    intro h0;have hres : (JE xs ys,JF xs ys,nI (DV xs ys),kT xs ys) = ((n : Int),(m : Int),nI (jC n m (JG xs ys) n 0),(0 : Int)):=by
     unfold JE JF DV;rw [h0,if_pos rfl,if_pos rfl,if_pos rfl,DK,hn,hm];rfl
    rw [hres];have hin : ∀ i,i < n→Ev (fun k => aK.l2 k (nI xs) (nI ys) ((i + 1 : Nat) : Int) (n : Int) (m : Int) (nI (jC n m (JG xs ys) (i + 1) 0))) ((n : Int),(m : Int),nI (jC n m (JG xs ys) n 0),(0 : Int)) →
      ∀ d j,j + d = m→Ev (fun k => aK.l3 k (nI xs) (nI ys) (i : Int) (j : Int) (n : Int) (m : Int) (nI (jC n m (JG xs ys) i j))) ((n : Int),(m : Int),nI (jC n m (JG xs ys) n 0),(0 : Int)):=by
     intro i hi hr d
     induction d with
     | zero =>
      intro j hj;obtain rfl : j = m:=by omega
      refine Ev.step (fun k => ?_) hr;rw [aK.l3,if_neg (by rw [aZ];omega),eM (by omega),AA]
     | succ d ih =>
      intro j hj;have hp:=jV (show i < n from hi) (show j < m by omega);refine Ev.step (fun k => ?_) (ih (j + 1) (by omega));rw [aK.l3,if_pos (by rw [aZ];omega),if_pos (by omega),if_pos (by rw [aZ];omega),if_pos (by omega),AJ,AJ,aEF,aOh,Option.bind_some,pO (by omega),if_pos (by omega),if_pos (by rw [aZ,rI];omega),Int.toNat_natCast,BK,eM (by omega)];have e:=DJ (JG xs ys) hi (show j < m by omega);rw [← e];rfl
    have hout : ∀ d i,i + d = n→Ev (fun k => aK.l2 k (nI xs) (nI ys) (i : Int) (n : Int) (m : Int) (nI (jC n m (JG xs ys) i 0))) ((n : Int),(m : Int),nI (jC n m (JG xs ys) n 0),(0 : Int)):=by
     intro d
     induction d with
     | zero =>
      intro i hi;obtain rfl : i = n:=by omega
      refine Ev.step (f:=fun _ => some ((i : Int),(m : Int),nI (jC i m (JG xs ys) i 0),(0 : Int))) (fun k => ?_) (Ev.now _);rw [aK.l2,if_neg (by rw [aZ];omega)]
     | succ d ih =>
      intro i hi;refine Ev.step (fun k => ?_) (hin i (by omega) (ih (i + 1) (by omega)) m 0 (by omega));rw [aK.l2,if_pos (by rw [aZ];omega)];rfl
    exact hout n 0 (by omega)
   have hseen : ∀ i,i < al.length→al.getD i 0∈al.take i→kT xs ys = 2:=by
    intro i hi h;rw [hE,show QV al = true from FH h _ hi];rfl
   have hone : ∀ i,i < al.length→vZ al i = false→(vZ al (i + 1) = false→Ev (fun k => aK.l0 k (nI xs) (nI ys) (nI al) ((i + 1 : Nat) : Int)) (JE xs ys,JF xs ys,nI (DV xs ys),kT xs ys)) →
     ∀ d j,j + d = i→(∀ k,k < j→al.getD i 0≠al.getD k 0)→Ev (fun k => aK.l1 k (nI xs) (nI ys) (nI al) (i : Int) (j : Int)) (JE xs ys,JF xs ys,nI (DV xs ys),kT xs ys):=by
    intro i hi hd hr d
    induction d with
    | zero =>
     intro j hj hne;obtain rfl : j = i:=by omega
     refine Ev.step (fun k => ?_) (hr ?_)
     ·rw [aK.l1,if_neg (by omega),eM (by omega)]
     ·rw [vZ,hd,Bool.false_or,decide_eq_false_iff_not]
      intro h;obtain ⟨k,hk,_,e⟩:=WS h;exact hne k hk e.symm
    | succ d ih =>
     intro j hj hne
     by_cases e : al.getD i 0 = al.getD j 0
     ·rw [herr 2 (hseen i hi (by rw [e];exact yA (by omega) (by omega))) (by omega)]
      refine Ev.step (f:=fun _ => some ((0 : Int),(0 : Int),nI [],(2 : Int))) (fun k => ?_) (Ev.now _);rw [aK.l1,if_pos (by omega),if_pos (by omega),if_pos (by rw [aZ];omega),if_pos (by omega),if_pos (by rw [aZ];omega),AJ,AJ,if_pos (by rw [e])];rfl
     ·refine Ev.step (fun k => ?_) (ih (j + 1) (by omega) (fun k hk => ?_))
      ·rw [aK.l1,if_pos (by omega),if_pos (by omega),if_pos (by rw [aZ];omega),if_pos (by omega),if_pos (by rw [aZ];omega),AJ,AJ,if_neg (fun h => e (UInt8.toNat_inj.1 (by omega))),eM (by omega)]
      ·rcases Nat.lt_or_ge k j with h | h
       ·exact hne k h
       ·obtain rfl : k = j:=by omega
        exact e
   have hall0 : ∀ d i,i + d = al.length→vZ al i = false→Ev (fun k => aK.l0 k (nI xs) (nI ys) (nI al) (i : Int)) (JE xs ys,JF xs ys,nI (DV xs ys),kT xs ys):=by
    intro d
    induction d with
    | zero =>
     intro i hi hd;obtain rfl : i = al.length:=by omega
     have h0 : kT xs ys = 0:=by rw [hE,show QV al = false from hd];rfl
     refine Ev.step (fun k => ?_) (hfill h0);rw [aK.l0,if_neg (by rw [aZ];omega),aZ,aZ,← hn,← hm,aHu (by omega),Option.bind_some,xO n m (JG xs ys)]
    | succ d ih =>
     intro i hi hd;refine Ev.step (fun k => ?_) (hone i (by omega) hd (fun h => ih (i + 1) (by omega) h) i 0 (by omega) (fun k hk => by omega));rw [aK.l0,if_pos (by rw [aZ];omega)];rfl
   refine Ev.step (fun k => ?_) (hall0 al.length 0 (by omega) rfl);rw [aK.j0,if_neg (by simp),aHz xs (by omega),Option.bind_some,if_pos (by rw [aZ,aZ];omega),aCn,← hal];rfl
end Go.Proofs.Yteofcbkjhdadpaa
namespace Go.Proofs.Yteofcbkjhdadpaa
open Go.RowKit Go.Proofs.aG.aX Go.Proofs.Yteofcbkjhdadpaa.Pr
/-! Apply -/
/-! First -/
section
variable {k n : Nat} {X : List UInt8} (hk : k≤64) (hn : n≤64) (hX : X.length = k * n) (hind : ∀ z : Nat→UInt8,(∀ j,j < n→yN (fun i => Gf.mul (z i) (X.getD (i * n + j) 0)) k = 0) → ∀ i,i < k→z i = 0)
include hk hn hX hind
omit hk hn in
end
/-! Solve -/
section
variable {n c : Nat} {L : List (List UInt8)} {b : List UInt8} (hn : n≤64) (hc : c≤64) (hL : dL n c L) (hb : b.length = n)
include hn hc hL hb
omit hn hc in
omit hn hc in
end
/-! Combine -/
end Go.Proofs.Yteofcbkjhdadpaa
namespace Go.Proofs.Yteofcbkjhdadpaa
open Go Go.RowKit Go.Proofs.aG.aX Go.Proofs.Yteofcbkjhdadpaa.Pr
end Go.Proofs.Yteofcbkjhdadpaa
namespace Go.Proofs.Yteofcbkjhdadpaa
open Go.RowKit Go.Proofs.aG.aX Go.Proofs.Yteofcbkjhdadpaa.Pr
def aGL (w : World) (R C : Int) (ys : List UInt8) (E : Int) (e : Ending) (w' : World) : Prop:=∃ (A : Option Addr) (cap : Nat),e = .returned (.tuple #[mV R C A ys.length cap,.int .i64 E])∧eJ w' w.heap.size A ys.length cap ys∧Below w.heap.size w w'
theorem JL {w : World} {R C E : Int} {ys : List UInt8} {e : Ending} {w' : World} (h : ∃ pF : Value,e = .returned (.tuple #[.agg #[.int .i64 R,.int .i64 C,pF],.int .i64 E])∧Kd.R (Kd.int .u8) 5 w' w.heap.size (fun _ => True) pF (nI ys)∧Below w.heap.size w w') : aGL w R C ys E e w':=by
 obtain ⟨v,rfl,hv,hb⟩:=h;obtain ⟨A',c',rfl,hc',ho⟩:=GU hv (BO _);rw [nN,aZ] at ho;rw [aZ];exact ⟨A',c',rfl,ho,hb⟩
section
variable (a0 a1 : Int) (A : Option Addr) (n cap : Nat) (xs : List UInt8) (hcap : n≤cap) (hm : n≤140737488351232)
include hcap hm
theorem aJT {R C E : Int} {ys : List UInt8} (h : GH a0 a1 xs = (R,C,nI ys,E)) (w : World) (hx : Rd w w.heap.size A n (dK xs)) : Calls Try.prog 14 #[mV a0 a1 A n cap] w (aGL w R C ys E):=by
 obtain rfl : xs.length = n:=by have:=hx.len;rw [bC] at this;exact this
 have hf:=aMI a0 a1 xs;rw [h] at hf;have hc:=dV.calls a0 a1 A cap (nI xs) R C (nI ys) E w (nK hx (by omega)) (by rw [aZ];exact hcap) hf;rw [aZ] at hc;exact hc.mono fun e w' q => JL q
theorem aHj {R C E : Int} {ys : List UInt8} (h : GH a0 a1 xs = (R,C,nI ys,E)) (w : World) (hx : Rd w w.heap.size A n (dK xs)) : Calls Try.prog 15 #[mV a0 a1 A n cap] w (aGL w R C ys E):=by
 obtain rfl : xs.length = n:=by have:=hx.len;rw [bC] at this;exact this
 obtain ⟨k,hf⟩:=(aNN a0 a1 xs).rounds;rw [h] at hf;have hc:=bQ.calls k a0 a1 A cap (nI xs) R C (nI ys) E w (nK hx (by omega)) (by rw [aZ];exact hcap) hf;rw [aZ] at hc;exact hc.mono fun e w' q => JL q
theorem aGp {R C E : Int} {ys : List UInt8} (h : wA a0 a1 xs = (R,C,nI ys,E)) (w : World) (hx : Rd w w.heap.size A n (dK xs)) : Calls Try.prog 27 #[mV a0 a1 A n cap] w (aGL w R C ys E):=by
 obtain rfl : xs.length = n:=by have:=hx.len;rw [bC] at this;exact this
 obtain ⟨k,hf⟩:=(aLs a0 a1 xs).rounds;rw [h] at hf;have hc:=tU.calls k a0 a1 A cap (nI xs) R C (nI ys) E w (nK hx (by omega)) (by rw [aZ];exact hcap) hf;rw [aZ] at hc;exact hc.mono fun e w' q => JL q
end
theorem aLy (A B : Option Addr) (n m c d : Nat) (xs ys : List UInt8) (hc : n≤c) (hd : m≤d) (hcm : n≤140737488351232) (hdm : m≤140737488351232) (w : World) (hx : Rd w w.heap.size A n (dK xs)) (hy : Rd w w.heap.size B m (dK ys)) :
  Calls Try.prog 11 #[.slice A n c,.slice B m d] w (aGL w (JE xs ys) (JF xs ys) (DV xs ys) (kT xs ys)):=by
 obtain rfl : xs.length = n:=by have:=hx.len;rw [bC] at this;exact this
 obtain rfl : ys.length = m:=by have:=hy.len;rw [bC] at this;exact this
 have hf:=aIl xs ys (by omega) (by omega);have h:=oJ.calls A c (nI xs) B d (nI ys) _ _ _ _ w (nK hx (by omega)) (by rw [aZ];exact hc) (nK hy (by omega)) (by rw [aZ];exact hd) hf;rw [aZ,aZ] at h;exact h.mono fun e w' q => JL q
theorem aHs (A B : Option Addr) (n m c d : Nat) (xs ys : List UInt8) (hc : n≤c) (hd : m≤d) (hcm : n≤140737488351232) (hdm : m≤140737488351232) (w : World) (hx : Rd w w.heap.size A n (dK xs)) (hy : Rd w w.heap.size B m (dK ys)) :
  Calls Try.prog 12 #[.slice A n c,.slice B m d] w (aGL w (JE xs ys) (JF xs ys) (DV xs ys) (kT xs ys)):=by
 obtain rfl : xs.length = n:=by have:=hx.len;rw [bC] at this;exact this
 obtain rfl : ys.length = m:=by have:=hy.len;rw [bC] at this;exact this
 obtain ⟨k,hf⟩:=(aCf xs ys).rounds;have h:=aK.calls k A c (nI xs) B d (nI ys) _ _ _ _ w (nK hx (by omega)) (by rw [aZ];exact hc) (nK hy (by omega)) (by rw [aZ];exact hd) hf;rw [aZ,aZ] at h;exact h.mono fun e w' q => JL q
theorem aAr (R C E : Int) (A B : Option Addr) (ca cb : Nat) (xs : List UInt8) (w : World) (ha : Rd w w.heap.size A xs.length (dK xs)) (hb : Rd w w.heap.size B xs.length (dK xs)) (la : xs.length≤ca) (lb : xs.length≤cb) (hm : xs.length≤140737488351232) :
  Calls Try.prog 13 #[mV R C A xs.length ca,.int .i64 E,mV R C B xs.length cb,.int .i64 E] w fun e w' => e = .returned (.bool true)∧Below w.heap.size w w':=by
 have h:=kQ.calls R C A ca (nI xs) E R C B cb (nI xs) E true w (nK ha (by omega)) (by rw [aZ];exact la) (nK hb (by omega)) (by rw [aZ];exact lb) (aHx R C (nI xs) E);rw [aZ] at h;exact h
theorem aFU (R C : Int) (A B : Option Addr) (n ca cb : Nat) (xs : List UInt8) (w : World) (ha : Rd w w.heap.size A n (dK xs)) (hb : Rd w w.heap.size B n (dK xs)) (la : n≤ca) (lb : n≤cb) (hm : n≤140737488351232) :
  Calls Try.prog 18 #[mV R C A n ca,mV R C B n cb] w fun e w' => e = .returned (.bool true)∧Below w.heap.size w w':=by
 obtain rfl : xs.length = n:=by have:=ha.len;rw [bC] at this;exact this
 have h:=dG.calls R C A ca (nI xs) R C B cb (nI xs) true w (nK ha (by omega)) (by rw [aZ];exact la) (nK hb (by omega)) (by rw [aZ];exact lb) (aKu R C (nI xs));rw [aZ] at h;exact h
theorem aAe (A B : Option Addr) (n ca cb : Nat) (xs : List UInt8) (w : World) (ha : Rd w w.heap.size A n (dK xs)) (hb : Rd w w.heap.size B n (dK xs)) (la : n≤ca) (lb : n≤cb) (hm : n≤140737488351232) :
  Calls Try.prog 30 #[.slice A n ca,.slice B n cb] w fun e w' => e = .returned (.bool true)∧Below w.heap.size w w':=by
 obtain rfl : xs.length = n:=by have:=ha.len;rw [bC] at this;exact this
 have h:=fB.calls A ca (nI xs) B cb (nI xs) true w (nK ha (by omega)) (by rw [aZ];exact la) (nK hb (by omega)) (by rw [aZ];exact lb) (aHy (nI xs));rw [aZ] at h;exact h.mono fun e w' q => ⟨q.1,q.2.below⟩
theorem aIT (w : World) : Calls Try.prog 16 #[] w fun e w' => e = .returned (.bool true)∧Below w.heap.size w w':=by
 obtain ⟨k,h⟩:=aKd.rounds;exact hU.calls k true w h
theorem MD (A : Option Addr) (n cap : Nat) (xs : List UInt8) (w : World) (hr : Rd w w.heap.size A n (dK xs)) (hn : n≤140737488355328) :
  Calls Try.prog 41 #[.slice A n cap] w fun e w' => ∃ A' cap',e = .returned (.slice A' n cap')∧eJ w' w.heap.size A' n cap' xs∧Below w.heap.size w w':=by
 obtain rfl : xs.length = n:=by have:=hr.len;rw [bC] at this;exact this
 refine (QW A _ cap xs w hr hn).mono ?_;rintro e w' ⟨v,rfl,ho,hb⟩;obtain ⟨A',c',rfl,h⟩:=ho.slice;exact ⟨A',c',rfl,h,hb⟩
theorem aFj (a0 a1 : Int) (xs : List UInt8) : ∃ (R C E : Int) (ys : List UInt8),GH a0 a1 xs = (R,C,nI ys,E)∧ys.length≤4096:=by
 by_cases hm : lJ a0 a1 xs.length = true
 ·obtain ⟨n,k,rfl,rfl,hn,hk,hx⟩:=BC hm
  unfold GH;rw [if_pos hm]
  split
  ·exact ⟨0,0,6,[],rfl,by simp⟩
  ·refine ⟨_,_,_,_,rfl,?_⟩
   rw [Int.toNat_natCast,Int.toNat_natCast];have:=hY n k (KJ k k xs (SN k xs).2.1.flatten);have h2 : n * k≤64 * 64:=Nat.mul_le_mul hn (by omega);unfold aAp;omega
 ·unfold GH
  rw [if_neg hm];exact ⟨0,0,3,[],rfl,by simp⟩
theorem aAT (a0 a1 : Int) (xs : List UInt8) : ∃ (R C E : Int) (ys : List UInt8),wA a0 a1 xs = (R,C,nI ys,E)∧ys.length≤4096:=by
 by_cases hm : lJ a0 a1 xs.length = true
 ·obtain ⟨n,k,rfl,rfl,hn,hk,hx⟩:=BC hm
  by_cases hr : wZ n k xs = k
  ·refine ⟨_,_,_,_,QY hn hk hx hr,?_⟩
   have hX:=uO n k xs;obtain ⟨hrr,hR⟩:=TR hX;have h:=iA (UC (R:=(vQ k n (uG n k xs)).1) hrr.mono hrr.ltc);have h2 : (n - (vQ k n (uG n k xs)).2.2.length) * n≤64 * 64:=Nat.mul_le_mul (by omega) hn;unfold aKx;omega
  ·have hlt : wZ n k xs < k:=by have:=aDf hx;omega
   unfold wA;rw [hm,if_pos rfl,Int.toNat_natCast,Int.toNat_natCast,if_pos hlt];exact ⟨0,0,6,[],rfl,by simp⟩
 ·unfold wA
  rw [if_neg hm];exact ⟨0,0,3,[],rfl,by simp⟩
theorem aIC (xs ys : List UInt8) : (DV xs ys).length≤4096:=by
 unfold DV
 split
 ·rename_i h
  have hb : xs.length≤64∧ys.length≤64:=by
   unfold kT at h
   split at h
   ·simp at h
   ·omega
  have h2 : xs.length * ys.length≤64 * 64:=Nat.mul_le_mul hb.1 hb.2;have:=hY xs.length ys.length (JG xs ys);unfold aCz;omega
 ·simp
end Go.Proofs.Yteofcbkjhdadpaa
namespace Go.Proofs.Yteofcbkjhdadpaa
open Go.RowKit
section
variable {x y : World} {base n cap : Nat} {A : Option Addr} {xs : List UInt8}
theorem eJ.aOB (h : eJ x base A n cap xs) (o : Obj) : eJ (x.alloc o) base A n cap xs:=h.below ((Below.refl _ _).alloc (Nat.le_refl _) o) (Nat.le_refl _)
theorem aEv (r : eJ x base A n cap xs) (h : Below x.heap.size x y) : eJ y base A n cap xs:=r.below h (Nat.le_refl _)
end
theorem eJ.le2 {w : World} {base n cap : Nat} {A : Option Addr} {xs : List UInt8} (h : eJ w base A n cap xs) : n≤cap:=by
 rcases h.2.2 with ⟨h1,h2⟩ | ⟨g,c,cur,hv,hg,hh,h3,_⟩
 ·omega
 ·simp only [Value.slice.injEq] at hv
  obtain ⟨_,_,rfl⟩:=hv;exact h3
structure Bx (x : World) (g : Nat) (R C : Int) (A : Option Addr) (cap : Nat) (ys : List UInt8) : Prop where
 row : Row x g 24 [.int .i64 R,.int .i64 C,.slice A ys.length cap]
 rd : Rd x x.heap.size A ys.length (dK ys)
 le : ys.length≤cap
theorem Bx.new {w' : World} {B : Nat} {R C : Int} {A : Option Addr} {cap : Nat} {ys : List UInt8} (o : eJ w' B A ys.length cap ys) : Bx (w'.alloc (.cells #[.int .i64 R,.int .i64 C,.slice A ys.length cap] 24)) w'.heap.size R C A cap ys :=
 ⟨Row.new w' [.int .i64 R,.int .i64 C,.slice A ys.length cap] 24,o.rd.go ((Below.refl _ _).alloc (Nat.le_refl _) _),o.le2⟩
theorem Bx.go {x y : World} {g : Nat} {R C : Int} {A : Option Addr} {cap : Nat} {ys : List UInt8} (h : Bx x g R C A cap ys) (hb : Below x.heap.size x y) : Bx y g R C A cap ys:=⟨h.row.below hb h.row.lt,h.rd.go hb,h.le⟩
theorem sL {B : Nat} {w w1 w2 : World} (h : Below B w w1) (hb : Below w1.heap.size w1 w2) (hB : B≤w1.heap.size) (o : Obj) : Below B w (w2.alloc o):=(h.trans (hb.mono hB)).alloc (Nat.le_trans hB hb.size) o
theorem KU (ra ca : Int) (A : Option Addr) (n cap : Nat) (xs : List UInt8) (A1 : Option Addr) (n1 c1 : Nat) (xs1 : List UInt8) (A2 : Option Addr) (n2 c2 : Nat) (xs2 : List UInt8) (w : World)
  (b1 : -9223372036854775808≤ra∧ra≤9223372036854775807) (b2 : -9223372036854775808≤ca∧ca≤9223372036854775807) (rx : Rd w w.heap.size A n (dK xs)) (lx : n≤cap) (kx : cap≤140737488351232)
  (r1 : Rd w w.heap.size A1 n1 (dK xs1)) (l1 : n1≤c1) (k1 : c1≤140737488351232) (r2 : Rd w w.heap.size A2 n2 (dK xs2)) (l2 : n2≤c2) (k2 : c2≤140737488351232) :
  Calls Try.prog 10 #[mV ra ca A n cap,.slice A1 n1 c1,.slice A2 n2 c2] w fun e w' => e = .returned (.bool true)∧Below w.heap.size w w':=by
 obtain rfl : xs.length = n:=by have:=rx.len;rw [bC] at this;exact this
 obtain rfl : xs1.length = n1:=by have:=r1.len;rw [bC] at this;exact this
 obtain rfl : xs2.length = n2:=by have:=r2.len;rw [bC] at this;exact this
 obtain ⟨RS,CS,ES,ys,hsv,hys⟩:=aFj ra ca xs;obtain ⟨RK,CK,EK,zs,hck,hzs⟩:=aAT ra ca xs;have hds:=aIC xs1 xs2;obtain ⟨RD,hRD⟩ : ∃ v,v = JE xs1 xs2:=⟨_,rfl⟩
 obtain ⟨CD,hCD⟩ : ∃ v,v = JF xs1 xs2:=⟨_,rfl⟩
 obtain ⟨DD,hDD⟩ : ∃ v,v = DV xs1 xs2:=⟨_,rfl⟩
 obtain ⟨ED,hED⟩ : ∃ v,v = kT xs1 xs2:=⟨_,rfl⟩
 obtain ⟨w1,hw1⟩ : ∃ w1,w1 = w.alloc (.cells #[.int .i64 ra,.int .i64 ca,.slice A xs.length cap] 24):=⟨_,rfl⟩
 have hb1 : Below w.heap.size w w1:=by rw [hw1];exact (Below.refl _ _).alloc (Nat.le_refl _) _
 have m1 : Bx w1 w.heap.size ra ca A cap xs:=by
  rw [hw1];exact ⟨Row.new w [.int .i64 ra,.int .i64 ca,.slice A xs.length cap] 24,rx.go ((Below.refl _ _).alloc (Nat.le_refl _) _),lx⟩
 obtain ⟨d0,d1,d2,_,_,_⟩:=m1.row.three;have HM:=Lib.hid m1;have ZN:=Lib.hid hb1;have oA:=Lib.hid r1;have FN:=Lib.hid r2;have HW1:=Lib.hid hw1;clear b1 b2 rx r1 r2 hw1 hb1 m1;go_enter Try.func10,Try.ntmps10;go_wp2_with fail
 rw [← HW1.out];refine (LP ra ca A xs.length cap xs w1 HM.out.rd (by omega)).mono ?_;rintro e wb ⟨Ac,cc,rfl,oc,hbb⟩;have HOC:=Lib.hid oc;have yL:=Lib.hid (ZN.out.trans (hbb.mono ZN.out.size));have HBB:=Lib.hid hbb;clear oc hbb d0 d1 d2;go_wp2_with fail
 refine (MD A1 xs1.length c1 xs1 wb (oA.out.go yL.out) (by omega)).mono ?_;rintro e wt ⟨Ap,cp,rfl,op,hbt⟩;have HOP:=Lib.hid op;have AU:=Lib.hid (yL.out.trans (hbt.mono yL.out.size));have HBT:=Lib.hid hbt;clear op hbt;go_wp2_with fail
 refine (MD A2 xs2.length c2 xs2 wt (FN.out.go AU.out) (by omega)).mono ?_;rintro e wq ⟨Aq,cq,rfl,oq,hbq⟩;obtain ⟨w2,hw2⟩ : ∃ w2,w2 = wq.alloc (.cells #[.int .i64 ra,.int .i64 ca,.slice Ac xs.length cc] 24):=⟨_,rfl⟩
 have hq2 : Below wq.heap.size wq w2:=by rw [hw2];exact (Below.refl _ _).alloc (Nat.le_refl _) _
 have hE:=(AU.out.trans (hbq.mono AU.out.size)).trans (hq2.mono (Nat.le_trans AU.out.size hbq.size));have m2 : Bx w2 w.heap.size ra ca A cap xs:=(((HM.out.go HBB.out).go HBT.out).go hbq).go hq2;have m7 : Bx w2 wq.heap.size ra ca Ac cc xs:=by
  rw [hw2];exact Bx.new (aEv (aEv HOC.out HBT.out) hbq)
 have q1 : Rd w2 w2.heap.size Ap xs1.length (dK xs1):=(HOP.out.rd.go hbq).go hq2;have q2 : Rd w2 w2.heap.size Aq xs2.length (dK xs2):=oq.rd.go hq2;have lp:=HOP.out.le2;have lq:=oq.le2;have lc:=HOC.out.le2;have HW2:=Lib.hid hw2;obtain ⟨g7,hg7⟩ : ∃ g,g = wq.heap.size:=⟨_,rfl⟩
 rw [← hg7] at m7;have HG7:=Lib.hid hg7;have HC2:=Lib.hid (show ∀ x : World,Below w2.heap.size w2 x→x.cell? ⟨g7,0,none⟩ = some (.int .i64 ra)∧x.cell? ⟨g7,1,none⟩ = some (.int .i64 ca)∧x.cell? ⟨g7,2,none⟩ = some (.slice Ac xs.length cc) from
  fun x q => ⟨(m7.go q).row.cell 0,(m7.go q).row.cell 1,(m7.go q).row.cell 2⟩)
 have HC3:=Lib.hid (show ∀ x : World,Below w2.heap.size w2 x→x.cell? ⟨w.heap.size,0,none⟩ = some (.int .i64 ra)∧x.cell? ⟨w.heap.size,1,none⟩ = some (.int .i64 ca)∧x.cell? ⟨w.heap.size,2,none⟩ = some (.slice A xs.length cap) from
  fun x q => ⟨(m2.go q).row.cell 0,(m2.go q).row.cell 1,(m2.go q).row.cell 2⟩)
 have HP0:=Lib.hid (show ∀ x : World,Below w2.heap.size w2 x→Rd x x.heap.size Ac xs.length (dK xs) from fun x q => (m7.go q).rd);have HP1:=Lib.hid (show ∀ x : World,Below w2.heap.size w2 x→Rd x x.heap.size Ap xs1.length (dK xs1) from fun x q => q1.go q);have HP2:=Lib.hid (show ∀ x : World,Below w2.heap.size w2 x→Rd x x.heap.size Aq xs2.length (dK xs2) from fun x q => q2.go q);have HX0:=Lib.hid (show ∀ x : World,Below w2.heap.size w2 x→Rd x x.heap.size A xs.length (dK xs) from fun x q => (m2.go q).rd);have HX1:=Lib.hid (show ∀ x : World,Below w2.heap.size w2 x→Rd x x.heap.size A1 xs1.length (dK xs1) from fun x q => (oA.out.go hE).go q);have HX2:=Lib.hid (show ∀ x : World,Below w2.heap.size w2 x→Rd x x.heap.size A2 xs2.length (dK xs2) from fun x q => (FN.out.go hE).go q);have HE:=Lib.hid (show ∀ x : World,Below w2.heap.size w2 x→Below w.heap.size w x from fun x q => hE.trans (q.mono hE.size));clear yL;have yL:=Lib.hid (Below.refl w2.heap.size w2);have HSY:=Lib.hid (fun (x : World) (q : Below w2.heap.size w2 x) => aJT ra ca Ac xs.length cc xs lc (by omega) hsv x (HP0.out x q));have HRS:=Lib.hid (fun (x : World) (q : Below w2.heap.size w2 x) => aHj ra ca A xs.length cap xs lx (by omega) hsv x (HX0.out x q));have HCK:=Lib.hid (fun (x : World) (q : Below w2.heap.size w2 x) => aGp ra ca Ac xs.length cc xs lc (by omega) hck x (HP0.out x q));have HCA:=Lib.hid (fun (x : World) (q : Below w2.heap.size w2 x) => aLy Ap Aq xs1.length xs2.length cp cq xs1 xs2 lp lq (by omega) (by omega) x (HP1.out x q) (HP2.out x q))
 have HRC:=Lib.hid (fun (x : World) (q : Below w2.heap.size w2 x) => aHs A1 A2 xs1.length xs2.length c1 c2 xs1 xs2 l1 l2 (by omega) (by omega) x (HX1.out x q) (HX2.out x q));rw [← hRD,← hCD,← hDD,← hED] at HCA HRC;rw [← hDD] at hds;clear m2 m7 q1 q2 hE hq2 hbq oq hw2 hg7 HOC HOP HM HBB HBT ZN AU oA FN hRD hCD hDD hED hsv hck;obtain ⟨e0,e1,e2⟩:=HC2.out _ yL.out;go_wp2_with fail
 rw [← HG7.out,← HW2.out];refine (HSY.out _ yL.out).mono ?_;rintro e w3 ⟨A3',k3',rfl,o,b⟩;have HO3:=Lib.hid (((mA.nil w2 w2.heap.size).snoc b yL.out.size o).go ((Below.refl w3.heap.size w3).alloc (Nat.le_refl _) (.cells #[.int .i64 RS,.int .i64 CS,.slice A3' ys.length k3'] 24)));have AU:=Lib.hid (sL yL.out b yL.out.size (.cells #[.int .i64 RS,.int .i64 CS,.slice A3' ys.length k3'] 24));have HR3:=Lib.hid (Bx.new (R:=RS) (C:=CS) o);obtain ⟨G3,hG3⟩ : ∃ g,g = w3.heap.size:=⟨_,rfl⟩
 rw [← hG3] at HR3;have HG3:=Lib.hid hG3;clear o b hG3 e0 e1 e2;obtain ⟨e0,e1,e2⟩:=HC2.out _ AU.out;go_wp2_with fail
 rw [← HG3.out];refine (HCK.out _ AU.out).mono ?_;rintro e w4 ⟨A4',k4',rfl,o,b⟩;have HO4:=Lib.hid ((HO3.out.snoc b AU.out.size o).go ((Below.refl w4.heap.size w4).alloc (Nat.le_refl _) (.cells #[.int .i64 RK,.int .i64 CK,.slice A4' zs.length k4'] 24)));have OV:=Lib.hid (sL AU.out b AU.out.size (.cells #[.int .i64 RK,.int .i64 CK,.slice A4' zs.length k4'] 24));have TK:=Lib.hid (Bx.new (R:=RK) (C:=CK) o);replace HR3:=Lib.hid ((HR3.out.go b).go ((Below.refl w4.heap.size w4).alloc (Nat.le_refl _) (.cells #[.int .i64 RK,.int .i64 CK,.slice A4' zs.length k4'] 24)));obtain ⟨G4,hG4⟩ : ∃ g,g = w4.heap.size:=⟨_,rfl⟩
 rw [← hG4] at TK;have HG4:=Lib.hid hG4;clear o b hG4 e0 e1 e2;go_wp2_with fail
 rw [← HG4.out];refine (HCA.out _ OV.out).mono ?_;rintro e w5 ⟨A5',k5',rfl,o,b⟩;have HO5:=Lib.hid ((HO4.out.snoc b OV.out.size o).go ((Below.refl w5.heap.size w5).alloc (Nat.le_refl _) (.cells #[.int .i64 RD,.int .i64 CD,.slice A5' DD.length k5'] 24)));have HB5:=Lib.hid (sL OV.out b OV.out.size (.cells #[.int .i64 RD,.int .i64 CD,.slice A5' DD.length k5'] 24));have HR5:=Lib.hid (Bx.new (R:=RD) (C:=CD) o);replace HR3:=Lib.hid ((HR3.out.go b).go ((Below.refl w5.heap.size w5).alloc (Nat.le_refl _) (.cells #[.int .i64 RD,.int .i64 CD,.slice A5' DD.length k5'] 24)));replace TK:=Lib.hid ((TK.out.go b).go ((Below.refl w5.heap.size w5).alloc (Nat.le_refl _) (.cells #[.int .i64 RD,.int .i64 CD,.slice A5' DD.length k5'] 24)));have p3:=HR3.out.row.cell 2;have p4:=TK.out.row.cell 2;have p5:=HR5.out.row.cell 2;obtain ⟨w6,hw6⟩ : ∃ x,x = w5.alloc (.cells #[.int .i64 RD,.int .i64 CD,.slice A5' DD.length k5'] 24):=⟨_,rfl⟩
 rw [← hw6] at HO5 HB5 HR3 TK HR5;have hl5 : w5.heap.size + 1 = w6.heap.size:=by rw [hw6];simp
 obtain ⟨G5,hG5⟩ : ∃ g,g = w5.heap.size:=⟨_,rfl⟩
 rw [← hG5] at HR5;have HG5:=Lib.hid hG5;have HW6:=Lib.hid hw6;clear o b hG5 hw6;obtain ⟨R,hR⟩ : ∃ R : List TJ,R = [⟨A3',ys.length,k3',ys⟩,⟨A4',zs.length,k4',zs⟩,⟨A5',DD.length,k5',DD⟩]:=⟨_,rfl⟩
 have HOW:=Lib.hid (show mA w6 w2.heap.size R by rw [hR];exact HO5.out);have HNS:=Lib.hid (show ∀ r∈R,r.n + 3≤140737488355328 by
  rw [hR];intro r hr;simp only [List.mem_cons,List.not_mem_nil,or_false] at hr
  rcases hr with rfl | rfl | rfl <;> dsimp only <;> omega)
 obtain ⟨W,hW⟩ : ∃ W,W = w6.alloc (.cells #[.slice A3' ys.length k3',.slice A4' zs.length k4',.slice A5' DD.length k5'] 22):=⟨_,rfl⟩
 have hbw : Below w6.heap.size w6 W:=by rw [hW];exact (Below.refl _ _).alloc (Nat.le_refl _) _
 have HRW:=Lib.hid (show Row W w6.heap.size 22 (R.map TJ.v) by rw [hW,hR];exact Row.new w6 [.slice A3' ys.length k3',.slice A4' zs.length k4',.slice A5' DD.length k5'] 22);have HNE:=Lib.hid (show ∀ r∈R,r.A≠some ⟨w6.heap.size,0,none⟩ from fun r hr e => by have:=HOW.out.lt hr e;omega);have HLEN:=Lib.hid (show R.length = 3 by rw [hR];rfl);have HOW2:=Lib.hid (HOW.out.go hbw);have HBW:=Lib.hid (HB5.out.trans (hbw.mono HB5.out.size));have HW:=Lib.hid hW;clear hW hbw hR HO3 HO4 HO5 HOW AU OV HB5 HR3 TK HR5 HG3 HG4;go_wp2_with fail
 rw [← HG5.out,← HW6.out,← HW.out];obtain ⟨gl,hgl⟩ : ∃ g,g = w6.heap.size:=⟨_,rfl⟩
 have HGL:=Lib.hid hgl;rw [← hgl] at HRW HNE ⊢;clear hgl p3 p4 p5
 go_loopw [17] (fun v17 wr => ∃ i : Nat,i≤3∧v17 = .int .i64 (i : Int)∧mA wr w2.heap.size (R.drop i)∧Row wr gl 22 (R.map TJ.v)∧Below w2.heap.size w2 wr) (fun v17 _ => 3 - (intOf v17).toNat)
 case atStart => exact ⟨0,by omega,rfl,HOW2.out,HRW.out,HBW.out⟩
 case round =>
  obtain ⟨i,hi,rfl,ho,hrow,hB⟩:=hrel;have HB:=Lib.hid hB
  by_cases hlt : i < 3
  ·obtain ⟨r,hd,hr,hv⟩:=aGh (R:=R) (i:=i) (by rw [HLEN.out];exact hlt)
   have hcell : wr.cell? ⟨gl,i,none⟩ = some (.slice r.A r.n r.cap):=by rw [hrow.cell,hv]
   rw [hd] at ho;obtain ⟨k,hk⟩ : ∃ k : UInt8,(k.toNat : Int) = 60 * (i : Int) + 4:=⟨UInt8.ofNat (60 * i + 4),by rw [UInt8.toNat_ofNat'];omega⟩
   have HS:=Lib.hid (aAb r.A r.n r.cap w2.heap.size r.xs k wr ho.head hB.size (HNS.out r hr));rw [hk] at HS;have HO:=Lib.hid ho;have HROW:=Lib.hid hrow;have HRN:=Lib.hid (show ∀ s∈r :: R.drop (i + 1),s.A≠some ⟨gl,0,none⟩ from fun s hs => HNE.out s (by rw [← hd] at hs;exact List.mem_of_mem_drop hs));clear ho hrow hB hd hr hv hk;go_wp2_with fail
   refine HS.out.mono ?_;rintro e w' ⟨rfl,hg⟩;have HO':=Lib.hid (HO.out.spoilt hg);have HROW':=Lib.hid (HO.out.aBU hg HROW.out HRN.out);have HB':=Lib.hid (HO.out.ZA hg HB.out HB.out.size);clear hg;go_wp2_with fail
   go_roundw
   case rel => exact ⟨i + 1,by omega,by go_num,HO'.out,HROW'.out,HB'.out⟩
   case measure => simp [intOf];omega
  ·obtain rfl : i = 3:=by omega
   clear ho hrow hB;obtain ⟨e0,e1,e2⟩:=HC2.out _ HB.out;go_wp2_with fail
   refine (HSY.out _ HB.out).mono ?_;rintro e w11 ⟨A11',k11',rfl,o,b⟩;have wE:=Lib.hid (Bx.new (R:=RS) (C:=CS) o);have aJh:=Lib.hid (sL HB.out b HB.out.size (.cells #[.int .i64 RS,.int .i64 CS,.slice A11' ys.length k11'] 24));obtain ⟨V11,hV11⟩ : ∃ x,x = w11.alloc (.cells #[.int .i64 RS,.int .i64 CS,.slice A11' ys.length k11'] 24):=⟨_,rfl⟩
   rw [← hV11] at aJh wE;obtain ⟨G11,hG11⟩ : ∃ g,g = w11.heap.size:=⟨_,rfl⟩
   rw [← hG11] at wE;have HG11:=Lib.hid hG11;have HV11:=Lib.hid hV11;clear o b hG11 hV11 e0 e1 e2;obtain ⟨e0,e1,e2⟩:=HC3.out _ aJh.out;rw [HV11.out] at e0 e1 e2;go_wp2_with fail
   rw [← HG11.out,← HV11.out];refine (HRS.out _ aJh.out).mono ?_;rintro e w12 ⟨A12',k12',rfl,o,b⟩;have ZI:=Lib.hid (Bx.new (R:=RS) (C:=CS) o);have aLV:=Lib.hid (sL aJh.out b aJh.out.size (.cells #[.int .i64 RS,.int .i64 CS,.slice A12' ys.length k12'] 24));replace wE:=Lib.hid ((wE.out.go b).go ((Below.refl w12.heap.size w12).alloc (Nat.le_refl _) (.cells #[.int .i64 RS,.int .i64 CS,.slice A12' ys.length k12'] 24)));obtain ⟨V12,hV12⟩ : ∃ x,x = w12.alloc (.cells #[.int .i64 RS,.int .i64 CS,.slice A12' ys.length k12'] 24):=⟨_,rfl⟩
   rw [← hV12] at aLV ZI wE;obtain ⟨G12,hG12⟩ : ∃ g,g = w12.heap.size:=⟨_,rfl⟩
   rw [← hG12] at ZI;have HG12:=Lib.hid hG12;have HV12:=Lib.hid hV12;clear o b hG12 hV12 e0 e1 e2;have e0:=trivial;have e1:=trivial;have e2:=trivial;go_wp2_with fail
   rw [← HG12.out,← HV12.out];refine (HCA.out _ aLV.out).mono ?_;rintro e w13 ⟨A13',k13',rfl,o,b⟩;have aGG:=Lib.hid (Bx.new (R:=RD) (C:=CD) o);have aLU:=Lib.hid (sL aLV.out b aLV.out.size (.cells #[.int .i64 RD,.int .i64 CD,.slice A13' DD.length k13'] 24));replace wE:=Lib.hid ((wE.out.go b).go ((Below.refl w13.heap.size w13).alloc (Nat.le_refl _) (.cells #[.int .i64 RD,.int .i64 CD,.slice A13' DD.length k13'] 24)));replace ZI:=Lib.hid ((ZI.out.go b).go ((Below.refl w13.heap.size w13).alloc (Nat.le_refl _) (.cells #[.int .i64 RD,.int .i64 CD,.slice A13' DD.length k13'] 24)));obtain ⟨V13,hV13⟩ : ∃ x,x = w13.alloc (.cells #[.int .i64 RD,.int .i64 CD,.slice A13' DD.length k13'] 24):=⟨_,rfl⟩
   rw [← hV13] at aLU aGG wE ZI;obtain ⟨G13,hG13⟩ : ∃ g,g = w13.heap.size:=⟨_,rfl⟩
   rw [← hG13] at aGG;have HG13:=Lib.hid hG13;have HV13:=Lib.hid hV13;clear o b hG13 hV13 e0 e1 e2;have e0:=trivial;have e1:=trivial;have e2:=trivial;go_wp2_with fail
   rw [← HG13.out,← HV13.out];refine (HRC.out _ aLU.out).mono ?_;rintro e w14 ⟨A14',k14',rfl,o,b⟩;have aOK:=Lib.hid (Bx.new (R:=RD) (C:=CD) o);have aOO:=Lib.hid (sL aLU.out b aLU.out.size (.cells #[.int .i64 RD,.int .i64 CD,.slice A14' DD.length k14'] 24));replace wE:=Lib.hid ((wE.out.go b).go ((Below.refl w14.heap.size w14).alloc (Nat.le_refl _) (.cells #[.int .i64 RD,.int .i64 CD,.slice A14' DD.length k14'] 24)));replace ZI:=Lib.hid ((ZI.out.go b).go ((Below.refl w14.heap.size w14).alloc (Nat.le_refl _) (.cells #[.int .i64 RD,.int .i64 CD,.slice A14' DD.length k14'] 24)));replace aGG:=Lib.hid ((aGG.out.go b).go ((Below.refl w14.heap.size w14).alloc (Nat.le_refl _) (.cells #[.int .i64 RD,.int .i64 CD,.slice A14' DD.length k14'] 24)));obtain ⟨V14,hV14⟩ : ∃ x,x = w14.alloc (.cells #[.int .i64 RD,.int .i64 CD,.slice A14' DD.length k14'] 24):=⟨_,rfl⟩
   rw [← hV14] at aOO aOK wE ZI aGG;obtain ⟨G14,hG14⟩ : ∃ g,g = w14.heap.size:=⟨_,rfl⟩
   rw [← hG14] at aOK;have HG14:=Lib.hid hG14;have HV14:=Lib.hid hV14;clear o b hG14 hV14 e0 e1 e2;have e0:=trivial;have e1:=trivial;have e2:=trivial;clear e0 e1 e2;go_wp2_with fail
   rw [← HG14.out,← HV14.out];refine (aIT _).mono ?_;rintro e w15 ⟨rfl,b⟩;have aGI:=Lib.hid (aOO.out.trans (b.mono aOO.out.size));have HL15:=Lib.hid b;obtain ⟨e0,e1,e2⟩:=HC2.out _ aGI.out;obtain ⟨f0,f1,f2⟩:=HC3.out _ aGI.out;clear b;go_wp2_with fail
   refine (aFU ra ca Ac A xs.length cc cap xs w15 (HP0.out _ aGI.out) (HX0.out _ aGI.out) lc lx (by omega)).mono ?_;rintro e w16 ⟨rfl,b⟩;have aLT:=Lib.hid (aGI.out.trans (b.mono aGI.out.size));have HL16:=Lib.hid (HL15.out.trans (b.mono HL15.out.size));clear b e0 e1 e2 f0 f1 f2;go_wp2_with fail
   refine (aAe Ap A1 xs1.length cp c1 xs1 w16 (HP1.out _ aLT.out) (HX1.out _ aLT.out) lp l1 (by omega)).mono ?_;rintro e w17 ⟨rfl,b⟩;have aLS:=Lib.hid (aLT.out.trans (b.mono aLT.out.size));have HL17:=Lib.hid (HL16.out.trans (b.mono HL16.out.size));clear b;go_wp2_with fail
   refine (aAe Aq A2 xs2.length cq c2 xs2 w17 (HP2.out _ aLS.out) (HX2.out _ aLS.out) lq l2 (by omega)).mono ?_;rintro e w18 ⟨rfl,b⟩;have aRX:=Lib.hid (aLS.out.trans (b.mono aLS.out.size));have HL18:=Lib.hid (HL17.out.trans (b.mono HL17.out.size));clear b;have m11:=wE.out.go HL18.out;have m12:=ZI.out.go HL18.out;obtain ⟨e0,e1,e2,_,_,_⟩:=m11.row.three;obtain ⟨f0,f1,f2,_,_,_⟩:=m12.row.three;have HN11:=Lib.hid m11;have HN12:=Lib.hid m12;clear m11 m12;go_wp2_with fail
   refine (aAr RS CS ES A11' A12' k11' k12' ys w18 HN11.out.rd HN12.out.rd HN11.out.le HN12.out.le (by omega)).mono ?_;rintro e w19 ⟨rfl,b⟩;have aRW:=Lib.hid (aRX.out.trans (b.mono aRX.out.size));have HL19:=Lib.hid (HL18.out.trans (b.mono HL18.out.size));clear b e0 e1 e2 f0 f1 f2;have m13:=aGG.out.go HL19.out;have m14:=aOK.out.go HL19.out;obtain ⟨e0,e1,e2,_,_,_⟩:=m13.row.three;obtain ⟨f0,f1,f2,_,_,_⟩:=m14.row.three;have HN13:=Lib.hid m13;have HN14:=Lib.hid m14;clear m13 m14;go_wp2_with fail
   refine (aAr RD CD ED A13' A14' k13' k14' DD w19 HN13.out.rd HN14.out.rd HN13.out.le HN14.out.le (by omega)).mono ?_;rintro e w20 ⟨rfl,b⟩;have aXf:=Lib.hid (aRW.out.trans (b.mono aRW.out.size));clear b;go_wp2_with fail
   go_ret;exact ⟨rfl,HE.out _ aXf.out⟩
end Go.Proofs.Yteofcbkjhdadpaa
namespace Go.Proofs.Yteofcbkjhdadpaa.buildFresh
open Go.ChangeShapes Go.WideShapes Go.ChangeAt Go.RowKit
theorem lifted (os : Os) (started : os.Started) (H : Type) (enc : TypeId×Value→H) :
  ReturnsInHanded {} Try.checked os 10 .any (Rows.buildFreshSpec.pre6 enc Try.prog Try.f10 Rows.buildFreshRow.domain false) (Rows.buildFreshSpec.post enc Try.prog Try.f10 false true false false):=by
 refine returnsInHanded_of_change_sized (C:=Try.checked) aHI started (by kernel_rfl) Try.func10
  (ChangeSpec.witness6 (enc:=enc) (C:=Try.checked) false ⟨#[],#[.agg #[.int .i64 0,.int .i64 0,.slice none 0 0],.slice none 0 0,.slice none 0 0],[]⟩ 8 (by kernel_rfl) (by kernel_rfl) (by kernel_rfl) (by kernel_rfl)) ?_
 intro W base args ds gs before hval0 hW hcnd aPG _;have hsz : (DataW.weightsEach Try.prog (Try.f10.params.toList ++ Rows.buildFreshSpec.plain.varTypes Try.prog) (ds ++ gs)).all (· ≤ reachBytes) = true:=aPG;have hval : ∀ (j : Nat) t v,Try.f10.params[j]? = some t→args[j]? = some v→Value.okWide Try.prog W .any base t v:=hval0;have hW':=hW;obtain ⟨p,q,hA0,hV,rfl,hfz,hnd⟩:=hW;have hA : DataW.TrodAll enc Try.prog W 0 (fun _ => true) true Try.f10.params.toList args.toList ds p:=hA0;rw [Try.params10] at hA hval hsz;obtain ⟨v0,vs0,d0,ds0,p0,q0,hargs,rfl,rfl,h0,r0⟩:=trodAll_cons hA;obtain ⟨v1,vs1,d1,ds1,p1,q1,rfl,rfl,rfl,h1,r1⟩:=trodAll_cons r0;obtain ⟨v2,vs2,d2,ds2,p2,q2,rfl,rfl,rfl,h2,r2⟩:=trodAll_cons r1;obtain ⟨rfl,rfl,rfl⟩:=trodAll_nil r2;obtain rfl : args = #[v0,v1,v2]:=by cases args;simp_all
 obtain ⟨rfl,rfl⟩:=trodVars_none hV;have k0:=h0;have lt0 : ∀ x∈p0,x.block < W.heap.size:=by obtain ⟨m,hm⟩:=k0;exact DataW.trod_lt m _ _ _ hm
 have k1:=h1;have lt1 : ∀ x∈p1,x.block < W.heap.size:=by obtain ⟨m,hm⟩:=k1;exact DataW.trod_lt m _ _ _ hm
 have k2:=h2;have lt2 : ∀ x∈p2,x.block < W.heap.size:=by obtain ⟨m,hm⟩:=k2;exact DataW.trod_lt m _ _ _ hm
 obtain ⟨mr0,mc0,a0,n0,cap0,x0,dd0,rfl,wr0,wc0,rd0,lc0,cm0,rfl,sz0⟩:=aAm (hval 0 24 v0 rfl rfl) h0;have cr0:=WC hsz (j:=0) rfl rfl sz0;obtain ⟨a1,n1,c1,rfl⟩:=okWide_slice Try.underlying22 (hval 1 22 v1 rfl rfl);obtain ⟨x1,rd1,lc1,cm1,dd1⟩:=EV h1;have cr1 : c1≤140737488351232:=by
  rcases dd1 with ⟨_,h⟩ | ⟨es,rs,rfl,hl⟩
  ·omega
  ·have h:=sized_slice hsz (j:=1) rfl rfl Try.underlying22
   rw [CF] at h;simp only [reachBytes] at h;omega
 obtain ⟨a2,n2,c2,rfl⟩:=okWide_slice Try.underlying22 (hval 2 22 v2 rfl rfl);obtain ⟨x2,rd2,lc2,cm2,dd2⟩:=EV h2;have cr2 : c2≤140737488351232:=by
  rcases dd2 with ⟨_,h⟩ | ⟨es,rs,rfl,hl⟩
  ·omega
  ·have h:=sized_slice hsz (j:=2) rfl rfl Try.underlying22
   rw [CF] at h;simp only [reachBytes] at h;omega
 clear hA0 hval0 aPG;refine (KU mr0 mc0 a0 n0 cap0 x0 a1 n1 c1 x1 a2 n2 c2 x2 W (bounds_i64 wr0) (bounds_i64 wc0) rd0 lc0 cr0 rd1 lc1 cr1 rd2 lc2 cr2).mono fun e W' ⟨he,bel⟩ => ?_
 subst he;exact ⟨_,rfl,_,_,_,[],_,[],hW',trodAll_mk1 (shut_bool Try.underlying4 _),(trodAll_cons_mk (Below.trod QI (by kernel_rfl) (of_decide_eq_true (by kernel_rfl)) k0 bel lt0) (trodAll_cons_mk (Below.trod QI (by kernel_rfl) (of_decide_eq_true (by kernel_rfl)) k1 bel lt1) (trodAll_cons_mk (Below.trod QI (by kernel_rfl) (of_decide_eq_true (by kernel_rfl)) k2 bel lt2) trodAll_mk0))),rfl,bel.frame _,fun h => by cases h⟩
theorem over : Rows.buildFreshRow.holds Try.pinned (OpenSpec.ofChange Rows.buildFreshSpec) :=
 OpenClaim.holds_of_wide 10 Try.f10 rfl rfl rfl rfl rfl rfl rfl ⟨rfl,rfl,rfl,rfl,rfl⟩ rfl rfl rfl rfl rfl (by kernel_rfl) Try.func10 (by kernel_rfl)
  (of_decide_eq_true (by kernel_rfl)) (by unfold Func.isWrapper;first | (rw [if_pos (by decide +kernel)];kernel_rfl) | (rw [if_neg (by decide +kernel)];exact ⟨rfl,rfl⟩))
  (fun os started H enc _ => lifted os started H enc)
theorem proved : Rows.BuildFreshSaid:=over
#print axioms proved
end Go.Proofs.Yteofcbkjhdadpaa.buildFresh
