/- The law BuildTops, proved: for every input the call returns true and each argument reads as before. -/
import Derived.WalkKit
import Derived.ProofKit
import Derived.OpenShut
import Derived.ChangeOld
import Derived.Below
import Derived.SizedLaws
import Derived.Test.YteofcbkjhdadpaaCBuildTopsx1
import Derived.Test.YteofcbkjhdadpaaCBuildTopsx2
import Derived.Test.YteofcbkjhdadpaaCBuildTopsx8
import Derived.Test.YteofcbkjhdadpaaCBuildTopsA3
import Derived.Test.YteofcbkjhdadpaaCBuildTopsA1
import Derived.Test.YteofcbkjhdadpaaCBuildTopsx3
import Derived.Test.YteofcbkjhdadpaaCBuildTopsx12
import Derived.Test.YteofcbkjhdadpaaCBuildTopsx9
import Derived.Test.YteofcbkjhdadpaaCBuildTopsA2
import Derived.Test.YteofcbkjhdadpaaCBuildTopsx11
import Derived.Test.YteofcbkjhdadpaaCBuildTopsx14
import Derived.Test.YteofcbkjhdadpaaCBuildTopsx15
import Derived.Test.YteofcbkjhdadpaaCBuildTopsx16
import Derived.Test.YteofcbkjhdadpaaCBuildTopsx4
import Derived.Test.YteofcbkjhdadpaaCBuildTopsx5
import Derived.Test.YteofcbkjhdadpaaCBuildTopsx6
import Derived.Test.YteofcbkjhdadpaaCBuildTopsx17
import Derived.Test.YteofcbkjhdadpaaRows
import Derived.Test.YteofcbkjhdadpaaCBuildTopsq
set_option maxRecDepth 100000
set_option linter.unusedSimpArgs false
set_option linter.unusedVariables false
namespace Go.Proofs.Yteofcbkjhdadpaa
open Go.RowKit Go.Proofs.aI.bE Go.Proofs.Yteofcbkjhdadpaa.Pr
theorem xP (r c : Int) (l : List Int) : bF.f r c l = some (cO r c l.length):=by
 unfold bF.f cO
 by_cases h1 : r ≥ 0
 ·rw [if_pos h1]
  by_cases h2 : r≤64
  ·rw [if_pos h2]
   by_cases h3 : c ≥ 0
   ·rw [if_pos h3]
    by_cases h4 : c≤64
    ·rw [if_pos h4]
     have b:=OQ h1 h2 h3 h4;rw [w64 (by omega) (by omega)]
     congr 1
     rw [Bool.eq_iff_iff,beq_iff_eq,decide_eq_true_eq];exact ⟨fun h => ⟨⟨h1,h2⟩,⟨h3,h4⟩,h⟩,fun h => h.2.2⟩
    ·rw [if_neg h4];congr 1;exact (decide_eq_false (fun h => h4 h.2.1.2)).symm
   ·rw [if_neg h3];congr 1;exact (decide_eq_false (fun h => h3 h.2.1.1)).symm
  ·rw [if_neg h2];congr 1;exact (decide_eq_false (fun h => h2 h.1.2)).symm
 ·rw [if_neg h1];congr 1;exact (decide_eq_false (fun h => h1 h.1.1)).symm
theorem aGP {r : Int} {c i j : Nat} {xs : List UInt8} (h : i * c + j < xs.length) (hb : i * c + j≤9223372036854775807) : cQ.f r (c : Int) (nI xs) (i : Int) (j : Int) = some ((xs.getD (i * c + j) 0).toNat : Int):=by
 unfold cQ.f;rw [uH hb,if_pos (by omega),if_pos (by rw [cX];omega),aAq]
theorem aBL (a b : UInt8) : dH.f (a.toNat : Int) (b.toNat : Int) = some ((Gf.mul a b).toNat : Int):=by
 unfold dH.f;rw [zC,zC,JG,JG];rfl
theorem aBK {r c : Nat} (h : r * c≤281474976710656) : eK.f (r : Int) (c : Int) = some ((r : Int),(c : Int),nI (List.replicate (r * c) 0)):=by
 unfold eK.f;rw [UT (by omega),if_pos (by omega),Int.toNat_natCast,if_pos h,aBP]
section
variable {ra ca cb : Nat} {xs ys : List UInt8}
theorem aIH (hra : ra≤64) (hca : ca≤64) (hcb : cb≤64) (hx : xs.length = ra * ca) (hy : ys.length = ca * cb) {i j : Nat} (hi : i < ra) (hj : j < cb) {r : Int×Int×List Int×Int}
  (hr : Ev (fun k => aX.l1 k (i : Int) ((j + 1 : Nat) : Int) ra ca (nI xs) ca cb (nI ys) ra cb (nI (sY ra cb (OW ca cb xs ys) i (j + 1)))) r) :
  ∀ d q,q + d = ca→Ev (fun k => aX.l2 k (i : Int) (j : Int) (q : Int) ra ca (nI xs) ca cb (nI ys) ra cb (nI ((sY ra cb (OW ca cb xs ys) i j).set (i * cb + j) (RV q fun t => Gf.mul (xs.getD (i * ca + t) 0) (ys.getD (t * cb + j) 0))))) r:=by
 have hp:=jK hi hj;have hpb : ra * cb≤64 * 64:=Nat.mul_le_mul hra hcb;have hab : ra * ca≤64 * 64:=Nat.mul_le_mul hra hca;have hbb : ca * cb≤64 * 64:=Nat.mul_le_mul hca hcb;intro d
 induction d with
 | zero =>
  intro q hq;obtain rfl : q = ca:=by omega
  refine Ev.step (fun k => ?_) hr;rw [aX.l2,if_neg (by omega),gF (by omega)];have e:=SO (R:=ra) (C:=cb) (OW q cb xs ys) hi hj;rw [← e];rfl
 | succ d ih =>
  intro q hq;refine Ev.step (fun k => ?_) (ih (q + 1) (by omega));have h1:=jK hi (show q < ca by omega);have h2:=jK (show q < ca by omega) hj;rw [aX.l2,if_pos (by omega),uH (by omega),if_pos (by omega),if_pos (by rw [cX,List.length_set,yU];omega),
   aGP (by omega) (by omega),Option.bind_some,aGP (by omega) (by omega),Option.bind_some,aBL,Option.bind_some,gF (by omega),Int.toNat_natCast,aAq,
   aAd _ _ _ (by rw [yU];omega),aQo,MV,List.set_set]
  rfl
theorem aII (hra : ra≤64) (hca : ca≤64) (hcb : cb≤64) (hx : xs.length = ra * ca) (hy : ys.length = ca * cb) {i : Nat} (hi : i < ra) {r : Int×Int×List Int×Int}
  (hr : Ev (fun k => aX.l0 k ((i + 1 : Nat) : Int) ra ca (nI xs) ca cb (nI ys) ra cb (nI (sY ra cb (OW ca cb xs ys) (i + 1) 0))) r) :
  ∀ d j,j + d = cb→Ev (fun k => aX.l1 k (i : Int) (j : Int) ra ca (nI xs) ca cb (nI ys) ra cb (nI (sY ra cb (OW ca cb xs ys) i j))) r:=by
 intro d
 induction d with
 | zero =>
  intro j hj;obtain rfl : j = cb:=by omega
  refine Ev.step (fun k => ?_) hr;rw [aX.l1,if_neg (by omega),gF (by omega),MZ]
 | succ d ih =>
  intro j hj;have h0:=aIH hra hca hcb hx hy hi (show j < cb by omega) (ih (j + 1) (by omega)) ca 0 (by omega);refine Ev.step (fun k => ?_) h0;rw [aX.l1,if_pos (by omega)];have e:=aLW (R:=ra) (C:=cb) (OW ca cb xs ys) hi (show j < cb by omega);simp only [RV];rw [e];rfl
theorem aIJ (hra : ra≤64) (hca : ca≤64) (hcb : cb≤64) (hx : xs.length = ra * ca) (hy : ys.length = ca * cb) :
  ∀ d i,i + d = ra→Ev (fun k => aX.l0 k (i : Int) ra ca (nI xs) ca cb (nI ys) ra cb (nI (sY ra cb (OW ca cb xs ys) i 0))) ((ra : Int),(cb : Int),nI (aAb ra ca cb xs ys),0):=by
 intro d
 induction d with
 | zero =>
  intro i hi;obtain rfl : i = ra:=by omega
  refine Ev.step (fun k => ?_) (Ev.now _);rw [aX.l0,if_neg (by omega),SP];rfl
 | succ d ih =>
  intro i hi;have h0:=aII hra hca hcb hx hy (show i < ra by omega) (ih (i + 1) (by omega)) cb 0 (by omega);refine Ev.step (fun k => ?_) h0;rw [aX.l0,if_pos (by omega)];rfl
end
theorem aSE (ra ca rb cb : Int) (xs ys : List UInt8) :
  Ev (fun k => aX.f k ra ca (nI xs) rb cb (nI ys)) (if vA ra ca xs.length rb cb ys.length = true then (ra,cb,nI (aAb ra.toNat ca.toNat cb.toNat xs ys),0) else (0,0,[],3)):=by
 unfold aX.f;simp only [xP,cX,Option.bind_some]
 by_cases h1 : cO ra ca xs.length = true
 ·by_cases h2 : cO rb cb ys.length = true
  ·simp only [h1,h2,if_true]
   by_cases h3 : ca = rb
   ·have hm : vA ra ca xs.length rb cb ys.length = true:=by unfold vA;rw [h1,h2];simp [h3]
    rw [if_pos hm];obtain ⟨a,b,c,rfl,rfl,rfl,rfl,k1,k2,k3,k4,k5⟩:=aJc hm;have hpb : a * c≤64 * 64:=Nat.mul_le_mul k1 k3;have h0:=aIJ k1 k2 k3 k4 k5 a 0 (by omega);refine Ev.step (fun k => ?_) h0;rw [aX.j0,if_neg (by simp),aBK (by omega),Option.bind_some,IC a c (OW b c xs ys)];rfl
   ·have hm : ¬ vA ra ca xs.length rb cb ys.length = true:=by simp [vA,h3]
    rw [if_neg hm];refine Ev.step (fun k => ?_) (Ev.now _);rw [aX.j0,if_pos (by simpa using h3)]
  ·have hm : ¬ vA ra ca xs.length rb cb ys.length = true:=by simp [vA,h2]
   simp only [h1,h2,if_true,Bool.false_eq_true,if_false];rw [if_neg hm];refine Ev.step (fun k => ?_) (Ev.now _);rw [aX.j0,if_pos rfl]
 ·have hm : ¬ vA ra ca xs.length rb cb ys.length = true:=by simp [vA,h1]
  simp only [h1,Bool.false_eq_true,if_false];rw [if_neg hm];refine Ev.step (fun k => ?_) (Ev.now _);rw [aX.j0,if_pos rfl]
end Go.Proofs.Yteofcbkjhdadpaa
namespace Go.Proofs.Yteofcbkjhdadpaa
open Go.RowKit Go.Proofs.aI.bE Go.Proofs.Yteofcbkjhdadpaa.Pr
theorem nV {n c l : Nat} (hn : n≤64) (hc : c≤64) (h : l = n * c) : cO (n : Int) (c : Int) l = true:=by
 unfold cO;rw [decide_eq_true_eq];refine ⟨⟨by omega,by omega⟩,⟨by omega,by omega⟩,?_⟩;rw [h,Int.natCast_mul]
section
variable {n c : Nat} (hn : n≤64) (hc : c≤65)
include hn hc
theorem US {i j : Nat} (hi : i < n) (hj : j < c) : i * c + j < n * c∧i * c + j≤9223372036854775807∧n * c≤4160:=by
 have h1:=jK hi hj;have h2 : n * c≤64 * 65:=Nat.mul_le_mul hn hc;omega
theorem yO {L : List (List UInt8)} (h : eS n c L) {i j : Nat} (hi : i < n) (hj : j < c) : cQ.f (n : Int) (c : Int) (nI L.flatten) (i : Int) (j : Int) = some ((fS L i j).toNat : Int):=by
 obtain ⟨h1,h2,_⟩:=US hn hc hi hj;rw [aGP (by rw [kT h];exact h1) h2,tX h hi hj]
end
theorem aDz {n c i : Nat} {L : List (List UInt8)} (h : eS n c L) (hn : n≤64) (hc : c≤64) (hi : i < n) : Ev (fun k => cH.f k (n : Int) (c : Int) (nI L.flatten) (i : Int)) (nI (L.getD i []),(0 : Int)):=by
 have hw:=h.wid i hi;unfold cH.f;rw [xP,cX,kT h,nV hn hc rfl];simp only [Option.bind_some,if_true,if_neg (show ¬ (i : Int) < 0 by omega),decide_eq_false (show ¬ (i : Int) ≥ (n : Int) by omega)];have hloop : ∀ d q,q + d = c→Ev (fun k => cH.l0 k (i : Int) (nI ((L.getD i []).take q)) (q : Int) (n : Int) (c : Int) (nI L.flatten)) (nI (L.getD i []),(0 : Int)):=by
  intro d
  induction d with
  | zero =>
   intro q hq;obtain rfl : q = c:=by omega
   refine Ev.step (f:=fun _ => some (nI (L.getD i []),(0 : Int))) (fun k => ?_) (Ev.now _);rw [cH.l0,if_neg (by omega),List.take_of_length_le (by omega)]
  | succ d ih =>
   intro q hq;have e1 : (L.getD i []).take (q + 1) = (L.getD i []).take q ++ [fS L i q]:=by
    rw [List.take_succ_eq_append_getElem (by omega)];unfold fS;rw [List.getD_eq_getElem?_getD (l:=L.getD i []),List.getElem?_eq_getElem (by omega)];rfl
   refine Ev.step (fun k => ?_) (ih (q + 1) (by omega));rw [cH.l0,if_pos (by omega),yO hn (by omega) h hi (by omega),Option.bind_some,if_pos (by rw [cX,List.length_take];omega),aBO,← e1,gF (by omega)]
 refine Ev.step (fun k => ?_) (hloop c 0 (by omega));rw [cH.j0,if_neg (by simp)];rfl
theorem MC {n c : Nat} {L : List (List UInt8)} (h : eS n c L) {i : Nat} (hi : i≤n) : (L.take i).flatten.length = i * c:=by
 refine kT (n:=i) ⟨by rw [List.length_take,h.len];omega,fun k hk => ?_⟩;rw [List.getD_eq_getElem?_getD,List.getElem?_take_of_lt hk,← List.getD_eq_getElem?_getD];exact h.wid k (by omega)
end Go.Proofs.Yteofcbkjhdadpaa
namespace Go.Proofs.Yteofcbkjhdadpaa
open Go.RowKit Go.Proofs.aI.bE Go.Proofs.Yteofcbkjhdadpaa.Pr
def ML (a0 a1 : Int) (xs : List UInt8) : Int×Int×List Int×Int :=
 if tF a0 a1 xs.length = true then (if (RT a1.toNat xs).2.2.length < a1.toNat then (0,0,[],6) else (a0,a1,nI (aAb a0.toNat a1.toNat a1.toNat xs (RT a1.toNat xs).2.1.flatten),0)) else (0,0,[],3)
theorem aLR (a0 a1 : Int) (xs : List UInt8) : dK.f a0 a1 (nI xs) = some (ML a0 a1 xs):=by
 unfold dK.f ML;rw [aFI,if_pos rfl,cX,MU]
 split
 ·split <;> rfl
 ·rfl
/-! Vandermonde -/
def aER (i j : Nat) : UInt8:=Gf.npow (UInt8.ofNat i) j
def aES (r c : Nat) : List UInt8:=pC r c aER
def zK (a0 a1 : Int) : Bool:=decide ((0≤a0∧a0≤64)∧(0≤a1∧a1≤64))
def aKs (a0 a1 : Int) : Int×Int×List Int×Int:=if zK a0 a1 = true then (a0,a1,nI (aES a0.toNat a1.toNat),0) else (0,0,[],2)
theorem RW {a0 a1 : Int} (h : zK a0 a1 = true) : ∃ a b : Nat,a0 = a∧a1 = b∧a≤64∧b≤64:=by
 have h:=of_decide_eq_true h;exact ⟨a0.toNat,a1.toNat,by omega,by omega,by omega,by omega⟩
theorem aMw (n : Nat) : ((n : Int) % 256) = ((UInt8.ofNat n).toNat : Int):=by
 rw [UInt8.toNat_ofNat'];omega
theorem aTe (a b : UInt8) : sO.f (a.toNat : Int) (b.toNat : Int) = some ((Gf.mul a b).toNat : Int):=by
 unfold sO.f;rw [zC,zC,JG,JG];rfl
theorem aLS (n : Int) : iG.f n = some (decide (0≤n∧n≤64)):=by
 unfold iG.f
 by_cases h1 : n ≥ 0
 ·rw [if_pos h1]
  congr 1
  rw [Bool.eq_iff_iff,decide_eq_true_eq,decide_eq_true_eq];omega
 ·rw [if_neg h1,decide_eq_false (by omega)]
theorem aTd (a0 a1 : Int) : pB.f a0 a1 = some (if zK a0 a1 = true then (a0,a1,nI (List.replicate (a0.toNat * a1.toNat) 0),0) else (0,0,[],2)):=by
 unfold pB.f;rw [aLS,aLS,Option.bind_some,Option.bind_some]
 by_cases h1 : 0≤a0∧a0≤64
 ·rw [if_pos (decide_eq_true h1)]
  by_cases h2 : 0≤a1∧a1≤64
  ·rw [if_pos (decide_eq_true h2)]
   have hs : zK a0 a1 = true:=decide_eq_true ⟨h1,h2⟩;rw [if_pos hs];obtain ⟨a,b,rfl,rfl,ha,hb⟩:=RW hs;have hab : a * b≤64 * 64:=Nat.mul_le_mul ha hb;unfold kK.f;rw [UT (by omega),if_pos (by omega),Int.toNat_natCast,if_pos (by omega),Option.bind_some,aBP,Int.toNat_natCast,Int.toNat_natCast]
  ·rw [if_neg (by simpa using h2),if_neg (by unfold zK;simp;omega)]
 ·rw [if_neg (by simpa using h1),if_neg (by unfold zK;simp;omega)]
theorem aXy (a0 a1 : Int) : Ev (fun k => bS.f k a0 a1) (aKs a0 a1):=by
 unfold bS.f;simp only [aTd,Option.bind_some]
 by_cases hs : zK a0 a1 = true
 ·simp only [if_pos hs,if_true]
  unfold aKs;rw [if_pos hs];obtain ⟨a,b,rfl,rfl,ha,hb⟩:=RW hs;have hab : a * b≤64 * 64:=Nat.mul_le_mul ha hb;rw [Int.toNat_natCast,Int.toNat_natCast,IC a b aER];have hl1 : ∀ i,i < a→Ev (fun k => bS.l0 k (b : Int) (a : Int) ((i + 1 : Nat) : Int) (a : Int) (b : Int) (nI (sY a b aER (i + 1) 0))) ((a : Int),(b : Int),nI (aES a b),(0 : Int)) →
    ∀ d j,j + d = b→Ev (fun k => bS.l1 k (b : Int) (i : Int) ((aER i j).toNat : Int) (a : Int) (i : Int) (b : Int) (j : Int) (a : Int) (b : Int) (nI (sY a b aER i j))) ((a : Int),(b : Int),nI (aES a b),(0 : Int)):=by
   intro i hi hr d
   induction d with
   | zero =>
    intro j hj;obtain rfl : j = b:=by omega
    refine Ev.step (fun k => ?_) hr;rw [bS.l1,if_neg (by omega),gF (by omega),MZ]
   | succ d ih =>
    intro j hj;have hlt:=jK hi (show j < b by omega);refine Ev.step (fun k => ?_) (ih (j + 1) (by omega));rw [bS.l1,if_pos (by omega),uH (by omega),if_pos (by omega),if_pos (by rw [cX,yU];omega),aMw,aTe,Option.bind_some,Int.toNat_natCast,MV,gF (by omega),SO aER hi (show j < b by omega)];rfl
  have hl0 : ∀ d i,i + d = a→Ev (fun k => bS.l0 k (b : Int) (a : Int) (i : Int) (a : Int) (b : Int) (nI (sY a b aER i 0))) ((a : Int),(b : Int),nI (aES a b),(0 : Int)):=by
   intro d
   induction d with
   | zero =>
    intro i hi;obtain rfl : i = a:=by omega
    refine Ev.step (f:=fun _ => some ((i : Int),(b : Int),nI (aES i b),(0 : Int))) (fun k => ?_) (Ev.now _);rw [bS.l0,if_neg (by omega),SP];rfl
   | succ d ih =>
    intro i hi;have h1:=hl1 i (by omega) (ih (i + 1) (by omega)) b 0 (by omega);refine Ev.step (fun k => ?_) h1;rw [bS.l0,if_pos (by omega)];rfl
  exact hl0 a 0 (by omega)
 ·unfold aKs
  simp only [if_neg hs];exact Ev.now _
/-! Reed -/
def aLx (a0 a1 : Int) : Bool:=decide (1≤a0∧0≤a1∧a0 + a1≤64)
theorem aXz (a0 a1 : Int) : qE.f a0 a1 = some (aLx a0 a1):=by
 unfold qE.f aLx
 by_cases h1 : a0 ≥ 1
 ·rw [if_pos h1]
  by_cases h2 : a0≤64
  ·rw [if_pos h2]
   by_cases h3 : a1 ≥ 0
   ·rw [if_pos h3,w64 (by omega) (by omega)]
    congr 1
    rw [Bool.eq_iff_iff,decide_eq_true_eq,decide_eq_true_eq];omega
   ·rw [if_neg h3,decide_eq_false (by omega)]
  ·rw [if_neg h2]
   congr 1
   exact (decide_eq_false (by omega)).symm
 ·rw [if_neg h1,decide_eq_false (by omega)]
def aKS (a0 a1 : Int) : Int×Int×List Int×Int:=if aLx a0 a1 = true then ML (a0 + a1) a0 (aES (a0 + a1).toNat a0.toNat) else (0,0,[],2)
theorem aKR {a0 a1 : Int} (h : aLx a0 a1 = true) : wrap64 (a0 + a1) = a0 + a1∧aKs (a0 + a1) a0 = (a0 + a1,a0,nI (aES (a0 + a1).toNat a0.toNat),0):=by
 have h:=of_decide_eq_true h;refine ⟨w64 (by omega) (by omega),?_⟩;unfold aKs;rw [if_pos (show zK (a0 + a1) a0 = true from decide_eq_true (by omega))]
theorem aTc (a0 a1 : Int) : Ev (fun k => sB.f k a0 a1) (aKS a0 a1):=by
 unfold sB.f aKS;simp only [aXz,Option.bind_some]
 by_cases h : aLx a0 a1 = true
 ·obtain ⟨e1,e2⟩:=aKR h
  have hv:=aXy (a0 + a1) a0;rw [e2] at hv;simp only [if_pos h,e1];refine Ev.bind hv ?_;simp only [if_true,aLR,Option.bind_some];exact Ev.now _
 ·simp only [if_neg h]
  exact Ev.now _
end Go.Proofs.Yteofcbkjhdadpaa
namespace Go.Proofs.Yteofcbkjhdadpaa
open Go.RowKit Go.Proofs.aI.bE Go.Proofs.Yteofcbkjhdadpaa.Pr
theorem aGM {n c : Nat} {xs : List UInt8} (hx : xs.length = n * c) {i j : Nat} (hi : i < n) (hj : j < c) : fS (jQ xs n c) i j = xs.getD (i * c + j) 0:=by
 rw [← tX (mZ hx) hi hj,DE hx]
theorem aFk : aKS 2 1 = (3,2,[1,0,0,1,3,2],0):=by decide +kernel
theorem aGQ : Ev (fun k => cP.f k) true:=by
 unfold cP.f;have h:=aTc 2 1;rw [aFk] at h;refine Ev.bind h ?_;simp only [if_true];unfold bI.f;simp only [if_true];unfold kF.f;simp only [beq_self_eq_true,Option.bind_some];exact Ev.now _
end Go.Proofs.Yteofcbkjhdadpaa
namespace Go.Proofs.Yteofcbkjhdadpaa
open Go.RowKit Go.Proofs.aI.bE Go.Proofs.Yteofcbkjhdadpaa.Pr
end Go.Proofs.Yteofcbkjhdadpaa
namespace Go.Proofs.Yteofcbkjhdadpaa
open Go.RowKit Go.Proofs.aI.bE Go.Proofs.Yteofcbkjhdadpaa.Pr
theorem aLd (a0 a1 : Int) : jB.f a0 a1 = some (if zK a0 a1 = true then (a0,a1,nI (List.replicate (a0.toNat * a1.toNat) 0),0) else (0,0,[],2)):=by
 unfold jB.f
 by_cases hs : zK a0 a1 = true
 ·rw [if_pos hs]
  obtain ⟨a,b,rfl,rfl,ha,hb⟩:=RW hs;have hab : a * b≤64 * 64:=Nat.mul_le_mul ha hb;rw [if_neg (by omega),if_neg (by omega),if_neg (by omega),if_neg (by omega),aBK (by omega),Option.bind_some,Int.toNat_natCast,Int.toNat_natCast]
 ·rw [if_neg hs]
  have hs' : ¬ ((0≤a0∧a0≤64)∧(0≤a1∧a1≤64)):=fun h => hs (decide_eq_true h)
  split
  ·rfl
  ·split
   ·rfl
   ·split
    ·rfl
    ·split
     ·rfl
     ·omega
theorem aLe (n : Nat) (h : n≤64) : Ev (fun k => cC.f k (n : Int)) ((n : Int),(n : Int),nI (AN n n),0):=by
 have hnn : n * n≤64 * 64:=Nat.mul_le_mul h h;unfold cC.f;have hs : zK (n : Int) (n : Int) = true:=decide_eq_true (by omega);simp only [aLd,if_pos hs,Option.bind_some,Int.toNat_natCast];have hl : ∀ d i,i + d = n→Ev (fun k => cC.l0 k (n : Int) 0 (i : Int) (n : Int) (n : Int) (nI (AN n i))) ((n : Int),(n : Int),nI (AN n n),0):=by
  intro d
  induction d with
  | zero =>
   intro i hi;obtain rfl : i = n:=by omega
   refine Ev.step (f:=fun _ => some ((i : Int),(i : Int),nI (AN i i),(0 : Int))) (fun k => ?_) (Ev.now _);rw [cC.l0,if_neg (by omega)]
  | succ d ih =>
   intro i hi;have hlt:=jK (show i < n by omega) (show i < n by omega);refine Ev.step (fun k => ?_) (ih (i + 1) (by omega));have e : nI (AN n (i + 1)) = (nI (AN n i)).set (i * n + i) 1:=(MV (AN n i) (i * n + i) 1).symm;rw [cC.l0,if_pos (by omega),if_pos rfl,uH (by omega),if_pos (by omega),if_pos (by rw [cX,aDN];omega),Int.toNat_natCast,gF (by omega),e]
 exact hl n 0 (by omega)
end Go.Proofs.Yteofcbkjhdadpaa
namespace Go.Proofs.Yteofcbkjhdadpaa
open Go.RowKit Go.Proofs.aI.bE Go.Proofs.Yteofcbkjhdadpaa.Pr
/-! the document's Pick -/
def xQ (L : List (List UInt8)) (zs : List Nat) : List (List UInt8):=zs.map fun z => L.getD z []
theorem SF (L : List (List UInt8)) (zs : List Nat) {i : Nat} (hi : i < zs.length) : (xQ L zs).getD i [] = L.getD (zs.getD i 0) []:=by
 unfold xQ;rw [List.getD_eq_getElem?_getD,List.getElem?_map,List.getElem?_eq_getElem hi,List.getD_eq_getElem?_getD (l:=zs),List.getElem?_eq_getElem hi];rfl
theorem MT {n c : Nat} {L : List (List UInt8)} (hL : eS n c L) {zs : List Nat} (hz : ∀ i,i < zs.length→zs.getD i 0 < n) : eS zs.length c (xQ L zs) :=
 ⟨by simp [xQ],fun i hi => by rw [SF L zs hi];exact hL.wid _ (hz i hi)⟩
theorem aGS {zs : List Nat} {i : Nat} (hi : i < zs.length) : rd (nZ zs) (i : Int) = ((zs.getD i 0 : Nat) : Int):=by
 unfold rd nZ;rw [Int.toNat_natCast,List.getD_eq_getElem?_getD,List.getElem?_map,List.getElem?_eq_getElem hi,List.getD_eq_getElem?_getD,List.getElem?_eq_getElem hi];rfl
theorem aLc {n c : Nat} {L : List (List UInt8)} (hL : eS n c L) (hn : n≤64) (hc : c≤64) {zs : List Nat} (hl : zs.length≤64) (hz : ∀ i,i < zs.length→zs.getD i 0 < n) :
  Ev (fun k => bB.f k (n : Int) (c : Int) (nI L.flatten) (nZ zs)) ((zs.length : Int),(c : Int),nI (xQ L zs).flatten,(0 : Int)):=by
 have hP:=MT hL hz;have hsz : zs.length * c≤64 * 64:=Nat.mul_le_mul hl hc;unfold bB.f;rw [xP,cX,kT hL,nV hn hc rfl];simp only [Option.bind_some,if_true];have hl1 : ∀ d i,i + d = zs.length→Ev (fun k => bB.l1 k (nZ zs) (i : Int) (n : Int) (c : Int) (nI L.flatten) (zs.length : Int) (c : Int) (nI ((xQ L zs).take i).flatten)) ((zs.length : Int),(c : Int),nI (xQ L zs).flatten,(0 : Int)):=by
  intro d
  induction d with
  | zero =>
   intro i hi;refine Ev.step (f:=fun _ => some ((zs.length : Int),(c : Int),nI (xQ L zs).flatten,(0 : Int))) (fun k => ?_) (Ev.now _);rw [bB.l1,if_neg (by rw [pI];omega),List.take_of_length_le (by rw [hP.len];omega)]
  | succ d ih =>
   intro i hi;have hil : i < zs.length:=by omega
   have hrow:=aDz hL hn hc (hz i hil);have hw:=hL.wid _ (hz i hil);have hfl:=MC hP (show i≤zs.length by omega);have hb : i * c≤64 * 64:=Nat.mul_le_mul (by omega) hc;have hadd : ((xQ L zs).take (i + 1)).flatten = ((xQ L zs).take i).flatten ++ L.getD (zs.getD i 0) []:=by
    rw [List.take_succ_eq_append_getElem (by rw [hP.len];exact hil),List.flatten_append,List.flatten_singleton,← SF L zs hil]
    congr 1
    rw [List.getD_eq_getElem?_getD,List.getElem?_eq_getElem (by rw [hP.len];exact hil)];rfl
   refine Ev.step (f:=fun k => (cH.f k (n : Int) (c : Int) (nI L.flatten) ((zs.getD i 0 : Nat) : Int)).bind fun aEq => (if (nI ((xQ L zs).take i).flatten).length + aEq.1.length < 140737488355328 then (bB.l1 k (nZ zs) (wrap64 ((i : Int) + 1)) (n : Int) (c : Int) (nI L.flatten) (zs.length : Int) (c : Int) (nI ((xQ L zs).take i).flatten ++ aEq.1)) else (none))) (fun k => ?_) (Ev.bind hrow ?_)
   ·rw [bB.l1,if_pos (by rw [pI];omega),if_pos (by omega),aGS hil]
   ·have c1 : (nI ((xQ L zs).take i).flatten).length + (nI (L.getD (zs.getD i 0) [])).length < 140737488355328:=by rw [cX,cX];omega
    simp only [if_pos c1,aLs,gF (show i≤9223372036854775806 by omega),← hadd];exact ih (i + 1) (by omega)
 have hl0 : ∀ d i,i + d = zs.length→Ev (fun k => bB.l0 k (nZ zs) (i : Int) (n : Int) (c : Int) (nI L.flatten)) ((zs.length : Int),(c : Int),nI (xQ L zs).flatten,(0 : Int)):=by
  intro d
  induction d with
  | zero =>
   intro i hi;refine Ev.step (fun k => ?_) (hl1 zs.length 0 (by omega));rw [bB.l0,if_neg (by rw [pI];omega),if_neg (by rw [pI];omega),pI];rfl
  | succ d ih =>
   intro i hi;have hil : i < zs.length:=by omega
   have:=hz i hil;refine Ev.step (fun k => ?_) (ih (i + 1) (by omega));rw [bB.l0,if_pos (by rw [pI];omega),if_pos (by omega),aGS hil,if_neg (by omega),if_neg (by omega),gF (by omega)]
 exact hl0 zs.length 0 (by omega)
theorem aFs {n c : Nat} {xs : List UInt8} (hx : xs.length = n * c) {zs : List Nat} (hz : ∀ i,i < zs.length→zs.getD i 0 < n) {i j : Nat} (hi : i < zs.length) (hj : j < c) : (xQ (jQ xs n c) zs).flatten.getD (i * c + j) 0 = xs.getD (zs.getD i 0 * c + j) 0:=by
 have hL:=mZ hx;rw [tX (MT hL hz) hi hj,← aGM hx (hz i hi) hj];unfold fS;rw [SF _ _ hi]
/-! the rows that are chosen -/
structure YU (n : Nat) (zs : List Nat) : Prop where
 len : zs.length = n
 lt : ∀ i,i < n→zs.getD i 0 < n
 ne : ∀ i i',i < n→i' < n→i≠i'→zs.getD i 0≠zs.getD i' 0
theorem aGL {zs : List Nat} {i j : Nat} {v : Nat} (hi : i < zs.length) : (zs.set i v).getD j 0 = if j = i then v else zs.getD j 0:=by
 rw [List.getD_eq_getElem?_getD,List.getElem?_set]
 by_cases e : i = j
 ·rw [if_pos e,if_pos hi,if_pos e.symm]
  rfl
 ·rw [if_neg e,if_neg (fun h => e h.symm),List.getD_eq_getElem?_getD]
theorem YU.swap {n : Nat} {zs : List Nat} (h : YU n zs) {a b : Nat} (ha : a < n) (hb : b < n) : YU n ((zs.set a (zs.getD b 0)).set b (zs.getD a 0)):=by
 have g : ∀ j,((zs.set a (zs.getD b 0)).set b (zs.getD a 0)).getD j 0 = zs.getD (if j = b then a else if j = a then b else j) 0:=by
  intro j;rw [aGL (by rw [List.length_set,h.len];exact hb),aGL (by rw [h.len];exact ha)]
  split
  ·rfl
  ·split <;> rfl
 refine ⟨by simp [h.len],fun i hi => by rw [g];exact h.lt _ (by split <;> (try split) <;> omega),fun i i' hi hi' hne => ?_⟩;rw [g,g];refine h.ne _ _ (by split <;> (try split) <;> omega) (by split <;> (try split) <;> omega) ?_
 split <;> split <;> (try split) <;> (try split) <;> omega
theorem aFu (n : Nat) : YU n (List.range n) :=
 ⟨List.length_range,fun i hi => by rw [List.getD_eq_getElem?_getD,List.getElem?_range hi];exact hi,fun i i' hi hi' hne => by
  rw [List.getD_eq_getElem?_getD,List.getElem?_range hi,List.getD_eq_getElem?_getD,List.getElem?_range hi'];exact hne⟩
theorem aFA (zs : List Nat) (i v : Nat) : (nZ zs).set i (v : Int) = nZ (zs.set i v):=by simp [nZ,List.map_set]
theorem aNW (zs : List Nat) (n : Nat) : (nZ zs).take n = nZ (zs.take n):=by simp [nZ,List.map_take]
def upN (n i : Nat) : List Nat:=(List.range n).map fun k => if k < i then k else 0
theorem aGE (n i : Nat) : (upN n i).length = n:=by simp [upN]
theorem aNx {n i : Nat} (hi : i < n) : (upN n i).set i i = upN n (i + 1):=by
 refine List.ext_getElem (by simp [upN]) fun k h1 h2 => ?_
 simp only [upN,List.getElem_set,List.getElem_map,List.getElem_range]
 by_cases e : i = k
 ·rw [if_pos e,if_pos (by omega),e]
 ·rw [if_neg e]
  by_cases h3 : k < i
  ·rw [if_pos h3,if_pos (by omega)]
  ·rw [if_neg h3,if_neg (by omega)]
theorem aKv (n : Nat) : List.replicate n (0 : Int) = nZ (upN n 0):=by
 refine List.ext_getElem (by simp [upN,nZ]) fun k h1 h2 => ?_
 simp [upN,nZ]
theorem aNy (n : Nat) : upN n n = List.range n:=by
 refine List.ext_getElem (by simp [upN]) fun k h1 h2 => ?_
 rw [List.length_range] at h2
 simp [upN,h2]
theorem aIK (a b : Nat) (turns : List UInt8) (hab : a + b≤64) (hpos0 : 1≤a ∨ turns = []) (ht : turns.length≤140737488355328) : ∃ zs,YU (a + b) zs∧Ev (fun k => bA.f k (a : Int) (b : Int) (nI turns)) (nZ (zs.take a))∧(turns = []→zs = List.range (a + b)):=by
 have hl1 : ∀ d i zs,i + d = turns.length + 2→YU (a + b) zs → ∃ zs',YU (a + b) zs'∧Ev (fun k => bA.l1 k (a : Int) (nI turns) (nZ zs) (i : Int)) (nZ (zs'.take a))∧(turns = []→zs' = zs):=by
  intro d
  induction d using Nat.strongRecOn with
  | ind d ih =>
   intro i zs hi hp
   by_cases h : i + 1 < turns.length
   ·have hpos : 1≤a:=by
     rcases hpos0 with h0 | h0
     ·exact h0
     ·rw [h0] at h
      simp at h
    obtain ⟨zs',h1,h2,h3⟩:=ih (d - 2) (by omega) (i + 2) _ (by omega) (hp.swap (a:=(turns.getD i 0).toNat % (a + b)) (b:=(turns.getD (i + 1) 0).toNat % (a + b)) (Nat.mod_lt _ (by omega)) (Nat.mod_lt _ (by omega)));refine ⟨zs',h1,Ev.step (fun k => ?_) h2,fun e => by rw [e] at h;simp at h⟩;have e1 : ∀ j,j < turns.length→Int.tmod (wrap64 (rd (nI turns) (j : Int))) ((nZ zs).length : Int) = (((turns.getD j 0).toNat % (a + b) : Nat) : Int):=by
     intro j hj;have:=(turns.getD j 0).toNat_lt;rw [aAq,aNu (by omega),pI,hp.len,Int.tmod_eq_emod_of_nonneg (by omega),Int.natCast_emod]
    have m1:=Nat.mod_lt (turns.getD i 0).toNat (show a + b > 0 by omega);have m2:=Nat.mod_lt (turns.getD (i + 1) 0).toNat (show a + b > 0 by omega);have e2 : wrap64 ((i : Int) + 2) = ((i + 2 : Nat) : Int):=by rw [w64 (by omega) (by omega)];rfl
    rw [bA.l1,gF (by omega),if_pos (by rw [cX];omega),if_pos (by omega),if_pos (by rw [cX];omega),if_neg (by rw [pI,hp.len];omega),if_pos (by omega),e1 i (by omega),e1 (i + 1) h,if_pos (by omega),if_pos (by rw [pI,hp.len];omega),if_pos (by omega),if_pos (by rw [pI,hp.len];omega),Int.toNat_natCast,Int.toNat_natCast,aGS (by rw [hp.len];exact m2),aGS (by rw [hp.len];exact m1),aFA,aFA,e2]
   ·refine ⟨zs,hp,Ev.step (f:=fun _ => some (nZ (zs.take a))) (fun k => ?_) (Ev.now _),fun _ => rfl⟩
    rw [bA.l1,gF (by omega),if_neg (by rw [cX];omega),if_pos (by omega),if_pos (by rw [pI,hp.len];omega),Int.toNat_natCast,aNW]
 obtain ⟨zs,h1,h2,h3⟩:=hl1 (turns.length + 2) 0 (List.range (a + b)) (by omega) (aFu _);refine ⟨zs,h1,?_,h3⟩;unfold bA.f;have hl0 : ∀ d i,i + d = a + b→Ev (fun k => bA.l0 k (a : Int) (nI turns) (nZ (upN (a + b) i)) (i : Int)) (nZ (zs.take a)):=by
  intro d
  induction d with
  | zero =>
   intro i hi;obtain rfl : i = a + b:=by omega
   refine Ev.step (fun k => ?_) h2;rw [bA.l0,if_neg (by rw [pI,aGE];omega),aNy];rfl
  | succ d ih =>
   intro i hi;refine Ev.step (fun k => ?_) (ih (i + 1) (by omega));rw [bA.l0,if_pos (by rw [pI,aGE];omega),if_pos (by omega),Int.toNat_natCast,aFA,aNx (by omega),gF (by omega)]
 have h0:=hl0 (a + b) 0 (by omega);rw [← aKv] at h0;simp only [aGD (show a + b≤9223372036854775807 by omega),Int.toNat_natCast,if_pos (show (0 : Int)≤((a + b : Nat) : Int) by omega),if_pos (show a + b≤35184372088832 by omega)];exact h0
theorem aBR (r c : Int) (l : List Int) : bI.f r c l r c l = some true:=by
 unfold bI.f;rw [if_pos rfl,if_pos rfl];unfold kF.f;rw [beq_self_eq_true];rfl
theorem ID {α : Type} {g : Option α} {r : α} (h : g = some r) : Ev (fun _ => g) r:=⟨0,fun _ _ => h⟩
theorem TT {α : Type} {g f : Nat→Option α} {r : α} (h : ∀ k,g k = f k) (e : Ev f r) : Ev g r:=by
 rw [show g = f from funext h];exact e
end Go.Proofs.Yteofcbkjhdadpaa
namespace Go.Proofs.Yteofcbkjhdadpaa
open Go.RowKit Go.Proofs.aI.bE Go.Proofs.Yteofcbkjhdadpaa.Pr
section
variable {r c : Nat} {xs : List UInt8}
theorem aKZ (hr : r≤64) (hc : c≤64) (hx : xs.length = r * c) {j : Nat} (hj : j < c) {R : Int×Int×List Int×Int}
  (h : Ev (fun k => bD.l0 k ((j + 1 : Nat) : Int) r c (nI xs) c r (nI ((tE r c xs).take ((j + 1) * r)))) R) :
  ∀ d i,i + d = r→Ev (fun k => bD.l1 k (j : Int) (i : Int) r c (nI xs) c r (nI ((tE r c xs).take (j * r + i)))) R:=by
 have hb : c * r≤64 * 64:=Nat.mul_le_mul hc hr;have hb2 : r * c≤64 * 64:=Nat.mul_le_mul hr hc;intro d
 induction d with
 | zero =>
  intro i hi;obtain rfl : i = r:=by omega
  refine Ev.step (fun k => ?_) h;rw [bD.l1,if_neg (by omega),gF (by omega),Nat.add_mul,Nat.one_mul]
 | succ d ih =>
  intro i hi;refine Ev.step (fun k => ?_) (ih (i + 1) (by omega));have h1:=jK (show i < r by omega) hj;have h2:=jK hj (show i < r by omega);have e:=aAC (FR c xs) hj (show i < r by omega);have e2 : FR c xs j i = xs.getD (i * c + j) 0:=rfl;rw [bD.l1,if_pos (by omega),aGP (by omega) (by omega),Option.bind_some,if_pos (by rw [cX,List.length_take];omega),gF (by omega),aBO,← e2];unfold tE;rw [e];rfl
theorem aLa (hr : r≤64) (hc : c≤64) (hx : xs.length = r * c) :
  ∀ d j,j + d = c→Ev (fun k => bD.l0 k (j : Int) r c (nI xs) c r (nI ((tE r c xs).take (j * r)))) ((c : Int),(r : Int),nI (tE r c xs),0):=by
 intro d
 induction d with
 | zero =>
  intro j hj;obtain rfl : j = c:=by omega
  refine Ev.step (fun k => ?_) (Ev.now _);rw [bD.l0,if_neg (by omega),List.take_of_length_le (by rw [pE];omega)]
 | succ d ih =>
  intro j hj;have h0:=aKZ hr hc hx (show j < c by omega) (ih (j + 1) (by omega)) r 0 (by omega);refine Ev.step (fun k => ?_) h0;rw [bD.l0,if_pos (by omega),Nat.add_zero];rfl
end
theorem aKY (a0 a1 : Int) (xs : List UInt8) :
  Ev (fun k => bD.f k a0 a1 (nI xs)) (if cO a0 a1 xs.length = true then (a1,a0,nI (tE a0.toNat a1.toNat xs),0) else (0,0,[],3)):=by
 unfold bD.f;simp only [xP,cX,Option.bind_some]
 by_cases h1 : cO a0 a1 xs.length = true
 ·simp only [h1,if_true]
  obtain ⟨a,b,rfl,rfl,k1,k2,k3⟩:=MP h1;have h0:=aLa k1 k2 k3 b 0 (by omega);rw [Nat.zero_mul,List.take_zero] at h0;exact h0
 ·simp only [h1,Bool.false_eq_true,if_false]
  exact Ev.now _
end Go.Proofs.Yteofcbkjhdadpaa
namespace Go.Proofs.Yteofcbkjhdadpaa
open Go.RowKit Go.Proofs.aI.bE Go.Proofs.Yteofcbkjhdadpaa.Pr
theorem aAr {n c : Nat} {xs : List UInt8} (hn : n≤64) (hc : c≤64) (hx : xs.length = n * c) : cS.f (n : Int) (c : Int) (nI xs) = some ((n : Int),(c : Int),nI (aBG n c xs).1.flatten,nZ (aBG n c xs).2.2,0):=by
 unfold cS.f;rw [aFI,if_pos rfl,cX,nV hn hc hx,if_pos rfl,MU,Int.toNat_natCast,Int.toNat_natCast]
theorem aKz {n c : Nat} {xs : List UInt8} (hn : n≤64) (hc : c≤64) (hx : xs.length = n * c) : Ev (fun r => bD.f r (n : Int) (c : Int) (nI xs)) ((c : Int),(n : Int),nI (tE n c xs),(0 : Int)):=by
 have h:=aKY (n : Int) (c : Int) xs;rw [nV hn hc hx,if_pos rfl,Int.toNat_natCast,Int.toNat_natCast] at h;exact h
end Go.Proofs.Yteofcbkjhdadpaa
namespace Go.Proofs.Yteofcbkjhdadpaa
open Gf
theorem XA {n c : Nat} {A B : List (List UInt8)} (hA : eS n c A) (hB : eS n c B) (h : ∀ i j,i < n→j < c→fS A i j = fS B i j) : A = B:=by
 refine rY hA.len hB.len fun i hi => ?_
 refine List.ext_getElem (by have a:=hA.wid i hi;have b:=hB.wid i hi;omega) fun j h3 h4 => ?_
 have e:=h i j hi (by rw [hA.wid i hi] at h3;exact h3);unfold fS at e;rw [List.getD_eq_getElem?_getD,List.getElem?_eq_getElem h3,List.getD_eq_getElem?_getD (l:=B.getD i []),List.getElem?_eq_getElem h4] at e;exact e
theorem aEc {n k : Nat} {A B C : Nat→Nat→UInt8} (h : ∀ i j,i < n→j < k→B i j = AM (fun t => mul (A i t) (C t j)) k) {x : Nat→UInt8} (hx : ∀ t,t < k→AM (fun i => mul (A i t) (x i)) n = 0) :
  ∀ j,j < k→AM (fun i => mul (B i j) (x i)) n = 0:=by
 intro j hj;rw [jP (g:=fun i => AM (fun t => mul (mul (A i t) (x i)) (C t j)) k) (fun i hi => by
  rw [h i j hi hj,← CL];exact jP fun t ht => by rw [mul_assoc,mul_comm (C t j),← mul_assoc]),OG]
 refine zJ fun t ht => ?_
 rw [CL,hx t ht,eL]
section
variable {k n : Nat} {V : List UInt8} (hk : k≤n) (hV : V.length = n * k)
abbrev uB (n k : Nat) (V : List UInt8) : List UInt8:=aAb n k k V (fH k (GH k V)).2.1.flatten
theorem DB (n k : Nat) (V : List UInt8) : (uB n k V).length = n * k:=nR _ _ _
include hk hV
theorem aBv {i j : Nat} (hi : i < k) (hj : j < k) : fS (GH k V) i j = V.getD (i * k + j) 0:=by
 have hp:=jK hi hj;have hle:=Nat.mul_le_mul_right k hk;have hl : (V.take (k * k)).length = k * k:=by rw [List.length_take,hV];omega
 rw [← tX (mZ hl) hi hj,DE hl,List.getD_eq_getElem?_getD,List.getElem?_take_of_lt hp,← List.getD_eq_getElem?_getD]
theorem JI {i j : Nat} (hi : i < n) (hj : j < k) : (uB n k V).getD (i * k + j) 0 = AM (fun t => mul (V.getD (i * k + t) 0) (fS (fH k (GH k V)).2.1 t j)) k:=by
 have hA:=(PF (GK hk hV)).2;unfold uB aAb;rw [SK _ hi hj];unfold OW;rw [aDs];exact jP fun t ht => by rw [tX hA ht hj]
variable (hp : (fH k (GH k V)).2.2.length = k)
include hp
theorem aGH {i j : Nat} (hi : i < k) (hj : j < k) : (uB n k V).getD (i * k + j) 0 = if i = j then 1 else 0:=by
 have hs:=(aBV (GK hk hV) hp (fun t => fS (fH k (GH k V)).2.1 t j) (AU j)).1 (fun t ht => (DQ _ hj t).symm) i hi;rw [JI hk hV (by omega) hj];unfold sA at hs;rw [jP (g:=fun t => mul (fS (GH k V) i t) (fS (fH k (GH k V)).2.1 t j)) (fun t ht => by rw [aBv hk hV hi ht]),hs];rfl
theorem aLF {t j : Nat} (ht : t < k) (hj : j < k) : AM (fun q => mul (fS (fH k (GH k V)).2.1 t q) (V.getD (q * k + j) 0)) k = AU j t:=by
 have h:=(aBV (GK hk hV) hp (AU j) (fun i => fS (GH k V) i j)).2 (fun i hi => DQ _ hj i) t ht;rw [h];unfold sA;exact jP fun q hq => by rw [← aBv hk hV hq hj]
theorem aKJ {i j : Nat} (hi : i < n) (hj : j < k) : V.getD (i * k + j) 0 = AM (fun q => mul ((uB n k V).getD (i * k + q) 0) (V.getD (q * k + j) 0)) k:=by
 rw [jP (g:=fun q => AM (fun t => mul (V.getD (i * k + t) 0) (mul (fS (fH k (GH k V)).2.1 t q) (V.getD (q * k + j) 0))) k) (fun q hq => by
  rw [JI hk hV hi hq,← CL];exact jP fun t ht => by rw [mul_assoc]),OG,
  jP (g:=fun t => mul (V.getD (i * k + t) 0) (AU j t)) (fun t ht => by rw [JJ,aLF hk hV hp ht hj]),
  lN hj (fun t ht hne => by unfold AU;rw [if_neg hne,Gf.mul_zero])]
 unfold AU;rw [if_pos rfl,mul_one]
theorem aNI (x : Nat→UInt8) : aAj k n (fS (jQ (tE n k V) k n)) x ↔ aAj k n (fS (jQ (tE n k (uB n k V)) k n)) x:=by
 have ha : ∀ (X : List UInt8) j i,j < k→i < n→fS (jQ (tE n k X) k n) j i = X.getD (i * k + j) 0:=fun X j i hj hi => by
  rw [aGM (pE n k X) hj hi];unfold tE;rw [SK _ hj hi];rfl
 have hd : ∀ (X : List UInt8),aAj k n (fS (jQ (tE n k X) k n)) x ↔ ∀ j,j < k→AM (fun i => mul (X.getD (i * k + j) 0) (x i)) n = 0:=fun X => by
  unfold aAj sA;exact forall_congr' fun j => forall_congr' fun hj => by rw [jP fun i hi => by rw [ha X j i hj hi]]
 rw [hd,hd];exact ⟨aEc (A:=fun i t => V.getD (i * k + t) 0) (B:=fun i j => (uB n k V).getD (i * k + j) 0) fun i j hi hj => JI hk hV hi hj,
  aEc (A:=fun i t => (uB n k V).getD (i * k + t) 0) (B:=fun i j => V.getD (i * k + j) 0) (C:=fun t j => V.getD (t * k + j) 0) fun i j hi hj => aKJ hk hV hp hi hj⟩
theorem aNH : (aBG k n (tE n k V)).1 = (aBG k n (tE n k (uB n k V))).1:=by
 have h1:=(mA k n (jQ (tE n k V) k n) (List.replicate k [])).toF (mZ (pE n k V)) (DF k);have h2:=(mA k n (jQ (tE n k (uB n k V)) k n) (List.replicate k [])).toF (mZ (pE n k _)) (DF k);obtain ⟨f1,r1,_⟩:=h1;obtain ⟨f2,r2,_⟩:=h2;have hu:=DU.unique f1.DD f2.DD fun x => (f1.aBT.trans (aNI hk hV hp x)).trans f2.aBT.symm
 exact XA r1 r2 hu.2
/-! once more -/
theorem aKI : GH k (uB n k V) = LQ k:=by
 refine XA (GK hk (DB n k V)) (oL k) fun i j hi hj => ?_
 rw [aBv hk (DB n k V) hi hj,aGH hk hV hp hi hj,GX hi hj]
 by_cases e : i = j
 ·rw [if_pos e,if_pos e.symm]
 ·rw [if_neg e,if_neg (fun h => e h.symm)]
end
theorem aLI (k : Nat) (y : Nat→UInt8) {i : Nat} (hi : i < k) : sA (fS (LQ k)) k y i = y i:=by
 unfold sA;rw [lN hi (fun l hl hne => by rw [GX hi hl,if_neg hne,Gf.eL]),GX hi hi,if_pos rfl,Gf.one_mul]
theorem aGX (k : Nat) : (fH k (LQ k)).2.2.length = k:=by
 have hF:=((mA k k (LQ k) (LQ k)).toF (oL k) (oL k)).1;exact hF.aID.2 fun x hx l hl => by rw [← aLI k x hl];exact hx l hl
theorem aSV (k : Nat) : (fH k (LQ k)).2.1 = LQ k:=by
 refine XA (PF (oL k)).2 (oL k) fun i j hi hj => ?_
 have h:=(aBV (oL k) (aGX k) (fun t => fS (fH k (LQ k)).2.1 t j) (AU j)).1 (fun t ht => (DQ _ hj t).symm) i hi;rw [aLI k _ hi] at h;rw [h,GX hi hj];unfold AU
 by_cases e : i = j
 ·rw [if_pos e,if_pos e.symm]
 ·rw [if_neg e,if_neg (fun h => e h.symm)]
theorem aIo {k n : Nat} {V : List UInt8} (hk : k≤n) (hV : V.length = n * k) (hp : (fH k (GH k V)).2.2.length = k) : (fH k (GH k (uB n k V))).2.2.length = k∧uB n k (uB n k V) = uB n k V:=by
 have e:=aKI hk hV hp;refine ⟨by rw [e];exact aGX k,?_⟩;refine (QU (DB n k V) fun i j hi hj => ?_).symm;have h1:=JI hk (DB n k V) hi hj;rw [e,aSV] at h1;have h2 : AM (fun t => mul ((uB n k V).getD (i * k + t) 0) (fS (LQ k) t j)) k = (uB n k V).getD (i * k + j) 0:=by
  rw [lN hj (fun t ht hne => by rw [GX ht hj,if_neg (fun h => hne h.symm),Gf.mul_zero]),GX hj hj,if_pos rfl,mul_one]
 have h3:=h1.trans h2;rw [show (uB n k (uB n k V)).getD (i * k + j) 0 = OW k k (uB n k V) (fH k (GH k (uB n k V))).2.1.flatten i j from by unfold uB aAb;rw [SK _ hi hj]] at h3;rw [h3,List.getD_eq_getElem?_getD,List.getElem?_eq_getElem (by rw [DB];exact jK hi hj)];rfl
end Go.Proofs.Yteofcbkjhdadpaa
namespace Go.Proofs.Yteofcbkjhdadpaa
open Go.RowKit Go.Proofs.aI.bE Go.Proofs.Yteofcbkjhdadpaa.Pr
theorem aPY (a : UInt8) : iW.f (a.toNat : Int) = some (((Gf.inv a).toNat : Int),Gf.PG a):=by
 unfold iW.f;rw [zC,JG];rfl
theorem SM {n c : Nat} {L : List (List UInt8)} (h : eS n c L) {i j : Nat} (hi : i < n) (hj : j < c) (y : UInt8) : (nI L.flatten).set (i * c + j) (y.toNat : Int) = nI (L.set i ((L.getD i []).set j y)).flatten:=by rw [MV,aDW h hi hj]
def LP (a b : List UInt8) (l : Nat) : List UInt8:=a.take l ++ b.drop l
theorem XJ {a b : List UInt8} {c l : Nat} (h1 : a.length = c) (h2 : b.length = c) (hl : l≤c) : (LP a b l).length = c:=by
 unfold LP;rw [List.length_append,List.length_take,List.length_drop];omega
theorem SI (a b : List UInt8) : LP a b 0 = b:=by simp [LP]
theorem XK {a b : List UInt8} {c : Nat} (h1 : a.length = c) (h2 : b.length = c) : LP a b c = a:=by
 unfold LP;rw [List.take_of_length_le (by omega),List.drop_eq_nil_of_le (by omega),List.append_nil]
theorem aBQ {a b : List UInt8} {c l : Nat} (h1 : a.length = c) (h2 : b.length = c) (hl : l < c) : (LP a b l).getD l 0 = b.getD l 0:=by
 unfold LP;rw [List.getD_eq_getElem?_getD,List.getElem?_append_right (by rw [List.length_take];omega),List.length_take,Nat.min_eq_left (by omega),Nat.sub_self,List.getElem?_drop,Nat.add_zero,← List.getD_eq_getElem?_getD]
theorem OX {a b : List UInt8} {c l : Nat} (h1 : a.length = c) (h2 : b.length = c) (hl : l < c) : (LP a b l).set l (a.getD l 0) = LP a b (l + 1):=by
 unfold LP;rw [List.set_append_right _ _ (by rw [List.length_take];omega),List.length_take,Nat.min_eq_left (by omega),Nat.sub_self,List.drop_eq_getElem_cons (by omega : l < b.length),cT,List.take_succ_eq_append_getElem (by omega),List.append_assoc,List.getD_eq_getElem?_getD,List.getElem?_eq_getElem (by omega)];rfl
def yG (L : List (List UInt8)) (i top : Nat) (d : UInt8) (l : Nat) : List (List UInt8):=(L.set i (LP (L.getD top []) (L.getD i []) l)).set top (LP ((L.getD i []).map (Gf.mul d)) (L.getD top []) l)
section
variable {n c i top l : Nat} {L : List (List UInt8)} {d : UInt8}
theorem EN (h : eS n c L) (hi : i < n) (ht : top < n) (hl : l≤c) : eS n c (yG L i top d l) :=
 (h.set hi (XJ (h.wid top ht) (h.wid i hi) hl)).set ht (XJ (by rw [List.length_map];exact h.wid i hi) (h.wid top ht) hl)
theorem wI (h : eS n c L) (hi : i < n) (ht : top < n) (k : Nat) : (yG L i top d l).getD k [] = if k = top then LP ((L.getD i []).map (Gf.mul d)) (L.getD top []) l else if k = i then LP (L.getD top []) (L.getD i []) l else L.getD k []:=by
 unfold yG;rw [gP (by rw [List.length_set,h.len];exact ht),gP (by rw [h.len];exact hi)]
theorem aFa (h : eS n c L) (hi : i < n) (ht : top < n) : yG L i top d 0 = L:=by
 refine rY (EN h hi ht (Nat.zero_le _)).len h.len fun k hk => ?_
 rw [wI h hi ht,SI,SI]
 split
 ·next e => rw [e]
 ·split
  ·next e => rw [e]
  ·rfl
theorem aIp (h : eS n c L) (hi : i < n) (ht : top < n) : yG L i top d c = oH L i top d:=by
 unfold yG oH;rw [XK (h.wid top ht) (h.wid i hi),XK (by rw [List.length_map];exact h.wid i hi) (h.wid top ht)]
theorem aFb (h : eS n c L) (hi : i < n) (ht : top < n) (hl : l < c) :
  ((yG L i top d l).set i (((yG L i top d l).getD i []).set l ((L.getD top []).getD l 0))).set top ((((yG L i top d l).set i (((yG L i top d l).getD i []).set l ((L.getD top []).getD l 0))).getD top []).set l (Gf.mul d ((L.getD i []).getD l 0))) = yG L i top d (l + 1):=by
 have r:=EN (d:=d) h hi ht (Nat.le_of_lt hl);have wi:=h.wid i hi;have wt:=h.wid top ht;have wm : ((L.getD i []).map (Gf.mul d)).length = c:=by rw [List.length_map];exact wi
 have em : ((L.getD i []).map (Gf.mul d)).getD l 0 = Gf.mul d ((L.getD i []).getD l 0):=OY d _ l;refine rY (by simp [r.len]) (EN h hi ht hl).len fun k hk => ?_
 rw [gP (by rw [List.length_set,r.len];exact ht),gP (by rw [r.len];exact hi),gP (by rw [r.len];exact hi),wI h hi ht,wI h hi ht,wI h hi ht,wI h hi ht]
 by_cases h1 : k = top
 ·rw [if_pos h1,if_pos h1]
  by_cases h2 : top = i
  ·subst h2
   rw [if_pos rfl,if_pos rfl,List.set_set,← em,OX wm wt hl]
  ·rw [if_neg h2,if_pos rfl,← em,OX wm wt hl]
 ·rw [if_neg h1,if_neg h1,if_neg h1]
  by_cases h2 : k = i
  ·rw [if_pos h2,if_pos h2,← h2,if_neg h1,if_pos rfl,h2,OX wt wi hl]
  ·rw [if_neg h2,if_neg h2,if_neg h2]
end
section
variable {n c : Nat} (hn : n≤64) (hc : c≤65)
include hn hc
theorem aFo {piv : List Int} {j top k : Nat} {S E : List (List UInt8)} {r : Int×Int×List Int×List Int} (hS : eS n c S) (hE : eS n c E) (ht : top < n) (hk : k < n) (hkt : k≠top) (y : UInt8) (row : List UInt8) (hrow : row.length = c) (hT : E.getD top [] = S.getD top [])
  (hr : Ev (fun q => aJ.l3 q piv (j : Int) (top : Int) ((k + 1 : Nat) : Int) (n : Int) (c : Int) (nI (E.set k (Gf.qT row y (S.getD top []))).flatten)) r) :
  ∀ d l,l + d = c→Ev (fun q => aJ.l4 q piv (j : Int) (top : Int) (k : Int) (y.toNat : Int) (l : Int) (n : Int) (c : Int) (nI (E.set k (oK row (S.getD top []) y l)).flatten)) r:=by
 have hTl : (S.getD top []).length = c:=hS.wid top ht;intro d
 induction d with
 | zero =>
  intro l hl;obtain rfl : l = c:=by omega
  refine Ev.step (f:=fun q => aJ.j5 q piv (j : Int) (top : Int) (k : Int) (y.toNat : Int) (l : Int) false (n : Int) (l : Int) (nI (E.set k (oK row (S.getD top []) y l)).flatten)) (fun q => ?_) (Ev.step (fun q => ?_) hr)
  ·rw [aJ.l4,if_neg (by omega)]
  ·rw [aJ.j5,if_neg (by simp),gF (by omega),aAs hrow hTl]
 | succ d ih =>
  intro l hl;have hlc : l < c:=by omega
  have hEs : eS n c (E.set k (oK row (S.getD top []) y l)):=hE.set hk (SG hrow hTl (by omega));obtain ⟨b1,b2,b3⟩:=US hn hc hk hlc;have hfl:=kT hEs;refine Ev.step (f:=fun q => aJ.j5 q piv (j : Int) (top : Int) (k : Int) (y.toNat : Int) (l : Int) true (n : Int) (c : Int) (nI (E.set k (oK row (S.getD top []) y l)).flatten)) (fun q => ?_) (Ev.step (fun q => ?_) (ih (l + 1) (by omega)))
  ·rw [aJ.l4,if_pos (by omega),show ((k : Int) != (top : Int)) = true by rw [bne_iff_ne];omega]
  ·have e1 : (E.set k (oK row (S.getD top []) y l)).flatten.getD (k * c + l) 0 = row.getD l 0:=by
    rw [tX hEs hk hlc];unfold fS;rw [gP (by rw [hE.len];exact hk),if_pos rfl,aDB hrow hTl hlc]
   have e2 : fS (E.set k (oK row (S.getD top []) y l)) top l = (S.getD top []).getD l 0:=by
    unfold fS;rw [gP (by rw [hE.len];exact hk),if_neg (fun e => hkt e.symm),hT]
   rw [aJ.j5,if_pos rfl,uH b2,if_pos (by omega),if_pos (by rw [cX,hfl];omega),yO hn hc hEs ht hlc,Option.bind_some,aBL,Option.bind_some,aAq,e1,e2,FM,Int.toNat_natCast,SM hEs hk hlc,gP (by rw [hE.len];exact hk),if_pos rfl,List.set_set,XD hrow hTl hlc,gF (by omega)]
theorem aFp {piv : List Int} {j top : Nat} {S : List (List UInt8)} {r : Int×Int×List Int×List Int} (hS : eS n c S) (ht : top < n) (hj : j < c) (hp : piv.length < 17592186044416)
  (hr : Ev (fun q => aJ.l0 q (piv ++ [(j : Int)]) ((j + 1 : Nat) : Int) (n : Int) (c : Int) (nI (eV top j n S).flatten)) r) :
  ∀ d k,k + d = n→Ev (fun q => aJ.l3 q piv (j : Int) (top : Int) (k : Int) (n : Int) (c : Int) (nI (eV top j k S).flatten)) r:=by
 intro d
 induction d with
 | zero =>
  intro k hk;obtain rfl : k = n:=by omega
  refine Ev.step (fun q => ?_) hr;rw [aJ.l3,if_neg (by omega),if_pos hp,gF (by omega)]
 | succ d ih =>
  intro k hk;have hkn : k < n:=by omega
  have rE:=oM hS ht k (by omega) (j:=j);have hrow : (eV top j k S).getD k [] = S.getD k []:=by rw [rE.2,if_neg (by omega)]
  have hyk : fS (eV top j k S) k j = fS S k j:=by unfold fS;rw [hrow]
  have hT : (eV top j k S).getD top [] = S.getD top []:=by rw [rE.2,if_neg (by simp)]
  by_cases hkt : k = top
  ·refine Ev.step (f:=fun q => aJ.l4 q piv (j : Int) (top : Int) (k : Int) ((fS S k j).toNat : Int) ((0 : Nat) : Int) (n : Int) (c : Int) (nI (eV top j k S).flatten)) (fun q => ?_) (Ev.step (f:=fun q => aJ.j5 q piv (j : Int) (top : Int) (k : Int) ((fS S k j).toNat : Int) ((0 : Nat) : Int) false (n : Int) (c : Int) (nI (eV top j k S).flatten)) (fun q => ?_) (Ev.step (fun q => ?_) (ih (k + 1) (by omega))))
   ·rw [aJ.l3,if_pos (by omega),yO hn hc rE.1 hkn hj,hyk]
    rfl
   ·rw [aJ.l4,if_pos (by omega),hkt]
    simp
   ·rw [aJ.j5,if_neg (by simp),gF (by omega)]
    have e : eV top j (k + 1) S = eV top j k S:=by rw [hkt];exact aAO
    rw [e]
  ·have e0 : (eV top j k S).set k (oK (S.getD k []) (S.getD top []) (fS S k j) 0) = eV top j k S:=by
    rw [XC];refine rY (by rw [List.length_set];exact rE.1.len) rE.1.len fun p hp2 => ?_
    rw [gP (by rw [rE.1.len];exact hkn)]
    split
    ·next e => rw [e];exact hrow.symm
    ·rfl
   have h4:=aFo hn hc hS rE.1 ht hkn hkt (fS S k j) (S.getD k []) (hS.wid k hkn) hT (piv:=piv) (j:=j) (r:=r) (by rw [aAP hS ht hkn hkt];exact ih (k + 1) (by omega)) c 0 (by omega);rw [e0] at h4;refine Ev.step (fun q => ?_) h4;rw [aJ.l3,if_pos (by omega),yO hn hc rE.1 hkn hj,hyk];rfl
theorem aFq {piv : List Int} {j i top : Nat} {L : List (List UInt8)} {d : UInt8} {r : Int×Int×List Int×List Int} (h : eS n c L) (hi : i < n) (ht : top < n)
  (hr : Ev (fun q => aJ.l3 q piv (j : Int) (top : Int) ((0 : Nat) : Int) (n : Int) (c : Int) (nI (oH L i top d).flatten)) r) :
  ∀ e l,l + e = c→Ev (fun q => aJ.l2 q piv (j : Int) (top : Int) (i : Int) (d.toNat : Int) (l : Int) (n : Int) (c : Int) (nI (yG L i top d l).flatten)) r:=by
 intro e
 induction e with
 | zero =>
  intro l hl;obtain rfl : l = c:=by omega
  refine Ev.step (fun q => ?_) hr;rw [aJ.l2,if_neg (by omega),aIp h hi ht];rfl
 | succ e ih =>
  intro l hl;have hlc : l < c:=by omega
  have hs:=EN (d:=d) h hi ht (l:=l) (by omega);have wi:=h.wid i hi;have wt:=h.wid top ht;have wm : ((L.getD i []).map (Gf.mul d)).length = c:=by rw [List.length_map];exact wi
  obtain ⟨b1,b2,b3⟩:=US hn hc hi hlc;obtain ⟨b4,b5,_⟩:=US hn hc ht hlc;have e1 : fS (yG L i top d l) top l = (L.getD top []).getD l 0:=by
   unfold fS;rw [wI h hi ht,if_pos rfl,aBQ wm wt hlc]
  have e2 : fS (yG L i top d l) i l = (L.getD i []).getD l 0:=by
   unfold fS;rw [wI h hi ht]
   by_cases h2 : i = top
   ·rw [if_pos h2,aBQ wm wt hlc,h2]
   ·rw [if_neg h2,if_pos rfl,aBQ wt wi hlc]
  have hs2 : eS n c ((yG L i top d l).set i (((yG L i top d l).getD i []).set l ((L.getD top []).getD l 0))):=hs.set hi (by rw [List.length_set];exact hs.wid i hi);refine Ev.step (fun q => ?_) (ih (l + 1) (by omega));rw [aJ.l2,if_pos (by omega),yO hn hc hs ht hlc,Option.bind_some,yO hn hc hs hi hlc,Option.bind_some,e1,e2,uH b2,if_pos (by omega),if_pos (by rw [cX,kT hs];omega),aBL,Option.bind_some,uH b5,if_pos (by omega),if_pos (by rw [cX,kT hs];omega),Int.toNat_natCast,Int.toNat_natCast,SM hs hi hlc,SM hs2 ht hlc,aFb h hi ht hlc,gF (by omega)]
theorem aFr {piv : List Nat} {j : Nat} {L A : List (List UInt8)} {r : Int×Int×List Int×List Int} (h : eS n c L) (hj : j < c) (ht : piv.length≤n)
  (h0 : FZ L j (n - piv.length) piv.length = none→Ev (fun q => aJ.l0 q (nZ piv) ((j + 1 : Nat) : Int) (n : Int) (c : Int) (nI L.flatten)) r)
  (h1 : ∀ i,FZ L j (n - piv.length) piv.length = some i→Ev (fun q => aJ.l2 q (nZ piv) (j : Int) (piv.length : Int) (i : Int) ((Gf.inv (fS L i j)).toNat : Int) ((0 : Nat) : Int) (n : Int) (c : Int) (nI L.flatten)) r) :
  ∀ f i,i + f = n→piv.length≤i→(FZ L j (n - piv.length) piv.length = FZ L j f i)→Ev (fun q => aJ.l1 q (nZ piv) (j : Int) (piv.length : Int) (i : Int) (n : Int) (c : Int) (nI L.flatten)) r:=by
 intro f
 induction f with
 | zero =>
  intro i hi hp he;refine Ev.step (fun q => ?_) (h0 (by rw [he];rfl));rw [aJ.l1,if_neg (by omega),gF (by omega)]
 | succ f ih =>
  intro i hi hp he
  by_cases hz : fS L i j = 0
  ·refine Ev.step (fun q => ?_) (ih (i + 1) (by omega) (by omega) (by rw [he,FZ,if_neg (fun h => h hz)]))
   rw [aJ.l1,if_pos (by omega),yO hn hc h (by omega) hj,Option.bind_some,hz,if_pos (by rfl),gF (by omega)]
  ·refine Ev.step (fun q => ?_) (h1 i (by rw [he,FZ,if_pos hz]))
   rw [aJ.l1,if_pos (by omega),yO hn hc h (by omega) hj,Option.bind_some,if_neg (fun e => hz (UInt8.toNat_inj.1 (by simpa using e))),aPY,Option.bind_some];rfl
theorem MS : ∀ (f j : Nat) (L A : List (List UInt8)) (piv : List Nat),j + f = c→eS n c L→eS n 0 A→piv.length≤n→piv.length≤j →
  Ev (fun q => aJ.l0 q (nZ piv) (j : Int) (n : Int) (c : Int) (nI L.flatten)) ((n : Int),(c : Int),nI (MQ n c f piv.length j L A piv).1.flatten,nZ (MQ n c f piv.length j L A piv).2.2)
 | 0,j,L,A,piv,hj,h,hA,ht,hpj => by
  refine Ev.step (fun q => ?_) (Ev.now _);rw [aJ.l0,if_neg (by omega)];rfl
 | f + 1,j,L,A,piv,hj,h,hA,ht,hpj => by
  have hjc : j < c:=by omega
  have hl1:=aFr hn hc (piv:=piv) (A:=A) (r:=((n : Int),(c : Int),nI (MQ n c (f + 1) piv.length j L A piv).1.flatten,nZ (MQ n c (f + 1) piv.length j L A piv).2.2)) h hjc ht
   (fun hf => by
    rw [MQ,hf];exact MS f (j + 1) L A piv (by omega) h hA ht (by omega))
   (fun i hf => by
    obtain ⟨q1,q2,q3,q4⟩:=MY hf;have hi : i < n:=by omega
    have htn : piv.length < n:=by omega
    have hS:=mY h hi htn (Gf.inv (fS L i j));have hSA:=mY hA hi htn (Gf.inv (fS L i j));have hEr:=(oM hS htn n (Nat.le_refl _) (j:=j)).1;have hEA:=(sP hS hSA htn n (Nat.le_refl _) (j:=j)).1;have h0:=MS f (j + 1) (eV piv.length j n (oH L i piv.length (Gf.inv (fS L i j)))) (lW piv.length j (oH L i piv.length (Gf.inv (fS L i j))) n (oH A i piv.length (Gf.inv (fS L i j)))) (piv ++ [j]) (by omega) hEr hEA (by rw [List.length_append];simp;omega) (by rw [List.length_append];simp;omega);have e : MQ n c (f + 1) piv.length j L A piv = MQ n c f (piv ++ [j]).length (j + 1) (eV piv.length j n (oH L i piv.length (Gf.inv (fS L i j)))) (lW piv.length j (oH L i piv.length (Gf.inv (fS L i j))) n (oH A i piv.length (Gf.inv (fS L i j)))) (piv ++ [j]):=by
     rw [MQ,hf,List.length_append];rfl
    rw [← e] at h0;have e2 : nZ (piv ++ [j]) = nZ piv ++ [(j : Int)]:=by simp [nZ]
    rw [e2] at h0;have h3:=aFp hn hc hS htn hjc (by rw [pI];omega) h0 n 0 (by omega);have h2:=aFq hn hc h hi htn h3 c 0 (by omega);rw [aFa h hi htn] at h2;exact h2)
   (n - piv.length) piv.length (by omega) (Nat.le_refl _) rfl
  refine Ev.step (fun q => ?_) hl1;rw [aJ.l0,if_pos (by omega),pI]
theorem aNQ {L : List (List UInt8)} (h : eS n c L) : Ev (fun q => aJ.f q (n : Int) (c : Int) (nI L.flatten)) ((n : Int),(c : Int),nI (zN n c L (List.replicate n [])).1.flatten,nZ (zN n c L (List.replicate n [])).2.2):=by
 have h0:=MS hn hc c 0 L (List.replicate n []) [] (by omega) h (DF n) (Nat.zero_le _) (Nat.zero_le _);exact h0
end
end Go.Proofs.Yteofcbkjhdadpaa
namespace Go.Proofs.Yteofcbkjhdadpaa
open Go.RowKit Go.Proofs.aI.bE Go.Proofs.Yteofcbkjhdadpaa.Pr
def GI (c q : Nat) : List (List UInt8):=(LQ c).map (LS q)
theorem aEd {c q i : Nat} (hq : q < c) (hi : i < c) : (GI c q).getD i [] = [(uI c q).getD i 0]:=by
 unfold GI;rw [pT (by simp [LS]),JU hi];unfold LS;rw [List.take_one,List.head?_drop,List.getElem?_eq_getElem (by rw [yZ];exact hq)];rw [List.getD_eq_getElem?_getD,List.getElem?_eq_getElem (by rw [yZ];exact hi)];unfold uI;simp only [Option.toList_some,Option.getD_some,List.getElem_set,List.getElem_replicate,List.cons.injEq,and_true]
 by_cases e : i = q
 ·rw [if_pos e,if_pos e.symm]
 ·rw [if_neg e,if_neg (fun h => e h.symm)]
theorem SR {c q : Nat} (hq : q < c) : eS c 1 (GI c q):=⟨by unfold GI;rw [List.length_map,VB],fun i hi => by rw [aEd hq hi];rfl⟩
section
variable {c : Nat} {L : List (List UInt8)} (hL : eS c c L)
include hL
theorem aKM {q : Nat} (hq : q < c) (hp : (fH c L).2.2.length = c) :
  (zN c (c + 1) (uF L (GI c q)) (List.replicate c [])).1 = uF (fH c L).1 ((fH c L).2.1.map (LS q))∧(zN c (c + 1) (uF L (GI c q)) (List.replicate c [])).2.2 = (fH c L).2.2:=by
 have hm:=(mA c c L (LQ c)).map (aMd hq) hL (oL c);obtain ⟨X',h2⟩:=hm.cat hL (SR hq) rfl hp (List.replicate c []);have e:=h2.aRx;exact ⟨e.1.symm,e.2.2.symm⟩
theorem aKN {q t : Nat} (hq : q < c) (ht : t < c) : fS (uF (fH c L).1 ((fH c L).2.1.map (LS q))) t c = fS (fH c L).2.1 t q:=by
 have h1:=PF hL;have hm : eS c 1 ((fH c L).2.1.map (LS q)):=⟨by rw [List.length_map];exact h1.2.len,fun i hi => by
  rw [pT (by simp [LS])];have:=h1.2.wid i hi;unfold LS;rw [List.length_take,List.length_drop];omega⟩
 rw [aCW h1.1 hm ht,if_neg (by omega),Nat.sub_self];unfold fS;rw [pT (by simp [LS])];unfold LS;rw [List.getD_eq_getElem?_getD,List.getElem?_take_of_lt (by omega),List.getElem?_drop,Nat.add_zero,← List.getD_eq_getElem?_getD]
def CP (c : Nat) (L : List (List UInt8)) (q : Nat) : List UInt8:=(List.range c).map fun t => fS (fH c L).2.1 t q
omit hL in
theorem EV (q : Nat) : (CP c L q).length = c:=by simp [CP]
omit hL in
theorem XP {q t : Nat} (ht : t < c) : (CP c L q).getD t 0 = fS (fH c L).2.1 t q:=by
 unfold CP;rw [List.getD_eq_getElem?_getD,List.getElem?_map,List.getElem?_range ht];rfl
theorem aLb (hc : c≤64) {q : Nat} (hq : q < c) (hp : (fH c L).2.2.length = c) :
  Ev (fun k => aZ.f k (c : Int) (c : Int) (nI L.flatten) (nI (uI c q))) (nI (CP c L q),true,(0 : Int)):=by
 have hX:=zB hL (SR hq);have hlen : (uI c q).length = c:=yZ c q;have hsz : c * (c + 1)≤64 * 65:=Nat.mul_le_mul hc (by omega);obtain ⟨e1,e2⟩:=aKM hL hq hp;unfold aZ.f;rw [xP,cX,kT hL,nV hc hc rfl,cX,hlen];simp only [Option.bind_some,if_true]
 -- the loop over the pivots
 have hl1 : ∀ d t,t + d = c→Ev (fun k => aZ.l1 k (nZ (fH c L).2.2) (nI (LP (CP c L q) (List.replicate c 0) t)) (t : Int) (c : Int) (c : Int) (nI L.flatten) (c : Int) ((c + 1 : Nat) : Int) (nI (uF (fH c L).1 ((fH c L).2.1.map (LS q))).flatten)) (nI (CP c L q),true,(0 : Int)):=by
  have hR : eS c (c + 1) (uF (fH c L).1 ((fH c L).2.1.map (LS q))):=by
   rw [← e1];exact ((mA c (c + 1) (uF L (GI c q)) (List.replicate c [])).toF hX (DF c)).2.1
  intro d
  induction d with
  | zero =>
   intro t ht;obtain rfl : t = c:=by omega
   refine Ev.step (f:=fun _ => some (nI (CP t L q),true,(0 : Int))) (fun k => ?_) (Ev.now _);rw [aZ.l1,if_neg (by rw [pI,hp];omega),XK (EV q) (by simp)]
  | succ d ih =>
   intro t ht;have htc : t < c:=by omega
   have ep : rd (nZ (fH c L).2.2) (t : Int) = (t : Int):=by
    unfold rd nZ;rw [Int.toNat_natCast,List.getD_eq_getElem?_getD,List.getElem?_map,List.getElem?_eq_getElem (by omega)];have:=aOj hL hp htc;rw [List.getD_eq_getElem?_getD,List.getElem?_eq_getElem (by omega)] at this;simp only [Option.map_some,Option.getD_some] at this ⊢;rw [this]
   refine Ev.step (fun k => ?_) (ih (t + 1) (by omega));rw [aZ.l1,if_pos (by rw [pI,hp];omega),if_pos (by omega),ep,if_neg (by omega),yO hc (by omega) hR htc (by omega),Option.bind_some,if_pos (by omega),if_pos (by rw [cX,XJ (EV q) (by simp) (by omega)];omega),Int.toNat_natCast,MV,aKN hL hq htc,← XP htc,OX (EV q) (by simp) htc,gF (by omega)]
 -- the loop that lays the wide matrix
 have hl0 : ∀ d i,i + d = c→Ev (fun k => aZ.l0 k (nI (uI c q)) (i : Int) (c : Int) (c : Int) (nI L.flatten) (c : Int) ((c + 1 : Nat) : Int) (nI ((uF L (GI c q)).take i).flatten)) (nI (CP c L q),true,(0 : Int)):=by
  intro d
  induction d with
  | zero =>
   intro i hi;obtain rfl : i = c:=by omega
   have hw:=aNQ hc (show i + 1≤65 by omega) hX;rw [e1,e2] at hw;have h1:=hl1 i 0 (by omega);rw [SI] at h1;refine Ev.step (f:=fun k => (aJ.f k (i : Int) ((i + 1 : Nat) : Int) (nI (uF L (GI i q)).flatten)).bind fun RD => (if 0≤(i : Int) then (if ((i : Int) : Int).toNat≤281474976710656 then (aZ.l1 k RD.2.2.2 (List.replicate ((i : Int) : Int).toNat 0) 0 (i : Int) (i : Int) (nI L.flatten) RD.1 RD.2.1 RD.2.2.1) else (none)) else (none))) (fun k => ?_) (Ev.bind hw ?_)
   ·rw [aZ.l0,if_neg (by omega),List.take_of_length_le (by rw [hX.len];omega)]
   ·simp only [Int.toNat_natCast,if_pos (show (0 : Int)≤(i : Int) by omega),if_pos (show i≤281474976710656 by omega),aBP]
    exact h1
  | succ d ih =>
   intro i hi;have hic : i < c:=by omega
   have hfl : ((uF L (GI c q)).take i).flatten.length = i * (c + 1):=MC hX (by omega);have hb : i * (c + 1)≤64 * 65:=Nat.mul_le_mul (by omega) (by omega);have hadd : ((uF L (GI c q)).take (i + 1)).flatten = ((uF L (GI c q)).take i).flatten ++ L.getD i [] ++ [(uI c q).getD i 0]:=by
    rw [List.take_succ_eq_append_getElem (by rw [hX.len];omega),List.flatten_append,List.append_assoc]
    congr 1
    have e3 : (uF L (GI c q))[i]'(by rw [hX.len];omega) = (uF L (GI c q)).getD i []:=by
     rw [List.getD_eq_getElem?_getD,List.getElem?_eq_getElem (by rw [hX.len];omega)];rfl
    rw [e3,qD (by rw [hL.len,(SR hq).len]),aEd hq hic]
    simp
   have hrow:=aDz hL hc hc hic;refine Ev.step (fun k => by rw [aZ.l0,if_pos (by omega)]) (Ev.bind hrow ?_);have hw:=hL.wid i hic;have hst:=ih (i + 1) (by omega);rw [hadd] at hst;have e4 : nI (((uF L (GI c q)).take i).flatten ++ L.getD i []) ++ [rd (nI (uI c q)) (i : Int)] = nI (((uF L (GI c q)).take i).flatten ++ L.getD i [] ++ [(uI c q).getD i 0]):=by
    rw [aAq,aBO]
   simp only [aLs,Option.bind_some,e4,gF (show i≤9223372036854775806 by omega)];have c1 : (nI ((uF L (GI c q)).take i).flatten).length + (nI (L.getD i [])).length < 140737488355328:=by rw [cX,cX];omega
   have c2 : (i : Int) < ((nI (uI c q)).length : Int):=by rw [cX,hlen];omega
   have c3 : (nI (((uF L (GI c q)).take i).flatten ++ L.getD i [])).length + [rd (nI (uI c q)) (i : Int)].length < 140737488355328:=by rw [cX,List.length_append,hfl,hw];simp;omega
   simp only [if_pos c1,if_pos (show (0 : Int)≤(i : Int) by omega),if_pos c2,if_pos c3];exact hst
 refine Ev.step (fun k => ?_) (hl0 c 0 (by omega));rw [aZ.j0,if_neg (by simp),gF (by omega)];rfl
theorem aKU {xs : List UInt8} (hx : xs.length = c * c) (e : jQ xs c c = L) : (aBG c c xs).2.2 = (fH c L).2.2:=by
 subst e;exact (aGN hx (oL c) (mA c c _ (LQ c))).2.symm
theorem aSF (hc : c≤64) : Ev (fun k => aW.f k (c : Int) (c : Int) (nI L.flatten)) (if (fH c L).2.2.length < c then ((0 : Int),(0 : Int),([] : List Int),(6 : Int)) else ((c : Int),(c : Int),nI (fH c L).2.1.flatten,(0 : Int))):=by
 have hxl:=kT hL;have hsz : c * c≤64 * 64:=Nat.mul_le_mul hc hc;have hR:=(mA c c L (LQ c)).toF hL (oL c);have hle : (fH c L).2.2.length≤c:=hR.1.DD.le;unfold aW.f;rw [xP,cX,hxl,nV hc hc rfl];simp only [Option.bind_some,if_true,bne_self_eq_false];have hrank : gS.f (c : Int) (c : Int) (nI L.flatten) = some (((fH c L).2.2.length : Int),0):=by
  unfold gS.f cS.f;rw [aFI,if_pos rfl,cX,hxl,nV hc hc rfl,if_pos rfl,MU,Option.bind_some,pI,Int.toNat_natCast,aKU hL hxl (aJh hL)]
 by_cases hp : (fH c L).2.2.length < c
 ·rw [if_pos hp]
  refine Ev.step (f:=fun _ => some ((0 : Int),(0 : Int),([] : List Int),(6 : Int))) (fun k => ?_) (Ev.now _);rw [aW.j0,if_neg (by simp),hrank,Option.bind_some,if_pos (by omega)]
 ·rw [if_neg hp]
  have hpe : (fH c L).2.2.length = c:=by omega
  have hres : (fH c L).2.1.flatten = pC c c (fun i j => fS (fH c L).2.1 i j):=by
   refine QU (kT hR.2.2) fun i j hi hj => ?_
   have e:=tX hR.2.2 hi hj;have hlt:=jK hi hj;rw [List.getD_eq_getElem?_getD,List.getElem?_eq_getElem (by rw [kT hR.2.2];exact hlt)] at e;rw [List.getElem?_eq_getElem (by rw [kT hR.2.2];exact hlt),← e];rfl
  have hl1 : ∀ q,q < c→Ev (fun k => aW.l0 k ((q + 1 : Nat) : Int) (c : Int) (c : Int) (nI L.flatten) (c : Int) (c : Int) (nI (AD c c (fun i j => fS (fH c L).2.1 i j) (q + 1) 0))) ((c : Int),(c : Int),nI (fH c L).2.1.flatten,(0 : Int)) →
    ∀ d t,t + d = c→Ev (fun k => aW.l1 k (q : Int) (nI (CP c L q)) (t : Int) (c : Int) (c : Int) (nI L.flatten) (c : Int) (c : Int) (nI (AD c c (fun i j => fS (fH c L).2.1 i j) q t))) ((c : Int),(c : Int),nI (fH c L).2.1.flatten,(0 : Int)):=by
   intro q hq hr d
   induction d with
   | zero =>
    intro t ht;obtain rfl : t = c:=by omega
    refine Ev.step (fun k => ?_) hr;rw [aW.l1,if_neg (by omega),gF (by omega),XX]
   | succ d ih =>
    intro t ht;have htc : t < c:=by omega
    have hlt:=jK htc hq;refine Ev.step (fun k => ?_) (ih (t + 1) (by omega));rw [aW.l1,if_pos (by omega),if_pos (by omega),if_pos (by rw [cX,EV];omega),uH (by omega),if_pos (by omega),if_pos (by rw [cX,QX];omega),Int.toNat_natCast,aAq,XP htc,MV,gF (by omega)];have e:=aAK (fun i j => fS (fH c L).2.1 i j) htc hq;rw [← e]
  have hl0 : ∀ d q,q + d = c→Ev (fun k => aW.l0 k (q : Int) (c : Int) (c : Int) (nI L.flatten) (c : Int) (c : Int) (nI (AD c c (fun i j => fS (fH c L).2.1 i j) q 0))) ((c : Int),(c : Int),nI (fH c L).2.1.flatten,(0 : Int)):=by
   intro d
   induction d with
   | zero =>
    intro q hq;obtain rfl : q = c:=by omega
    refine Ev.step (f:=fun _ => some ((q : Int),(q : Int),nI (fH q L).2.1.flatten,(0 : Int))) (fun k => ?_) (Ev.now _);rw [aW.l0,if_neg (by omega),aAL,hres]
   | succ d ih =>
    intro q hq;have hqc : q < c:=by omega
    have hs:=aLb hL hc hqc hpe;have h1:=hl1 q hqc (ih (q + 1) (by omega)) c 0 (by omega);have e1 : (nI (List.replicate c 0)).set q 1 = nI (uI c q):=by
     have:=MV (List.replicate c 0) q 1;exact this
    refine Ev.step (f:=fun k => (aZ.f k (c : Int) (c : Int) (nI L.flatten) (nI (uI c q))).bind fun YH => aW.l1 k (q : Int) YH.1 0 (c : Int) (c : Int) (nI L.flatten) (c : Int) (c : Int) (nI (AD c c (fun i j => fS (fH c L).2.1 i j) q 0))) (fun k => ?_) (Ev.bind hs h1);rw [aW.l0,if_pos (by omega),if_pos (by omega),if_pos (by rw [Int.toNat_natCast];omega),Option.bind_some,if_pos (by omega),Int.toNat_natCast,aBP,if_pos (by rw [cX,List.length_replicate];omega),Int.toNat_natCast,e1]
  refine Ev.step (fun k => ?_) (hl0 c 0 (by omega));rw [aW.j0,if_neg (by simp),hrank,Option.bind_some,if_neg (by omega),aBK (by omega),Option.bind_some,TS c c (fun i j => fS (fH c L).2.1 i j)];rfl
end
end Go.Proofs.Yteofcbkjhdadpaa
namespace Go.Proofs.Yteofcbkjhdadpaa
open Go.RowKit Go.Proofs.aI.bE Go.Proofs.Yteofcbkjhdadpaa.Pr
theorem aXB (xs : List UInt8) (h : xs.length < 140737488355328) : gT.f (nI xs) = some (nI xs):=by
 unfold gT.f;rw [Option.bind_some,if_pos (by rw [cX];simpa using h),List.nil_append]
theorem aSD (a0 a1 : Int) (xs : List UInt8) : Ev (fun k => bV.f k a0 a1 (nI xs)) (ML a0 a1 xs):=by
 have herr : Ev (fun k => bV.j0 k true a0 a1 (nI xs)) ((0 : Int),(0 : Int),([] : List Int),(3 : Int)):=by
  refine Ev.step (f:=fun _ => some ((0 : Int),(0 : Int),([] : List Int),(3 : Int))) (fun k => ?_) (Ev.now _);rw [bV.j0,if_pos rfl]
 unfold bV.f;rw [xP,cX];simp only [Option.bind_some]
 by_cases h1 : cO a0 a1 xs.length = true
 ·rw [h1]
  simp only [if_true]
  by_cases h2 : a0 < a1
  ·have e : ML a0 a1 xs = (0,0,[],3):=by
    unfold ML tF;rw [h1,decide_eq_false (show ¬ a1≤a0 by omega)];rfl
   rw [e,decide_eq_true h2];exact herr
  ·have ht : tF a0 a1 xs.length = true:=by
    unfold tF;rw [h1,decide_eq_true (show a1≤a0 by omega)];rfl
   obtain ⟨a,c,rfl,rfl,ha,hca,hx⟩:=WL ht;have hc : c≤64:=by omega
   have hcc : c * c≤64 * 64:=Nat.mul_le_mul hc hc;have hac : a * c≤64 * 64:=Nat.mul_le_mul ha hc;have hle : c * c≤a * c:=Nat.mul_le_mul_right c hca;have htl : (xs.take (c * c)).length = c * c:=by rw [List.length_take];omega
   have hL : eS c c (jQ (xs.take (c * c)) c c):=mZ htl;have hA:=(PF hL).2;have hinv:=aSF hL hc;rw [DE htl] at hinv;have es : fH c (jQ (xs.take (c * c)) c c) = RT c xs:=rfl;rw [es] at hinv hA;have htop : eH.f (a : Int) (c : Int) (nI xs) (c : Int) = some ((c : Int),(c : Int),nI (xs.take (c * c))):=by
    unfold eH.f;rw [UT (by omega),if_pos (by omega),if_pos (by rw [cX];omega),Int.toNat_natCast,aNY,aXB _ (by omega),Option.bind_some]
   rw [decide_eq_false h2];refine Ev.step (f:=fun k => (aW.f k (c : Int) (c : Int) (nI (xs.take (c * c)))).bind fun sD => (if sD.2.2.2 = 0 then ((aX.f k (a : Int) (c : Int) (nI xs) sD.1 sD.2.1 sD.2.2.1).bind fun rO => (some (rO.1,rO.2.1,rO.2.2.1,rO.2.2.2))) else (some (0,0,([] : List Int),sD.2.2.2)))) (fun k => ?_) (Ev.bind hinv ?_)
   ·rw [bV.j0,if_neg (by simp),htop,Option.bind_some]
   ·unfold ML
    rw [if_pos ht,Int.toNat_natCast,Int.toNat_natCast]
    by_cases hp : (RT c xs).2.2.length < c
    ·simp only [if_pos hp]
     exact Ev.now _
    ·simp only [if_neg hp,if_true]
     have hm:=aSE (a : Int) (c : Int) (c : Int) (c : Int) xs (RT c xs).2.1.flatten;have hmb : vA (a : Int) (c : Int) xs.length (c : Int) (c : Int) (RT c xs).2.1.flatten.length = true:=by
      unfold vA;rw [kT hA,nV hc hc rfl,h1]
      simp
     rw [if_pos hmb,Int.toNat_natCast,Int.toNat_natCast] at hm;exact Ev.bind hm (Ev.now _)
 ·have e : ML a0 a1 xs = (0,0,[],3):=by
   unfold ML tF;simp only [Bool.not_eq_true] at h1;rw [h1];rfl
  simp only [if_neg h1];rw [e];exact herr
end Go.Proofs.Yteofcbkjhdadpaa
namespace Go.Proofs.Yteofcbkjhdadpaa
open Go.RowKit Go.Proofs.aI.bE Go.Proofs.Yteofcbkjhdadpaa.Pr
theorem aDq {n k : Nat} {xs : List UInt8} (hn : n≤64) (hk : k≤n) (hx : xs.length = n * k) (hp : (fH k (GH k xs)).2.2.length = k) : ML (n : Int) (k : Int) xs = ((n : Int),(k : Int),nI (uB n k xs),(0 : Int)):=by
 have ht : tF (n : Int) (k : Int) xs.length = true:=by
  unfold tF;rw [nV hn (show k≤64 by omega) hx,Bool.true_and,decide_eq_true_eq];omega
 have hp2 : (RT k xs).2.2.length = k:=hp;unfold ML;rw [ht,if_pos rfl,Int.toNat_natCast,Int.toNat_natCast,hp2,if_neg (by omega)];rfl
theorem aIe (a0 a1 : Int) (xs : List UInt8) : ∃ r,aT.f r a0 a1 (nI xs) = some true:=by
 refine Ev.rounds ?_;unfold aT.f;refine Ev.bind (ID (aLR a0 a1 xs)) (Ev.bind (aSD a0 a1 xs) ?_);have hno : ∀ e : Int,e≠0→Ev (fun r => (cP.f r).bind fun bCF => (if bCF = true then (some (e != 0)) else (some false))) true:=by
  intro e he;refine Ev.bind aGQ (ID ?_);rw [if_pos rfl,show (e != 0) = true from by rw [bne_iff_ne];exact he]
 by_cases hm : tF a0 a1 xs.length = true
 ·obtain ⟨n,k,rfl,rfl,hn,hk,hx⟩:=WL hm
  by_cases hp : (fH k (GH k xs)).2.2.length = k
  ·rw [aDq hn hk hx hp]
   obtain ⟨hp2,hD⟩:=aIo hk hx hp;have hl:=DB n k xs;have hv2:=aDq hn hk hl hp2;rw [hD] at hv2;have hk6 : k≤64:=by omega
   refine TT (fun r => if_pos rfl) ?_;refine Ev.bind (ID (aLR (n : Int) (k : Int) (uB n k xs))) ?_;rw [hv2];refine TT (fun r => if_pos rfl) (TT (fun r => if_pos rfl) ?_);have hr : bF.f (n : Int) (k : Int) (nI (uB n k xs)) = some true:=by rw [xP,cX,nV hn hk6 hl]
   refine Ev.bind (ID hr) (TT (fun r => if_pos rfl) (Ev.bind (ID (aBR _ _ _)) (TT (fun r => if_pos rfl) (TT (fun r => if_pos rfl) ?_))));refine Ev.step (f:=fun r => ((bD.f r (n : Int) (k : Int) (nI xs)).bind fun aEr => ((bD.f r (n : Int) (k : Int) (nI (uB n k xs))).bind fun aMF => ((cS.f aEr.1 aEr.2.1 aEr.2.2.1).bind fun aME => ((cS.f aMF.1 aMF.2.1 aMF.2.2.1).bind fun aMD => ((cC.f r (k : Int)).bind fun aMB => ((bA.f r (k : Int) 0 ([] : List Int)).bind fun bCC => ((bB.f r (n : Int) (k : Int) (nI (uB n k xs)) bCC).bind fun aMz => ((cP.f r).bind fun bCB => (if bCB = true then ((bI.f aME.1 aME.2.1 aME.2.2.1 aMD.1 aMD.2.1 aMD.2.2.1).bind fun bCA => (if bCA = true then ((bI.f aMz.1 aMz.2.1 aMz.2.2.1 aMB.1 aMB.2.1 aMB.2.2.1).bind fun bCz => (some bCz)) else (some false))) else (some false))))))))))) (fun r => ?_) ?_
   ·rw [aT.j0,if_neg (by simp)]
   ·obtain ⟨us,u1,u2,u3⟩:=aIK k 0 [] (by omega) (Or.inr rfl) (by simp)
    have hus : us.take k = List.range k:=by
     rw [u3 rfl,Nat.add_zero,List.take_of_length_le (by rw [List.length_range];exact Nat.le_refl _)]
    rw [hus] at u2;have ra : (List.range k).length = k:=List.length_range;have rg : ∀ i,i < k→(List.range k).getD i 0 = i:=fun i hi => by rw [List.getD_eq_getElem?_getD,List.getElem?_range hi];rfl
    have hlt : ∀ i,i < k→(List.range k).getD i 0 < n:=fun i hi => by rw [rg i hi];omega
    have q3:=aLc (mZ hl) hn hk6 (zs:=List.range k) (by omega) (fun i hi => hlt i (by omega));have hpl:=kT (MT (mZ hl) (zs:=List.range k) (fun i hi => hlt i (by omega)));rw [ra] at hpl;have hid : (xQ (jQ (uB n k xs) n k) (List.range k)).flatten = AN k k:=by
     rw [aAA k k (Nat.le_refl _)];refine QU hpl fun i j hi hj => ?_
     have e : (xQ (jQ (uB n k xs) n k) (List.range k)).flatten.getD (i * k + j) 0 = (uB n k xs).getD ((List.range k).getD i 0 * k + j) 0:=aFs hl (fun i hi => hlt i (by omega)) (by omega) hj;rw [rg i hi,aGH hk hx hp hi hj,List.getD_eq_getElem?_getD,List.getElem?_eq_getElem (by rw [hpl];exact jK hi hj)] at e;rw [List.getElem?_eq_getElem (by rw [hpl];exact jK hi hj)];simp only [Option.getD_some] at e;rw [e]
     by_cases q : i = j
     ·rw [if_pos q,if_pos ⟨q,hi⟩]
     ·rw [if_neg q,if_neg (fun h => q h.1)]
    rw [DE hl,hid,ra] at q3;have t1:=aKz hn hk6 hx;have t2:=aKz hn hk6 hl;have r1:=aAr hk6 hn (pE n k xs);have r2:=aAr hk6 hn (pE n k (uB n k xs));rw [← aNH hk hx hp] at r2;refine Ev.bind t1 (Ev.bind t2 (Ev.bind (ID r1) (Ev.bind (ID r2) (Ev.bind (aLe k hk6) (Ev.bind u2 (Ev.bind q3 (Ev.bind aGQ ?_)))))));refine ID ?_;rw [if_pos rfl,aBR,Option.bind_some,if_pos rfl,aBR,Option.bind_some]
  ·have hlt : (RT k xs).2.2.length < k:=by
    have h1:=((mA k k (GH k xs) (LQ k)).toF (GK hk hx) (oL k)).1.DD.aGV;have h2 : (RT k xs).2.2.length≤k:=h1;have h3 : (RT k xs).2.2.length≠k:=hp;omega
   have hv : ML (n : Int) (k : Int) xs = (0,0,[],6):=by
    unfold ML;rw [hm,if_pos rfl,Int.toNat_natCast,if_pos hlt]
   rw [hv];exact TT (fun r => if_neg (by decide)) (hno 6 (by decide))
 ·have hv : ML a0 a1 xs = (0,0,[],3):=by
   unfold ML;rw [if_neg hm]
  rw [hv];exact TT (fun r => if_neg (by decide)) (hno 3 (by decide))
theorem UL (mr mc : Int) (a : Option Addr) (n c : Nat) (x : List UInt8) (w : World)
  (b0 : -9223372036854775808≤mr∧mr≤9223372036854775807) (b1 : -9223372036854775808≤mc∧mc≤9223372036854775807) (r0 : Rd w w.heap.size a n (gC x)) (l0 : n≤c) (m0 : c≤140737488351232) :
  Calls Try.prog 4 #[mV mr mc a n c] w fun e w' => e = .returned (.bool true)∧Below w.heap.size w w':=by
 obtain rfl : x.length = n:=by have:=r0.len;rw [cK] at this;exact this
 obtain ⟨k,h⟩:=aIe mr mc x;have hc:=aT.calls k mr mc a c (nI x) true w (aQw r0 (by omega)) (by rw [cX];exact l0) rfl h;rw [cX] at hc;exact hc
end Go.Proofs.Yteofcbkjhdadpaa
namespace Go.Proofs.Yteofcbkjhdadpaa.buildTops
open Go.ChangeShapes Go.WideShapes Go.ChangeAt Go.RowKit
theorem lifted (os : Os) (started : os.Started) (H : Type) (enc : TypeId×Value→H) :
  ReturnsInHanded {} Try.checked os 4 .any (Rows.buildTopsSpec.pre6 enc Try.prog Try.f4 Rows.buildTopsRow.domain false) (Rows.buildTopsSpec.post enc Try.prog Try.f4 false true false false):=by
 refine returnsInHanded_of_change_sized (C:=Try.checked) aLl started (by kernel_rfl) Try.func4
  (ChangeSpec.witness6 (enc:=enc) (C:=Try.checked) false ⟨#[],#[.agg #[.int .i64 0,.int .i64 0,.slice none 0 0]],[]⟩ 8 (by kernel_rfl) (by kernel_rfl) (by kernel_rfl) (by kernel_rfl)) ?_
 intro W base args ds gs before hval0 hW hcnd aUu _;have hsz : (DataW.weightsEach Try.prog (Try.f4.params.toList ++ Rows.buildTopsSpec.plain.varTypes Try.prog) (ds ++ gs)).all (· ≤ reachBytes) = true:=aUu;have hval : ∀ (j : Nat) t v,Try.f4.params[j]? = some t→args[j]? = some v→Value.okWide Try.prog W .any base t v:=hval0;have hW':=hW;obtain ⟨p,q,hA0,hV,rfl,hfz,hnd⟩:=hW;have hA : DataW.TrodAll enc Try.prog W 0 (fun _ => true) true Try.f4.params.toList args.toList ds p:=hA0;rw [Try.params4] at hA hval hsz;obtain ⟨v0,vs0,d0,ds0,p0,q0,hargs,rfl,rfl,h0,r0⟩:=trodAll_cons hA;obtain ⟨rfl,rfl,rfl⟩:=trodAll_nil r0;obtain rfl : args = #[v0]:=by cases args;simp_all
 obtain ⟨rfl,rfl⟩:=trodVars_none hV;have k0:=h0;have lt0 : ∀ x∈p0,x.block < W.heap.size:=by obtain ⟨m,hm⟩:=k0;exact DataW.trod_lt m _ _ _ hm
 obtain ⟨mr0,mc0,a0,n0,cap0,x0,dd0,rfl,wr0,wc0,rd0,lc0,cm0,rfl,sz0⟩:=aDF (hval 0 24 v0 rfl rfl) h0;have cr0:=aBB hsz (j:=0) rfl rfl sz0;clear hA0 hval0 aUu;refine (UL mr0 mc0 a0 n0 cap0 x0 W (bounds_i64 wr0) (bounds_i64 wc0) rd0 lc0 cr0).mono fun e W' ⟨he,bel⟩ => ?_
 subst he;exact ⟨_,rfl,_,_,_,[],_,[],hW',trodAll_mk1 (shut_bool Try.underlying4 _),(trodAll_cons_mk (Below.trod aLC (by kernel_rfl) (of_decide_eq_true (by kernel_rfl)) k0 bel lt0) trodAll_mk0),rfl,bel.frame _,fun h => by cases h⟩
theorem over : Rows.buildTopsRow.holds Try.pinned (OpenSpec.ofChange Rows.buildTopsSpec) :=
 OpenClaim.holds_of_wide 4 Try.f4 rfl rfl rfl rfl rfl rfl rfl ⟨rfl,rfl,rfl,rfl,rfl⟩ rfl rfl rfl rfl rfl (by kernel_rfl) Try.func4 (by kernel_rfl)
  (of_decide_eq_true (by kernel_rfl)) (by unfold Func.isWrapper;first | (rw [if_pos (by decide +kernel)];kernel_rfl) | (rw [if_neg (by decide +kernel)];exact ⟨rfl,rfl⟩))
  (fun os started H enc _ => lifted os started H enc)
theorem proved : Rows.BuildTopsSaid:=over
#print axioms proved
end Go.Proofs.Yteofcbkjhdadpaa.buildTops
