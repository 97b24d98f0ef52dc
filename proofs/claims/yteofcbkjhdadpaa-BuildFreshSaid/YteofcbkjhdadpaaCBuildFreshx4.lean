-- Out of the translation,by this session's turn of the print (wip/gp.py).
import Derived.Test.YteofcbkjhdadpaaCBuildFreshx0
import Derived.Test.YteofcbkjhdadpaaCBuildFreshx2
import Derived.Test.YteofcbkjhdadpaaCBuildFreshq
set_option maxHeartbeats 8000000
set_option maxRecDepth 100000
set_option linter.unusedSimpArgs false
set_option linter.unusedVariables false
namespace Go.Proofs.Yteofcbkjhdadpaa.Pr
open Go.RowKit Go.Proofs.aG.aX Go.Proofs.aG.dI Go.Proofs.aG.eN
attribute [local go_sem] fZ fX gZ gY fD fC fY fW   -- for this text's walks alone
mutual
def aI.l0 : Nat→List Int→Int→Int→Int→List Int→Option (Int×Int×List Int×List Int)
 | 0,_,_,_,_,_ => none
 | k + 1,x4,x5,gA,dU,fQ => if x5 < dU then (aI.l1 k x4 x5 (x4.length : Int) (x4.length : Int) gA dU fQ) else (some (gA,dU,fQ,x4))
def aI.l1 : Nat→List Int→Int→Int→Int→Int→Int→List Int→Option (Int×Int×List Int×List Int)
 | 0,_,_,_,_,_,_,_ => none
 | k + 1,x4,x5,x6,x7,gA,dU,fQ => if x7 < gA then ((bV.f gA dU fQ x7 x5).bind fun t190 => (if t190 = 0 then (aI.l1 k x4 x5 x6 (wrap64 (x7 + 1)) gA dU fQ) else ((eK.f t190).bind fun aIQ => (aI.l2 k x4 x5 x6 x7 aIQ.1 0 gA dU fQ)))) else (aI.l0 k x4 (wrap64 (x5 + 1)) gA dU fQ)
def aI.l2 : Nat→List Int→Int→Int→Int→Int→Int→Int→Int→List Int→Option (Int×Int×List Int×List Int)
 | 0,_,_,_,_,_,_,_,_,_ => none
 | k + 1,x4,x5,x6,x7,x9,ZK,gA,dU,fQ => if ZK < dU then ((bV.f gA dU fQ x6 ZK).bind fun t193 => ((bV.f gA dU fQ x7 ZK).bind fun t194 => (if 0≤(wrap64 ((wrap64 (x7 * dU)) + ZK)) then (if (wrap64 ((wrap64 (x7 * dU)) + ZK)) < (fQ.length : Int) then ((cI.f x9 t194).bind fun t196 => (if 0≤(wrap64 ((wrap64 (x6 * dU)) + ZK)) then (if (wrap64 ((wrap64 (x6 * dU)) + ZK)) < (fQ.length : Int) then (aI.l2 k x4 x5 x6 x7 x9 (wrap64 (ZK + 1)) gA dU ((fQ.set ((wrap64 ((wrap64 (x7 * dU)) + ZK)) : Int).toNat t193).set ((wrap64 ((wrap64 (x6 * dU)) + ZK)) : Int).toNat t196)) else (none)) else (none))) else (none)) else (none)))) else (aI.l3 k x4 x5 x6 0 gA dU fQ)
def aI.l3 : Nat→List Int→Int→Int→Int→Int→Int→List Int→Option (Int×Int×List Int×List Int)
 | 0,_,_,_,_,_,_,_ => none
 | k + 1,x4,x5,x6,OY,gA,dU,fQ => if OY < gA then ((bV.f gA dU fQ OY x5).bind fun t201 => (aI.l4 k x4 x5 x6 OY t201 0 gA dU fQ)) else (if x4.length < 17592186044416 then (aI.l0 k (x4 ++ [x5]) (wrap64 (x5 + 1)) gA dU fQ) else (none))
def aI.l4 : Nat→List Int→Int→Int→Int→Int→Int→Int→Int→List Int→Option (Int×Int×List Int×List Int)
 | 0,_,_,_,_,_,_,_,_,_ => none
 | k + 1,x4,x5,x6,OY,x15,x16,gA,dU,fQ => if x16 < dU then (aI.j5 k x4 x5 x6 OY x15 x16 (OY != x6) gA dU fQ) else (aI.j5 k x4 x5 x6 OY x15 x16 false gA dU fQ)
def aI.j5 : Nat→List Int→Int→Int→Int→Int→Int→Bool→Int→Int→List Int→Option (Int×Int×List Int×List Int)
 | 0,_,_,_,_,_,_,_,_,_,_ => none
 | k + 1,x4,x5,x6,OY,x15,x16,x97,gA,dU,fQ => if x97 = true then (if 0≤(wrap64 ((wrap64 (OY * dU)) + x16)) then (if (wrap64 ((wrap64 (OY * dU)) + x16)) < (fQ.length : Int) then ((bV.f gA dU fQ x6 x16).bind fun t203 => ((cI.f x15 t203).bind fun t204 => (aI.l4 k x4 x5 x6 OY x15 (wrap64 (x16 + 1)) gA dU (fQ.set ((wrap64 ((wrap64 (OY * dU)) + x16)) : Int).toNat (Go.bits .xor .u8 (rd fQ (wrap64 ((wrap64 (OY * dU)) + x16))) t204))))) else (none)) else (none)) else (aI.l3 k x4 x5 x6 (wrap64 (OY + 1)) gA dU fQ)
end
def aI.f (k : Nat) (aN : Int) (aJ : Int) (aT : List Int) : Option (Int×Int×List Int×List Int):=aI.l0 k ([] : List Int) 0 aN aJ aT
def aI.T15 : Bool×List (List Nat×List Nat):=(true,[([],[]),([],[]),([],[]),([0,1,2],[0,1,2]),([],[]),([],[]),([],[]),([4,5,6,3],[4,5,6]),([3,7,0,1,2,3],[3]),([7,8,0,1,2,3,4,5,6,7,8],[7])])
def aI.B15 : List Nat:=[0,0,0,7,0,0,0,127,255,511]
theorem aI.aPs : pI .any (opsOf Try.f86 15) = aI.T15:=by kernel_rfl
theorem aI.aOz : mQ aI.T15.2 aI.B15 = true:=by kernel_rfl
def aI.T17 : Bool×List (List Nat×List Nat):=(true,[([],[]),([0],[0]),([],[]),([],[]),([3],[3]),([2,4],[2,4]),([],[]),([5,6],[5,6]),([],[]),([],[]),([8,9],[8,9]),([1,7,0,1,2,3,4,5,6,7,8,9,10],[1,7]),([11,10,10,0,1,2,3,4,5,6,7,8,9,10],[10,11])])
def aI.B17 : List Nat:=[0,1,0,0,8,28,0,124,0,0,768,2047,4095]
theorem aI.aPr : pI .any (opsOf Try.f86 17) = aI.T17:=by kernel_rfl
theorem aI.aOy : mQ aI.T17.2 aI.B17 = true:=by kernel_rfl
def aI.T25 : Bool×List (List Nat×List Nat):=(true,[([],[]),([0],[0]),([],[]),([],[]),([3],[3]),([2,4],[2,4]),([],[]),([5,6],[5,6]),([1,7],[1,7]),([8],[8]),([],[]),([],[]),([],[]),([],[]),([11,12,13],[11,12,13]),([10,14,14],[10,14]),([9,15],[9,15]),([1,7,0,1,2,3,4,5,6,7,8,9,10,11,12,13,14,15,16],[1,7]),([17,16,15,0,1,2,3,4,5,6,7,8,9,10,11,12,13,14,15,16],[16,17])])
def aI.B25 : List Nat:=[0,1,0,0,8,28,0,124,255,511,0,0,0,0,14336,31744,65535,131071,262143]
theorem aI.aPp : pI .any (opsOf Try.f86 25) = aI.T25:=by kernel_rfl
theorem aI.aOw : mQ aI.T25.2 aI.B25 = true:=by kernel_rfl
theorem aI.calls (k : Nat) (aN : Int) (aJ : Int) (P0_2_ : Nat→Prop) (aBJ : Value) (aT : List Int) (r1 : Int) (r2 : Int) (r3 : List Int) (r4 : List Int) (w0 w : World) (hB : Below w0.heap.size w0 w) (ho0_2 : Kd.R (Kd.int .u8) 5 w w0.heap.size P0_2_ aBJ aT) (h : aI.f k aN aJ aT = some (r1,r2,r3,r4)) :
  Calls Try.prog 86 #[.agg #[.int .i64 aN,.int .i64 aJ,aBJ]] w fun e w' => ∃ pF v3_ : Value,e = .returned (.tuple #[.agg #[.int .i64 r1,.int .i64 r2,pF],v3_])∧Kd.R (Kd.int .u8) 5 w' w0.heap.size (fun k_ => (P0_2_ k_ ∨ w.heap.size≤k_)) pF r3∧Kd.R (Kd.int .i64) 3 w' w0.heap.size (fun k_ => (P0_2_ k_ ∨ w.heap.size≤k_)) v3_ r4∧Below w0.heap.size w0 w'∧Kept w w' (fun k_ => P0_2_ k_):=by
 have wM:=Try.underlying24;have VI:=aA.mk (show Kd.R (Kd.int .u8) 5 w w0.heap.size (fun k_ => (P0_2_ k_ ∨ w.heap.size≤k_)) aBJ aT from Kd.cN ho0_2 (fun k_ hk => (.inl hk)));have HK:=aA.mk (Kept.refl w (fun k_ => P0_2_ k_));have HW0:=aA.mk hB.size;have HB:=aA.mk hB;clear hB;have H : (aI.l0 k ([] : List Int) 0 aN aJ aT) = some (r1,r2,r3,r4):=h;clear h;have H':=aA.mk H;clear H;obtain ⟨Ao2,co2,eo2⟩:=Kd.cM VI.out;subst eo2;go_enter Try.func86,Try.ntmps86;go_wp2_with (first | ((with_reducible refine bH (N:=1) rfl ?_);refine lK (N:=1) (cs:=#[.int .i64 aN,.int .i64 aJ,.slice Ao2 aT.length co2]) (t:=24) ?_;intro tR hg w3 hbox hb;replace VI:=aA.mk (Kd.cW (eQ VI.out) hb);have bP:=aA.mk (hbox);have mB:=aA.mk ((by rw [hg];exact (by first | exact HK.out.1 | exact (show Kept w _ (fun k_ => P0_2_ k_) from by repeat (first | (with_reducible first | exact HK.out | apply Kept.alloc | apply Kept.drewN | apply Kept.drew) | exact HK.out)).1) : w.heap.size≤tR));replace HK:=aA.mk (Kept.below (S:=(fun k_ => P0_2_ k_)) (by repeat (first | (with_reducible first | exact HK.out | apply Kept.alloc | apply Kept.drewN | apply Kept.drew) | exact HK.out)) hb);have nJ:=aA.mk (eW hg (cG HB) : w0.heap.size≤tR);replace HB:=aA.mk (aQ (cG HB) hb);clear hb hbox hg) | ((with_reducible refine bH (N:=2) rfl ?_);refine lK (N:=2) (cs:=#[.int .i64 0,.int .i64 0,.slice none 0 0]) (t:=24) ?_;intro vW hg w4 hbox hb;replace VI:=aA.mk (Kd.cW (eQ VI.out) hb);have dZ:=aA.mk (hbox);have nV:=aA.mk ((by rw [hg];exact (by first | exact HK.out.1 | exact (show Kept w _ (fun k_ => P0_2_ k_) from by repeat (first | (with_reducible first | exact HK.out | apply Kept.alloc | apply Kept.drewN | apply Kept.drew | refine Kept.setCell ?_ (.inr mB.out) _) | exact HK.out)).1) : w.heap.size≤vW));replace HK:=aA.mk (Kept.below (S:=(fun k_ => P0_2_ k_)) (by repeat (first | (with_reducible first | exact HK.out | apply Kept.alloc | apply Kept.drewN | apply Kept.drew | refine Kept.setCell ?_ (.inr mB.out) _) | exact HK.out)) hb);have oX:=aA.mk (eW hg (cE HB nJ) : w0.heap.size≤vW);replace HB:=aA.mk (aQ (cE HB nJ) hb);have kW:=aA.mk (wJ hg (cH bP));have kV:=aA.mk (wK hg (cH bP));replace bP:=aA.mk (aM (cH bP) hb);clear hb hbox hg))
 go_loopg [4,5] k (fun kq v4 v5 w' => ∃ (iJ : List Int) (lH : Int) (sB : List Int) (dR : Value),v5 = .int .i64 lH∧aA (aI.l0 kq iJ lH aN aJ sB = some (r1,r2,r3,r4))∧aA (kq≤k)∧aA (Kd.R (Kd.int .i64) 3 w' w0.heap.size (fun k_ => (P0_2_ k_ ∨ w.heap.size≤k_)) v4 iJ)∧aA (Kd.R (Kd.int .u8) 5 w' w0.heap.size (fun k_ => (P0_2_ k_ ∨ w.heap.size≤k_)) dR sB)∧aA (w'.heap[tR]? = some (.cells #[.int .i64 aN,.int .i64 aJ,dR] 24 (0,0)))∧aA (w'.heap[vW]? = some (.cells #[.int .i64 0,.int .i64 0,(.slice none 0 0)] 24 (0,0)))∧aA (Kept w w' (fun k_ => P0_2_ k_))∧aA (Below w0.heap.size w0 w'))
 case atStart => exact ⟨(([] : List Int)),(0),(aT),(.slice Ao2 aT.length co2),nL,H',⟨Nat.le_refl _⟩,⟨MR⟩,⟨eQ VI.out⟩,⟨gM bP.out⟩,⟨gM dZ.out⟩,⟨by repeat (first | (with_reducible first | exact HK.out | apply Kept.alloc | apply Kept.drewN | apply Kept.drew | refine Kept.setCell ?_ (.inr mB.out) _ | refine Kept.setCell ?_ (.inr nV.out) _) | exact HK.out)⟩,⟨cR HB nJ oX⟩⟩
 case round =>
  clear H';(try clear p2);obtain ⟨iJ,lH,sB,dR,rfl,HA,FT,jF,bD,bP,dZ,HK,HB⟩:=hrel
  cases gk with
  | zero => exact absurd HA.out (by simp [aI.l0])
  | succ k1 =>
   have H:=HA.out;clear HA;simp only [aI.l0] at H
   by_cases c5 : lH < aJ
   ·rw [if_pos c5] at H
    have rK : decide (lH < aJ) = true:=decide_eq_true c5;clear c5;have H':=aA.mk H;clear H;have aWt:=kW.out;have aWq:=kV.out;have iS:=bO bP 0 (.int .i64 aN) rfl;have iR:=bO bP 1 (.int .i64 aJ) rfl;have iQ:=bO bP 2 dR rfl;have iP:=aC bP.out 0;have iO:=aC bP.out 1;have iN:=aC bP.out 2;obtain ⟨Ao8,co8,eo8⟩:=Kd.cM jF.out;subst eo8
    go_wp2
    go_loopg [4,7] k1 (fun kq v4 v7 w' => ∃ (oY : List Int) (cX : Int) (gU : List Int) (dR : Value),v7 = .int .i64 cX∧aA (aI.l1 kq oY lH (iJ.length : Int) cX aN aJ gU = some (r1,r2,r3,r4))∧aA (kq≤k1)∧aA (Kd.R (Kd.int .i64) 3 w' w0.heap.size (fun k_ => (P0_2_ k_ ∨ w.heap.size≤k_)) v4 oY)∧aA (Kd.R (Kd.int .u8) 5 w' w0.heap.size (fun k_ => (P0_2_ k_ ∨ w.heap.size≤k_)) dR gU)∧aA (w'.heap[tR]? = some (.cells #[.int .i64 aN,.int .i64 aJ,dR] 24 (0,0)))∧aA (w'.heap[vW]? = some (.cells #[.int .i64 0,.int .i64 0,(.slice none 0 0)] 24 (0,0)))∧aA (Kept w w' (fun k_ => P0_2_ k_))∧aA (Below w0.heap.size w0 w'))
    case atStart => exact ⟨(iJ),((iJ.length : Int)),(sB),(dR),nL,H',⟨Nat.le_refl _⟩,⟨eQ jF.out⟩,⟨eQ bD.out⟩,⟨gM bP.out⟩,⟨gM dZ.out⟩,⟨by repeat (first | (with_reducible first | exact HK.out | apply Kept.alloc | apply Kept.drewN | apply Kept.drew | refine Kept.setCell ?_ (.inr mB.out) _ | refine Kept.setCell ?_ (.inr nV.out) _) | exact HK.out)⟩,⟨cR HB nJ oX⟩⟩
    case round =>
     clear H';(try clear p2);(try clear c5);(try clear rK);(try clear c6);(try clear c8);(try clear iS);(try clear iR);(try clear iQ);(try clear iP);(try clear iO);(try clear iN);(try clear p2);obtain ⟨oY,cX,gU,dR,rfl,HA,vJ,jF,bD,bP,dZ,HK,HB⟩:=hrel
     cases gk with
     | zero => exact absurd HA.out (by simp [aI.l1])
     | succ k2 =>
      have H:=HA.out;clear HA;simp only [aI.l1] at H
      by_cases c9 : cX < aN
      ·rw [if_pos c9] at H
       have KS : decide (cX < aN) = true:=decide_eq_true c9;clear c9;replace H:=Option.bind_eq_some_iff.mp H;obtain ⟨t190,aSR,H⟩:=H;replace H : (if t190 = 0 then (aI.l1 k2 oY lH (iJ.length : Int) (wrap64 (cX + 1)) aN aJ gU) else ((eK.f t190).bind fun aIQ => (aI.l2 k2 oY lH (iJ.length : Int) cX aIQ.1 0 aN aJ gU))) = some (r1,r2,r3,r4):=H;have A10:=aA.mk aSR;clear aSR
       by_cases BB : t190 = 0
       ·rw [if_pos BB] at H
        have MC : (t190 == 0) = true:=beq_iff_eq.mpr BB;have aBa : (t190 != 0) = false:=bne_eq_false_iff_eq.mpr BB;clear BB;have H':=aA.mk H;clear H;have aQD:=kW.out;have aQf:=kV.out;have mZ:=bO bP 0 (.int .i64 aN) rfl;have mY:=bO bP 1 (.int .i64 aJ) rfl;have mX:=bO bP 2 dR rfl;have mW:=aC bP.out 0;have mU:=aC bP.out 1;have mT:=aC bP.out 2;obtain ⟨aSB,aRd,eo14⟩:=Kd.cM bD.out;subst eo14;go_wp2_with (first | ((with_reducible refine bB (f:=25) rfl ?_);refine cS (some 35) rfl rfl Try.func25 (by kernel_rfl) rfl #[.agg #[.int .i64 aN,.int .i64 aJ,.slice aSB gU.length aRd],.int .i64 cX,.int .i64 lH] rfl mS ?_;(with_reducible refine (bV.calls aN aJ _ _ gU cX lH t190 _ ?side1 ?side2 A10.out).mono ?_);(case side1 => exact pZ ((Kd.cD bD.out).2.2));(case side2 => exact (Kd.cD bD.out).2.1);rintro e w15 ⟨rfl,hb⟩;refine ⟨_,rfl,?_⟩;replace jF:=aA.mk (Kd.cW (eQ jF.out) hb);replace bD:=aA.mk (Kd.cW (eQ bD.out) hb);replace bP:=aA.mk (aM (cH bP) hb);replace dZ:=aA.mk (aM (cH dZ) hb);replace HK:=aA.mk (Kept.below (S:=(fun k_ => P0_2_ k_)) (by repeat (first | (with_reducible first | exact HK.out | apply Kept.alloc | apply Kept.drewN | apply Kept.drew | refine Kept.setCell ?_ (.inr mB.out) _ | refine Kept.setCell ?_ (.inr nV.out) _) | exact HK.out)) hb);replace HB:=aA.mk (aQ (cR HB nJ oX) hb);(try clear hb);(try clear hb2);(try clear hk);(try clear hi)))
        go_roundg k2
        case measure => have:=FT.out;have:=vJ.out;omega
        case rel => exact ⟨(oY),(wrap64 (cX + 1)),(gU),(.slice aSB gU.length aRd),nL,H',⟨by have:=FT.out;have:=vJ.out;omega⟩,⟨eQ jF.out⟩,⟨eQ bD.out⟩,⟨gM bP.out⟩,⟨gM dZ.out⟩,⟨by repeat (first | (with_reducible first | exact HK.out | apply Kept.alloc | apply Kept.drewN | apply Kept.drew | refine Kept.setCell ?_ (.inr mB.out) _ | refine Kept.setCell ?_ (.inr nV.out) _) | exact HK.out)⟩,⟨cR HB nJ oX⟩⟩
       ·rw [if_neg BB] at H
        have MC : (t190 == 0) = false:=beq_eq_false_iff_ne.mpr BB;have aBa : (t190 != 0) = true:=bne_iff_ne.mpr BB;replace H:=Option.bind_eq_some_iff.mp H;obtain ⟨⟨t191,t192⟩,aJy,H⟩:=H;replace H : (aI.l2 k2 oY lH (iJ.length : Int) cX t191 0 aN aJ gU) = some (r1,r2,r3,r4):=H;have A16:=aA.mk aJy;clear aJy;have H':=aA.mk H;clear H;have aQC:=kW.out;have aQe:=kV.out;have tI:=bO bP 0 (.int .i64 aN) rfl;have tH:=bO bP 1 (.int .i64 aJ) rfl;have tG:=bO bP 2 dR rfl;have tC:=aC bP.out 0;have tB:=aC bP.out 1;have tA:=aC bP.out 2;obtain ⟨aSz,aRc,eo19⟩:=Kd.cM bD.out;subst eo19;go_wp2_with (first | ((with_reducible refine bB (f:=25) rfl ?_);refine cS (some 35) rfl rfl Try.func25 (by kernel_rfl) rfl #[.agg #[.int .i64 aN,.int .i64 aJ,.slice aSz gU.length aRc],.int .i64 cX,.int .i64 lH] rfl mS ?_;(with_reducible refine (bV.calls aN aJ _ _ gU cX lH t190 _ ?side1 ?side2 A10.out).mono ?_);(case side1 => exact pZ ((Kd.cD bD.out).2.2));(case side2 => exact (Kd.cD bD.out).2.1);rintro e w20 ⟨rfl,hb⟩;refine ⟨_,rfl,?_⟩;replace jF:=aA.mk (Kd.cW (eQ jF.out) hb);replace bD:=aA.mk (Kd.cW (eQ bD.out) hb);replace bP:=aA.mk (aM (cH bP) hb);replace dZ:=aA.mk (aM (cH dZ) hb);replace HK:=aA.mk (Kept.below (S:=(fun k_ => P0_2_ k_)) (by repeat (first | (with_reducible first | exact HK.out | apply Kept.alloc | apply Kept.drewN | apply Kept.drew | refine Kept.setCell ?_ (.inr mB.out) _ | refine Kept.setCell ?_ (.inr nV.out) _) | exact HK.out)) hb);replace HB:=aA.mk (aQ (cR HB nJ oX) hb);(try clear hb);(try clear hb2);(try clear hk);(try clear hi)) | ((with_reducible refine bB (f:=46) rfl ?_);refine cS (some 40) rfl rfl Try.func46 (by kernel_rfl) rfl #[.int .u8 t190] rfl mS ?_;(with_reducible refine (eK.calls t190 t191 t192 _ A16.out).mono ?_);rintro e w' ⟨rfl,⟨nd,rfl⟩⟩;refine ⟨_,rfl,?_⟩))
        go_loopg [11] k2 (fun kq v11 w' => ∃ (fT : Int) (cZ : List Int) (dR : Value),v11 = .int .i64 fT∧aA (aI.l2 kq oY lH (iJ.length : Int) cX t191 fT aN aJ cZ = some (r1,r2,r3,r4))∧aA (kq≤k2)∧aA (Kd.R (Kd.int .i64) 3 w' w0.heap.size (fun k_ => (P0_2_ k_ ∨ w.heap.size≤k_)) u4 oY)∧aA (Kd.R (Kd.int .u8) 5 w' w0.heap.size (fun k_ => (P0_2_ k_ ∨ w.heap.size≤k_)) dR cZ)∧aA (w'.heap[tR]? = some (.cells #[.int .i64 aN,.int .i64 aJ,dR] 24 (0,0)))∧aA (w'.heap[vW]? = some (.cells #[.int .i64 0,.int .i64 0,(.slice none 0 0)] 24 (0,0)))∧aA (Kept w w' (fun k_ => P0_2_ k_))∧aA (Below w0.heap.size w0 w'))
        case atStart => exact ⟨(0),(gU),(.slice aSz gU.length aRc),nL,H',⟨Nat.le_refl _⟩,⟨eQ jF.out⟩,⟨eQ bD.out⟩,⟨gM bP.out⟩,⟨gM dZ.out⟩,⟨by repeat (first | (with_reducible first | exact HK.out | apply Kept.alloc | apply Kept.drewN | apply Kept.drew | refine Kept.setCell ?_ (.inr mB.out) _ | refine Kept.setCell ?_ (.inr nV.out) _) | exact HK.out)⟩,⟨cR HB nJ oX⟩⟩
        case round =>
         clear H';(try clear c1);(try clear c2);(try clear p2);(try clear c4);(try clear c5);(try clear rK);(try clear c6);(try clear p6);(try clear c8);(try clear c9);(try clear KS);(try clear BB);(try clear MC);(try clear aBa);(try clear AO);(try clear CE);(try clear mZ);(try clear mY);(try clear mX);(try clear tI);(try clear tH);(try clear tG);(try clear iS);(try clear iR);(try clear iQ);(try clear mW);(try clear mU);(try clear mT);(try clear tC);(try clear tB);(try clear tA);(try clear iP);(try clear iO);(try clear iN);(try clear p2);obtain ⟨fT,cZ,dR,rfl,HA,zN,jF,bD,bP,dZ,HK,HB⟩:=hrel
         cases gk with
         | zero => exact absurd HA.out (by simp [aI.l2])
         | succ k3 =>
          have H:=HA.out;clear HA;simp only [aI.l2] at H
          by_cases BA : fT < aJ
          ·rw [if_pos BA] at H
           have EG : decide (fT < aJ) = true:=decide_eq_true BA;clear BA;replace H:=Option.bind_eq_some_iff.mp H;obtain ⟨t193,aSO,H⟩:=H;replace H : ((bV.f aN aJ cZ cX fT).bind fun t194 => (if 0≤(wrap64 ((wrap64 (cX * aJ)) + fT)) then (if (wrap64 ((wrap64 (cX * aJ)) + fT)) < (cZ.length : Int) then ((cI.f t191 t194).bind fun t196 => (if 0≤(wrap64 ((wrap64 ((iJ.length : Int) * aJ)) + fT)) then (if (wrap64 ((wrap64 ((iJ.length : Int) * aJ)) + fT)) < (cZ.length : Int) then (aI.l2 k3 oY lH (iJ.length : Int) cX t191 (wrap64 (fT + 1)) aN aJ ((cZ.set ((wrap64 ((wrap64 (cX * aJ)) + fT)) : Int).toNat t193).set ((wrap64 ((wrap64 ((iJ.length : Int) * aJ)) + fT)) : Int).toNat t196)) else (none)) else (none))) else (none)) else (none))) = some (r1,r2,r3,r4):=H;have A22:=aA.mk aSO;clear aSO;replace H:=Option.bind_eq_some_iff.mp H;obtain ⟨t194,aJx,H⟩:=H;replace H : (if 0≤(wrap64 ((wrap64 (cX * aJ)) + fT)) then (if (wrap64 ((wrap64 (cX * aJ)) + fT)) < (cZ.length : Int) then ((cI.f t191 t194).bind fun t196 => (if 0≤(wrap64 ((wrap64 ((iJ.length : Int) * aJ)) + fT)) then (if (wrap64 ((wrap64 ((iJ.length : Int) * aJ)) + fT)) < (cZ.length : Int) then (aI.l2 k3 oY lH (iJ.length : Int) cX t191 (wrap64 (fT + 1)) aN aJ ((cZ.set ((wrap64 ((wrap64 (cX * aJ)) + fT)) : Int).toNat t193).set ((wrap64 ((wrap64 ((iJ.length : Int) * aJ)) + fT)) : Int).toNat t196)) else (none)) else (none))) else (none)) else (none)) = some (r1,r2,r3,r4):=H
           have A23:=aA.mk aJx;clear aJx;obtain ⟨EW,aAz⟩ : ∃ j_ : Int,(wrap64 ((wrap64 (cX * aJ)) + fT)) = j_:=⟨_,rfl⟩
           replace H : (if 0≤(EW) then (if (EW) < (cZ.length : Int) then ((cI.f t191 t194).bind fun t196 => (if 0≤(wrap64 ((wrap64 ((iJ.length : Int) * aJ)) + fT)) then (if (wrap64 ((wrap64 ((iJ.length : Int) * aJ)) + fT)) < (cZ.length : Int) then (aI.l2 k3 oY lH (iJ.length : Int) cX t191 (wrap64 (fT + 1)) aN aJ ((cZ.set ((EW) : Int).toNat t193).set ((wrap64 ((wrap64 ((iJ.length : Int) * aJ)) + fT)) : Int).toNat t196)) else (none)) else (none))) else (none)) else (none)) = some (r1,r2,r3,r4):=by first | (rw [aAz] at H;exact H) | (simp only [aAz] at H ⊢;exact H)
           (try rw [aAz] at A22);(try rw [aAz] at A23);have aWy : (IntKind.i64.wrap ((wrap64 (cX * aJ)) + fT)) = EW:=(bE _).trans aAz
           by_cases c25 : 0≤(EW)
           ·rw [if_pos c25] at H
            have aIK : decide (0≤(EW)) = true:=decide_eq_true c25;clear c25
            by_cases c26 : (EW) < (cZ.length : Int)
            ·rw [if_pos c26] at H
             have aIJ : decide ((EW) < (cZ.length : Int)) = true:=decide_eq_true c26;clear c26;obtain ⟨y195,hy195⟩ : ∃ y_ : List Int,y_ = (cZ.set ((EW) : Int).toNat t193):=⟨_,rfl⟩
             replace H : ((cI.f t191 t194).bind fun t196 => (if 0≤(wrap64 ((wrap64 ((iJ.length : Int) * aJ)) + fT)) then (if (wrap64 ((wrap64 ((iJ.length : Int) * aJ)) + fT)) < (cZ.length : Int) then (aI.l2 k3 oY lH (iJ.length : Int) cX t191 (wrap64 (fT + 1)) aN aJ (y195.set ((wrap64 ((wrap64 ((iJ.length : Int) * aJ)) + fT)) : Int).toNat t196)) else (none)) else (none))) = some (r1,r2,r3,r4):=by first | (rw [hy195];with_reducible exact H) | (have H2_:=(Option.bind_some _ _).symm.trans H;rw [hy195];with_reducible exact H2_) | (have H2_:=(Option.bind_some _ _).symm.trans H;with_reducible exact H2_) | with_reducible exact H | (rw [hy195];exact H) | exact H
             have Ny195:=aA.mk hy195;clear hy195;replace H:=Option.bind_eq_some_iff.mp H;obtain ⟨t196,aSL,H⟩:=H;replace H : (if 0≤(wrap64 ((wrap64 ((iJ.length : Int) * aJ)) + fT)) then (if (wrap64 ((wrap64 ((iJ.length : Int) * aJ)) + fT)) < (cZ.length : Int) then (aI.l2 k3 oY lH (iJ.length : Int) cX t191 (wrap64 (fT + 1)) aN aJ (y195.set ((wrap64 ((wrap64 ((iJ.length : Int) * aJ)) + fT)) : Int).toNat t196)) else (none)) else (none)) = some (r1,r2,r3,r4):=H;have A28:=aA.mk aSL;clear aSL;obtain ⟨GZ,UG⟩ : ∃ j_ : Int,(wrap64 ((wrap64 ((iJ.length : Int) * aJ)) + fT)) = j_:=⟨_,rfl⟩
             replace H : (if 0≤(GZ) then (if (GZ) < (cZ.length : Int) then (aI.l2 k3 oY lH (iJ.length : Int) cX t191 (wrap64 (fT + 1)) aN aJ (y195.set ((GZ) : Int).toNat t196)) else (none)) else (none)) = some (r1,r2,r3,r4):=by first | (rw [UG] at H;exact H) | (simp only [UG] at H ⊢;exact H)
             (try rw [UG] at A22);(try rw [UG] at A23);(try rw [UG] at A28);have aWx : (IntKind.i64.wrap ((wrap64 ((iJ.length : Int) * aJ)) + fT)) = GZ:=(bE _).trans UG
             by_cases TH : 0≤(GZ)
             ·rw [if_pos TH] at H
              have MA : decide (0≤(GZ)) = true:=decide_eq_true TH;clear TH
              by_cases FQ : (GZ) < (cZ.length : Int)
              ·rw [if_pos FQ] at H
               have QZ : decide ((GZ) < (cZ.length : Int)) = true:=decide_eq_true FQ;clear FQ;obtain ⟨y197,hy197⟩ : ∃ y_ : List Int,y_ = (y195.set ((GZ) : Int).toNat t196):=⟨_,rfl⟩
               replace H : (aI.l2 k3 oY lH (iJ.length : Int) cX t191 (wrap64 (fT + 1)) aN aJ y197) = some (r1,r2,r3,r4):=by first | (rw [hy197];with_reducible exact H) | (have H2_:=(Option.bind_some _ _).symm.trans H;rw [hy197];with_reducible exact H2_) | (have H2_:=(Option.bind_some _ _).symm.trans H;with_reducible exact H2_) | with_reducible exact H | (rw [hy197];exact H) | exact H
               have Ny197:=aA.mk hy197;clear hy197;have H':=aA.mk H;clear H;have aMz:=kW.out;have aMs:=kV.out;have xJ:=bO bP 0 (.int .i64 aN) rfl;have xI:=bO bP 1 (.int .i64 aJ) rfl;have xH:=bO bP 2 dR rfl;have xC:=aC bP.out 0;have xB:=aC bP.out 1;have xA:=aC bP.out 2
               try go_wp2
               replace jF:=aA.mk (Kd.cC jF.out);replace bD:=aA.mk (Kd.cC bD.out);replace bP:=aA.mk (aH bP.out);replace dZ:=aA.mk (aH dZ.out);replace HK:=aA.mk (Kept.drew HK.out);replace HB:=aA.mk (dT HB.out);obtain ⟨aMd,aAO,eo36⟩:=Kd.cM bD.out
               (first | subst eo36 | (injection eo36 with f1_ f2_ f3_;have f4_:=f1_.symm;have f5_:=f3_.symm;clear f1_ f2_ f3_;subst f4_;subst f5_));refine sG (n:=10) (S:=fun w' => w'.cell? ⟨tR,0,none⟩ = some (.int .i64 aN)∧w'.cell? ⟨tR,1,none⟩ = some (.int .i64 aJ)∧w'.cell? ⟨tR,2,none⟩ = some (.slice aMd cZ.length aAO)) (ds:=[]) #[false,false,false,false,false,false,false,false,false,false] (by kernel_rfl) rfl rfl ⟨(aY bP.out 0).trans rfl,(aY bP.out 1).trans rfl,(aY bP.out 2).trans rfl⟩ (fun hHeld => ?_);refine kL aI.aPs aI.aOz (fun HT_ HW_ => ?_);generalize wr.drew = w35 at jF bD bP dZ HK HB hHeld ⊢;refine bY (i:=1) (N:=some 50) (v:=?_) (a':=?_) (eH 10 2) rfl rfl (bS HT_.out (by kernel_rfl)) (fun _ _ _ h => h) (Or.inl ⟨by rfl,?_⟩) ?_ ?_;rotate_left
               ·intro w'
                go_simp;(with_reducible rfl)
               rotate_left
               ·simp only [Act.put,cO,cL,cP,bE,bJ]
                rfl
               refine bY (i:=2) (N:=some 51) (v:=?_) (a':=?_) (eH 10 6) rfl rfl (bS HT_.out (by kernel_rfl)) (fun _ _ _ h => h) (Or.inl ⟨by rfl,?_⟩) ?_ ?_;rotate_left
               ·intro w'
                go_simp;(with_reducible rfl)
               rotate_left
               ·simp only [Act.put,cO,cL,cP,bE,bJ]
                rfl
               refine bY (i:=5) (N:=some 54) (v:=?_) (a':=?_) (eH 10 38) rfl rfl (bS HT_.out (by kernel_rfl)) (fun _ _ _ h => h) (Or.inl ⟨by rfl,?_⟩) ?_ ?_;rotate_left
               ·intro w'
                go_simp;(with_reducible rfl)
               rotate_left
               ·simp only [Act.put,cO,cL,cP,bE,bJ]
                rfl
               refine bY (i:=6) (N:=some 55) (v:=?_) (a':=?_) (eH 10 102) rfl rfl (bS HT_.out (by kernel_rfl)) (fun _ _ _ h => h) (Or.inl ⟨by rfl,?_⟩) ?_ ?_;rotate_left
               ·intro w'
                go_simp;(with_reducible rfl)
               rotate_left
               ·simp only [Act.put,cO,cL,cP,bE,bJ]
                rfl
               refine gP (i:=0) (N:=some 49) (v:=?_) (a':=?_) (eH 10 103) rfl rfl (dM HT_.out HW_.out (by kernel_rfl)) (fun _ _ _ h => h) (Or.inl ⟨by rfl,?_⟩) hHeld ?_ ?_;rotate_left
               ·rintro w' ⟨s0,s1,s2⟩
                go_simp;(with_reducible rfl)
               rotate_left
               ·simp only [Act.put,cO,cL,cP,bE,bJ]
                rfl
               refine gP (i:=4) (N:=some 53) (v:=?_) (a':=?_) (eH 10 119) rfl rfl (dM HT_.out HW_.out (by kernel_rfl)) (fun _ _ _ h => h) (Or.inl ⟨by rfl,?_⟩) hHeld ?_ ?_;rotate_left
               ·rintro w' ⟨s0,s1,s2⟩
                go_simp;(with_reducible rfl)
               rotate_left
               ·simp only [Act.put,cO,cL,cP,bE,bJ]
                rfl
               refine DS (i:=3) (N:=some 52) (eH 10 127) rfl rfl (jO HT_.out (by kernel_rfl)) (by decide) (fun K hK => ?_);refine BR Try.func25 (by kernel_rfl) rfl #[.agg #[.int .i64 aN,.int .i64 aJ,.slice aMd cZ.length aAO],.int .i64 (iJ.length : Int),.int .i64 fT] (by rfl) rfl rfl mS ?_
               with_reducible refine (bV.calls aN aJ _ _ cZ (iJ.length : Int) fT t193 _ ?side1 ?side2 A22.out).mono ?_
               (case side1 => exact pZ ((Kd.cD bD.out).2.2))
               (case side2 => exact (Kd.cD bD.out).2.1);rintro e w37 ⟨rfl,hb⟩;refine ⟨_,rfl,?_⟩;replace jF:=aA.mk (Kd.cW (eQ jF.out) hb);replace bD:=aA.mk (Kd.cW (eQ bD.out) hb);replace bP:=aA.mk (aM (cH bP) hb);replace dZ:=aA.mk (aM (cH dZ) hb);replace HK:=aA.mk (Kept.below (S:=(fun k_ => P0_2_ k_)) (by repeat (first | (with_reducible first | exact HK.out | apply Kept.alloc | apply Kept.drewN | apply Kept.drew | refine Kept.setCell ?_ (.inr mB.out) _ | refine Kept.setCell ?_ (.inr nV.out) _) | exact HK.out)) hb);replace HB:=aA.mk (aQ (cR HB nJ oX) hb);(try clear hb);(try clear hb2);(try clear hk);(try clear hi);refine hK.out _ _ ⟨(aY bP.out 0).trans rfl,(aY bP.out 1).trans rfl,(aY bP.out 2).trans rfl⟩ (fun hHeld => ?_);clear hK K;refine qM (a':=?_) ?_ ?_;rotate_left
               ·show Act.put _ (some 52) _ = _
                simp only [Act.put,cO,cL,cP,bE,bJ];rfl
               refine DS (i:=7) (N:=some 56) (eH 10 255) rfl rfl (jO HT_.out (by kernel_rfl)) (by decide) (fun K hK => ?_);refine BR Try.func25 (by kernel_rfl) rfl #[.agg #[.int .i64 aN,.int .i64 aJ,.slice aMd cZ.length aAO],.int .i64 cX,.int .i64 fT] (by rfl) rfl rfl mS ?_
               with_reducible refine (bV.calls aN aJ _ _ cZ cX fT t194 _ ?side1 ?side2 A23.out).mono ?_
               (case side1 => exact pZ ((Kd.cD bD.out).2.2))
               (case side2 => exact (Kd.cD bD.out).2.1);rintro e w38 ⟨rfl,hb⟩;refine ⟨_,rfl,?_⟩;replace jF:=aA.mk (Kd.cW (eQ jF.out) hb);replace bD:=aA.mk (Kd.cW (eQ bD.out) hb);replace bP:=aA.mk (aM (cH bP) hb);replace dZ:=aA.mk (aM (cH dZ) hb);replace HK:=aA.mk (Kept.below (S:=(fun k_ => P0_2_ k_)) (by repeat (first | (with_reducible first | exact HK.out | apply Kept.alloc | apply Kept.drewN | apply Kept.drew | refine Kept.setCell ?_ (.inr mB.out) _ | refine Kept.setCell ?_ (.inr nV.out) _) | exact HK.out)) hb);replace HB:=aA.mk (aQ (cR HB nJ oX) hb);(try clear hb);(try clear hb2);(try clear hk);(try clear hi);refine hK.out _ _ ⟨(aY bP.out 0).trans rfl,(aY bP.out 1).trans rfl,(aY bP.out 2).trans rfl⟩ (fun hHeld => ?_);clear hK K;refine qM (a':=?_) ?_ ?_;rotate_left
               ·show Act.put _ (some 56) _ = _
                simp only [Act.put,cO,cL,cP,bE,bJ];rfl
               refine bY (i:=8) (N:=some 12) (v:=?_) (a':=?_) (eH 10 511) rfl rfl (bS HT_.out (by kernel_rfl)) (fun _ _ _ h => h) (Or.inl ⟨by rfl,?_⟩) ?_ ?_;rotate_left
               ·intro w'
                go_simp;(with_reducible rfl)
               rotate_left
               ·simp only [Act.put,cO,cL,cP,bE,bJ]
                rfl
               refine bY (i:=9) (N:=some 13) (v:=?_) (a':=?_) (eH 10 1023) rfl rfl (bS HT_.out (by kernel_rfl)) (fun _ _ _ h => h) (Or.inl ⟨by rfl,?_⟩) ?_ ?_;rotate_left
               ·intro w'
                go_simp;(with_reducible rfl)
               rotate_left
               ·simp only [Act.put,cO,cL,cP,bE,bJ]
                rfl
               refine yV (rJ HT_.out (by kernel_rfl)) ?_;have ON:=bO bP 0 (.int .i64 aN) rfl;have OM:=bO bP 1 (.int .i64 aJ) rfl;have OL:=bO bP 2 (.slice aMd cZ.length aAO) rfl;have NY:=aC bP.out 0;have NX:=aC bP.out 1;have NW:=aC bP.out 2;have p27 : 0≤((EW) : Int):=of_decide_eq_true mK;have q27 : ((EW) : Int) < ((cZ.length : Int) : Int):=of_decide_eq_true mK;obtain ⟨go27,MV,eo27,aQO,gl27,cl27,HG27⟩:=Kd.AE bD.out (by omega)
               (first | cases eo27 | (injection eo27 with ea_ en_ ec_;(first | subst ea_ | (injection ea_ with ea_;subst ea_));subst ec_;clear en_));have GB27:=aA.mk aQO;have GG27:=aA.mk HG27;clear aQO gl27 HG27;have HMgo27:=aA.mk (show (P0_2_ go27 ∨ w.heap.size≤go27) from (bD.out.1 _ rfl));obtain ⟨hx27_0,hf27_0⟩:=Kd.nG 0 bD.out ((EW) : Int) p27 q27;replace p27:=eq_true p27;replace q27:=eq_true q27;obtain ⟨hy40_,hz40_⟩:=Kd.nG 0 bD.out ((EW) : Int) (of_decide_eq_true mK) (of_decide_eq_true mK);have HP40:=Kd.RM bD.out ((EW) : Int) t193
               try go_wp2_with (first | ((with_reducible refine vX (t:=5) (p:=66) rfl ?_);refine tL (t:=5) (p:=66) (v:=?vo_w41) (w1:=(w38.setCell ⟨go27,((EW) : Int).toNat,none⟩ (.int .u8 t193))) ?hg ?ho ?hn ?hr ?_;(case ho => rfl);(case hg => rfl);(case hn => rfl);(case hr => first | (go_simp;done) | (go_simp;rfl));intro w41 hw;have hg : w38.grownBy w41 (some go27):=(by rw [hw];exact HP40.2);have hp_ : Kd.R (Kd.int .u8) 5 w41 w0.heap.size (fun k_ => (P0_2_ k_ ∨ w.heap.size≤k_)) (.slice (some ⟨go27,0,none⟩) cZ.length aAO) y195:=(by rw [hw,Ny195.out];exact HP40.1);clear HP40;replace jF:=aA.mk (Kd.AD (v:=(.slice (some ⟨go27,0,none⟩) cZ.length aAO)) (eQ jF.out) (Kd.xQ bD.out) (by decide) hg);replace bP:=aA.mk (dJ (cH bP) hg (Kd.jE bD.out bP.out (by decide)));replace dZ:=aA.mk (dJ (cH dZ) hg (Kd.jE bD.out dZ.out (by decide)));replace HB:=aA.mk ((by rw [hw];exact eT (HB.out) GB27.out : Below w0.heap.size w0 w41));replace HK:=aA.mk (Kept.aAo (S:=(fun k_ => P0_2_ k_)) hg (by repeat (first | (with_reducible first | exact HK.out | apply Kept.alloc | apply Kept.drewN | apply Kept.drew | refine Kept.setCell ?_ (.inr mB.out) _ | refine Kept.setCell ?_ (.inr nV.out) _) | exact HK.out)) (fun k_ e_ => (bD.out.1 k_ e_)));replace bD:=aA.mk (hp_);clear hg hw hp_))
               replace jF:=aA.mk (Kd.cC jF.out);replace bD:=aA.mk (Kd.cC bD.out);replace bP:=aA.mk (aH bP.out);replace dZ:=aA.mk (aH dZ.out);replace HK:=aA.mk (Kept.drew HK.out);replace HB:=aA.mk (dT HB.out);refine sG (n:=13) (S:=fun w' => w'.cell? ⟨tR,0,none⟩ = some (.int .i64 aN)∧w'.cell? ⟨tR,1,none⟩ = some (.int .i64 aJ)∧w'.cell? ⟨tR,2,none⟩ = some (.slice (some ⟨go27,0,none⟩) cZ.length aAO)) (ds:=[12]) #[false,false,false,false,false,false,false,false,false,false,false,false,false] (by kernel_rfl) rfl rfl ⟨(aY bP.out 0).trans rfl,(aY bP.out 1).trans rfl,(aY bP.out 2).trans rfl⟩ (fun hHeld => ?_);refine kL aI.aPr aI.aOy (fun HT_ HW_ => ?_);generalize w41.drew = w42 at jF bD bP dZ HK HB hHeld ⊢;refine bY (i:=0) (N:=some 67) (v:=?_) (a':=?_) (eH 13 1) rfl rfl (bS HT_.out (by kernel_rfl)) (fun _ _ _ h => h) (Or.inl ⟨by rfl,?_⟩) ?_ ?_;rotate_left
               ·intro w'
                go_simp;(with_reducible rfl)
               rotate_left
               ·simp only [Act.put,cO,cL,cP,bE,bJ]
                rfl
               refine bY (i:=2) (N:=some 69) (v:=?_) (a':=?_) (eH 13 5) rfl rfl (bS HT_.out (by kernel_rfl)) (fun _ _ _ h => h) (Or.inl ⟨by rfl,?_⟩) ?_ ?_;rotate_left
               ·intro w'
                go_simp;(with_reducible rfl)
               rotate_left
               ·simp only [Act.put,cO,cL,cP,bE,bJ]
                rfl
               refine bY (i:=3) (N:=some 70) (v:=?_) (a':=?_) (eH 13 13) rfl rfl (bS HT_.out (by kernel_rfl)) (fun _ _ _ h => h) (Or.inl ⟨by rfl,?_⟩) ?_ ?_;rotate_left
               ·intro w'
                go_simp;(with_reducible rfl)
               rotate_left
               ·simp only [Act.put,cO,cL,cP,bE,bJ]
                rfl
               refine bY (i:=6) (N:=some 73) (v:=?_) (a':=?_) (eH 13 77) rfl rfl (bS HT_.out (by kernel_rfl)) (fun _ _ _ h => h) (Or.inl ⟨by rfl,?_⟩) ?_ ?_;rotate_left
               ·intro w'
                go_simp;(with_reducible rfl)
               rotate_left
               ·simp only [Act.put,cO,cL,cP,bE,bJ]
                rfl
               refine bY (i:=8) (N:=some 75) (v:=?_) (a':=?_) (eH 13 333) rfl rfl (bS HT_.out (by kernel_rfl)) (fun _ _ _ h => h) (Or.inl ⟨by rfl,?_⟩) ?_ ?_;rotate_left
               ·intro w'
                go_simp;(with_reducible rfl)
               rotate_left
               ·simp only [Act.put,cO,cL,cP,bE,bJ]
                rfl
               refine bY (i:=9) (N:=some 76) (v:=?_) (a':=?_) (eH 13 845) rfl rfl (bS HT_.out (by kernel_rfl)) (fun _ _ _ h => h) (Or.inl ⟨by rfl,?_⟩) ?_ ?_;rotate_left
               ·intro w'
                go_simp;(with_reducible rfl)
               rotate_left
               ·simp only [Act.put,cO,cL,cP,bE,bJ]
                rfl
               refine gP (i:=1) (N:=some 68) (v:=?_) (a':=?_) (eH 13 847) rfl rfl (dM HT_.out HW_.out (by kernel_rfl)) (fun _ _ _ h => h) (Or.inl ⟨by rfl,?_⟩) hHeld ?_ ?_;rotate_left
               ·rintro w' ⟨s0,s1,s2⟩
                go_simp;(with_reducible rfl)
               rotate_left
               ·simp only [Act.put,cO,cL,cP,bE,bJ]
                rfl
               refine gP (i:=4) (N:=some 71) (v:=?_) (a':=?_) (eH 13 863) rfl rfl (dM HT_.out HW_.out (by kernel_rfl)) (fun _ _ _ h => h) (Or.inl ⟨by rfl,?_⟩) hHeld ?_ ?_;rotate_left
               ·rintro w' ⟨s0,s1,s2⟩
                go_simp;(with_reducible rfl)
               rotate_left
               ·simp only [Act.put,cO,cL,cP,bE,bJ]
                rfl
               refine bY (i:=5) (N:=some 72) (v:=?_) (a':=?_) (eH 13 895) rfl rfl (bS HT_.out (by kernel_rfl)) (fun _ _ _ h => h) (Or.inl ⟨by rfl,?_⟩) ?_ ?_;rotate_left
               ·intro w'
                go_simp;(with_reducible rfl)
               rotate_left
               ·simp only [Act.put,cO,cL,cP,bE,bJ]
                rfl
               refine bY (i:=7) (N:=some 74) (v:=?_) (a':=?_) (eH 13 1023) rfl rfl (bS HT_.out (by kernel_rfl)) (fun _ _ _ h => h) (Or.inl ⟨by rfl,?_⟩) ?_ ?_;rotate_left
               ·intro w'
                go_simp;(with_reducible rfl)
               rotate_left
               ·simp only [Act.put,cO,cL,cP,bE,bJ]
                rfl
               refine DS (i:=10) (N:=some 77) (eH 13 2047) rfl rfl (jO HT_.out (by kernel_rfl)) (by decide) (fun K hK => ?_);refine BR Try.func24 (by kernel_rfl) rfl #[.int .u8 t191,.int .u8 t194] (by rfl) rfl rfl mS ?_
               with_reducible refine (cI.calls t191 t194 t196 _ A28.out).mono ?_
               rintro e w' ⟨rfl,⟨nd,rfl⟩⟩;refine ⟨_,rfl,?_⟩;have p32 : 0≤((GZ) : Int):=of_decide_eq_true mK;have q32 : ((GZ) : Int) < ((cZ.length : Int) : Int):=of_decide_eq_true mK;obtain ⟨hx32_0,hf32_0⟩:=Kd.nG 0 bD.out ((GZ) : Int) p32 q32;replace p32:=eq_true p32;replace q32:=eq_true q32;have HP43:=Kd.KX bD.out ((GZ) : Int) t196;rw [← Ny197.out] at HP43;have HQ43:=aA.mk HP43;clear HP43;refine hK.out _ _ ⟨(aY bP.out 0).trans rfl,(aY bP.out 1).trans rfl,(aY bP.out 2).trans rfl⟩ (fun hHeld => ?_);clear hK K;refine qM (a':=?_) ?_ ?_;rotate_left
               ·show Act.put _ (some 77) _ = _
                simp only [Act.put,cO,cL,cP,bE,bJ];rfl
               refine bY (i:=11) (N:=some 78) (v:=?_) (a':=?_) (eH 13 4095) rfl rfl (bS HT_.out (by kernel_rfl)) (fun _ _ _ h => h) (Or.inl ⟨by rfl,?_⟩) ?_ ?_;rotate_left
               ·intro w'
                go_simp;(with_reducible rfl)
               rotate_left
               ·simp only [Act.put,cO,cL,cP,bE,bJ]
                rfl
               refine QH (i:=12) (N:=none) (eH 13 8191) rfl rfl (jO HT_.out (by kernel_rfl)) (by decide) (fun K hK => ?_);refine LI (w1:=?_) (by rfl) rfl ?_ ?_;rotate_left
               ·go_simp
                rfl
               refine hK.out _ _ ?_;clear hK K;refine yV (rJ HT_.out (by kernel_rfl)) ?_
               try go_wp2
               go_roundg k3
               case measure => have:=FT.out;have:=vJ.out;have:=zN.out;omega
               case rel => exact ⟨(wrap64 (fT + 1)),(y197),(.slice (some ⟨go27,0,none⟩) cZ.length aAO),nL,H',⟨by have:=FT.out;have:=vJ.out;have:=zN.out;omega⟩,⟨by (with_reducible repeat first | apply Kd.cK | apply Kd.cJ | apply Kd.cC);exact Kd.cN (Kd.dD (p:=⟨go27,((GZ) : Int).toNat,none⟩) (Kd.eC jF.out (Kd.xQ bD.out _ rfl).choose_spec (by decide)) (fun _ hk => hk.2) (.int .u8 t196)) (fun _ hk => hk.1)⟩,⟨eQ HQ43.out⟩,⟨by (with_reducible repeat first | apply aD | apply aH | apply aE);refine bF ?_ (by have h_:=Kd.jE bD.out bP.out (by decide);intro e_;exact h_ (by rw [e_];rfl)) _;(with_reducible repeat first | apply aD | apply aH | apply aE);exact bP.out⟩,⟨by (with_reducible repeat first | apply aD | apply aH | apply aE);refine bF ?_ (by have h_:=Kd.jE bD.out dZ.out (by decide);intro e_;exact h_ (by rw [e_];rfl)) _;(with_reducible repeat first | apply aD | apply aH | apply aE);exact dZ.out⟩,⟨by repeat (first | (with_reducible first | exact HK.out | apply Kept.alloc | apply Kept.drewN | apply Kept.drew | refine Kept.setCell ?_ HMgo27.out _ | refine Kept.setCell ?_ (.inr mB.out) _ | refine Kept.setCell ?_ (.inr nV.out) _) | exact HK.out)⟩,⟨jU HB GB27 nJ oX⟩⟩
              ·rw [if_neg FQ] at H
               exact absurd H (by simp)
             ·rw [if_neg TH] at H
              exact absurd H (by simp)
            ·rw [if_neg c26] at H
             exact absurd H (by simp)
           ·rw [if_neg c25] at H
            exact absurd H (by simp)
          ·rw [if_neg BA] at H
           have EG : decide (fT < aJ) = false:=decide_eq_false BA;clear BA;have H':=aA.mk H;clear H;have aQv:=kW.out;have aPX:=kV.out;have OK:=bO bP 0 (.int .i64 aN) rfl;have OJ:=bO bP 1 (.int .i64 aJ) rfl;have OI:=bO bP 2 dR rfl;have NV:=aC bP.out 0;have NU:=aC bP.out 1;have NT:=aC bP.out 2
           go_wp2
           go_loopg [14] k3 (fun kq v14 w' => ∃ (lY : Int) (mD : List Int) (dR : Value),v14 = .int .i64 lY∧aA (aI.l3 kq oY lH (iJ.length : Int) lY aN aJ mD = some (r1,r2,r3,r4))∧aA (kq≤k3)∧aA (Kd.R (Kd.int .i64) 3 w' w0.heap.size (fun k_ => (P0_2_ k_ ∨ w.heap.size≤k_)) u4 oY)∧aA (Kd.R (Kd.int .u8) 5 w' w0.heap.size (fun k_ => (P0_2_ k_ ∨ w.heap.size≤k_)) dR mD)∧aA (w'.heap[tR]? = some (.cells #[.int .i64 aN,.int .i64 aJ,dR] 24 (0,0)))∧aA (w'.heap[vW]? = some (.cells #[.int .i64 0,.int .i64 0,(.slice none 0 0)] 24 (0,0)))∧aA (Kept w w' (fun k_ => P0_2_ k_))∧aA (Below w0.heap.size w0 w'))
           case atStart => exact ⟨(0),(cZ),(dR),nL,H',⟨Nat.le_refl _⟩,⟨eQ jF.out⟩,⟨eQ bD.out⟩,⟨gM bP.out⟩,⟨gM dZ.out⟩,⟨by repeat (first | (with_reducible first | exact HK.out | apply Kept.alloc | apply Kept.drewN | apply Kept.drew | refine Kept.setCell ?_ (.inr mB.out) _ | refine Kept.setCell ?_ (.inr nV.out) _) | exact HK.out)⟩,⟨cR HB nJ oX⟩⟩
           case round =>
            clear H';(try clear c1);(try clear c2);(try clear p2);(try clear q2);(try clear hx2);(try clear hf2);(try clear c3);(try clear p3);(try clear q3);(try clear hx3);(try clear hf3);(try clear c4);(try clear c5);(try clear rK);(try clear c6);(try clear p6);(try clear c8);(try clear c9);(try clear KS);(try clear BB);(try clear MC);(try clear aBa);(try clear AO);(try clear CE);(try clear BA);(try clear EG);(try clear c24);(try clear c25);(try clear aIK);(try clear c26);(try clear aIJ);(try clear p27);(try clear q27);(try clear hx27);(try clear hf27);(try clear TH);(try clear MA);(try clear FQ);(try clear QZ);(try clear p32);(try clear q32);(try clear hx32);(try clear hf32);(try clear c33);(try clear c44);(try clear mZ);(try clear mY);(try clear mX);(try clear tI);(try clear tH);(try clear tG);(try clear xJ);(try clear xI);(try clear xH);(try clear ON);(try clear OM);(try clear OL);(try clear OK);(try clear OJ);(try clear OI);(try clear iS);(try clear iR);(try clear iQ);(try clear mW);(try clear mU);(try clear mT);(try clear tC);(try clear tB);(try clear tA);(try clear xC);(try clear xB);(try clear xA);(try clear NY);(try clear NX);(try clear NW);(try clear NV);(try clear NU);(try clear NT);(try clear iP);(try clear iO);(try clear iN);(try clear hx27_0);(try clear hx32_0);(try clear p2)
            (try clear p27);(try clear p32);(try clear p6);(try clear q27);(try clear q32);obtain ⟨lY,mD,dR,rfl,HA,ZM,jF,bD,bP,dZ,HK,HB⟩:=hrel
            cases gk with
            | zero => exact absurd HA.out (by simp [aI.l3])
            | succ k4 =>
             have H:=HA.out;clear HA;simp only [aI.l3] at H
             by_cases c46 : lY < aN
             ·rw [if_pos c46] at H
              have aEz : decide (lY < aN) = true:=decide_eq_true c46;clear c46;replace H:=Option.bind_eq_some_iff.mp H;obtain ⟨t201,aSH,H⟩:=H;replace H : (aI.l4 k4 oY lH (iJ.length : Int) lY t201 0 aN aJ mD) = some (r1,r2,r3,r4):=H;have A47:=aA.mk aSH;clear aSH;have H':=aA.mk H;clear H;have aYE:=kW.out;have aXQ:=kV.out;have OH:=bO bP 0 (.int .i64 aN) rfl;have OG:=bO bP 1 (.int .i64 aJ) rfl;have OF:=bO bP 2 dR rfl;have NS:=aC bP.out 0;have NR:=aC bP.out 1;have NQ:=aC bP.out 2;obtain ⟨aSv,aQY,eo50⟩:=Kd.cM bD.out;subst eo50;go_wp2_with (first | ((with_reducible refine bB (f:=25) rfl ?_);refine cS (some 88) rfl rfl Try.func25 (by kernel_rfl) rfl #[.agg #[.int .i64 aN,.int .i64 aJ,.slice aSv mD.length aQY],.int .i64 lY,.int .i64 lH] rfl mS ?_;(with_reducible refine (bV.calls aN aJ _ _ mD lY lH t201 _ ?side1 ?side2 A47.out).mono ?_);(case side1 => exact pZ ((Kd.cD bD.out).2.2));(case side2 => exact (Kd.cD bD.out).2.1);rintro e w51 ⟨rfl,hb⟩;refine ⟨_,rfl,?_⟩;replace jF:=aA.mk (Kd.cW (eQ jF.out) hb);replace bD:=aA.mk (Kd.cW (eQ bD.out) hb);replace bP:=aA.mk (aM (cH bP) hb);replace dZ:=aA.mk (aM (cH dZ) hb);replace HK:=aA.mk (Kept.below (S:=(fun k_ => P0_2_ k_)) (by repeat (first | (with_reducible first | exact HK.out | apply Kept.alloc | apply Kept.drewN | apply Kept.drew | refine Kept.setCell ?_ (.inr mB.out) _ | refine Kept.setCell ?_ (.inr nV.out) _) | exact HK.out)) hb);replace HB:=aA.mk (aQ (cR HB nJ oX) hb);(try clear hb);(try clear hb2);(try clear hk);(try clear hi)))
              go_loopg [16] k4 (fun kq v16 w' => ∃ (nM : Int) (dC : List Int) (dR : Value),v16 = .int .i64 nM∧aA (aI.l4 kq oY lH (iJ.length : Int) lY t201 nM aN aJ dC = some (r1,r2,r3,r4))∧aA (kq≤k4)∧aA (Kd.R (Kd.int .i64) 3 w' w0.heap.size (fun k_ => (P0_2_ k_ ∨ w.heap.size≤k_)) u4 oY)∧aA (Kd.R (Kd.int .u8) 5 w' w0.heap.size (fun k_ => (P0_2_ k_ ∨ w.heap.size≤k_)) dR dC)∧aA (w'.heap[tR]? = some (.cells #[.int .i64 aN,.int .i64 aJ,dR] 24 (0,0)))∧aA (w'.heap[vW]? = some (.cells #[.int .i64 0,.int .i64 0,(.slice none 0 0)] 24 (0,0)))∧aA (Kept w w' (fun k_ => P0_2_ k_))∧aA (Below w0.heap.size w0 w'))
              case atStart => exact ⟨(0),(mD),(.slice aSv mD.length aQY),nL,H',⟨Nat.le_refl _⟩,⟨eQ jF.out⟩,⟨eQ bD.out⟩,⟨gM bP.out⟩,⟨gM dZ.out⟩,⟨by repeat (first | (with_reducible first | exact HK.out | apply Kept.alloc | apply Kept.drewN | apply Kept.drew | refine Kept.setCell ?_ (.inr mB.out) _ | refine Kept.setCell ?_ (.inr nV.out) _) | exact HK.out)⟩,⟨cR HB nJ oX⟩⟩
              case round =>
               clear H';(try clear c1);(try clear c2);(try clear p2);(try clear q2);(try clear hx2);(try clear hf2);(try clear c3);(try clear p3);(try clear q3);(try clear hx3);(try clear hf3);(try clear c4);(try clear c5);(try clear rK);(try clear c6);(try clear p6);(try clear c8);(try clear c9);(try clear KS);(try clear BB);(try clear MC);(try clear aBa);(try clear AO);(try clear CE);(try clear BA);(try clear EG);(try clear c24);(try clear c25);(try clear aIK);(try clear c26);(try clear aIJ);(try clear p27);(try clear q27);(try clear hx27);(try clear hf27);(try clear TH);(try clear MA);(try clear FQ);(try clear QZ);(try clear p32);(try clear q32);(try clear hx32);(try clear hf32);(try clear c33);(try clear c44);(try clear c46);(try clear aEz);(try clear c48);(try clear mZ);(try clear mY);(try clear mX);(try clear tI);(try clear tH);(try clear tG);(try clear xJ);(try clear xI);(try clear xH);(try clear ON);(try clear OM);(try clear OL);(try clear OK);(try clear OJ);(try clear OI);(try clear OH);(try clear OG);(try clear OF);(try clear iS);(try clear iR);(try clear iQ);(try clear mW);(try clear mU);(try clear mT);(try clear tC);(try clear tB);(try clear tA);(try clear xC);(try clear xB);(try clear xA);(try clear NY);(try clear NX);(try clear NW);(try clear NV);(try clear NU);(try clear NT)
               (try clear NS);(try clear NR);(try clear NQ);(try clear iP);(try clear iO);(try clear iN);(try clear hx27_0);(try clear hx32_0);(try clear p2);(try clear p27);(try clear p3);(try clear p32);(try clear p6);(try clear q2);(try clear q27);(try clear q3);(try clear q32);obtain ⟨nM,dC,dR,rfl,HA,HK5,jF,bD,bP,dZ,HK,HB⟩:=hrel
               cases gk with
               | zero => exact absurd HA.out (by simp [aI.l4])
               | succ k5 =>
                have H:=HA.out;clear HA;simp only [aI.l4] at H;have aOM:=aA.mk H;clear H;go_upto_region 23 with (fail)
                go_cut [97] (fun v97 wc => ∃ (kq : Nat) (VO : Bool),v97 = .bool VO∧aA (aI.j5 kq oY lH (iJ.length : Int) lY t201 nM VO aN aJ dC = some (r1,r2,r3,r4))∧aA (kq≤k5)∧aA (Kd.R (Kd.int .i64) 3 wc w0.heap.size (fun k_ => (P0_2_ k_ ∨ w.heap.size≤k_)) u4 oY)∧aA (Kd.R (Kd.int .u8) 5 wc w0.heap.size (fun k_ => (P0_2_ k_ ∨ w.heap.size≤k_)) dR dC)∧aA (wc.heap[tR]? = some (.cells #[.int .i64 aN,.int .i64 aJ,dR] 24 (0,0)))∧aA (wc.heap[vW]? = some (.cells #[.int .i64 0,.int .i64 0,(.slice none 0 0)] 24 (0,0)))∧aA (Kept w wc (fun k_ => P0_2_ k_))∧aA (Below w0.heap.size w0 wc))
                case first =>
                 have H:=aOM.out;clear aOM
                 by_cases KT : nM < aJ
                 ·rw [if_pos KT] at H
                  have AN : decide (nM < aJ) = true:=decide_eq_true KT;clear KT
                  (first | rw [AN] | (simp only [bE,bJ];rw [AN]) | rw [aMN] | skip);have H':=aA.mk H;clear H;have aQq:=kW.out;have aPS:=kV.out;have aLg:=bO bP 0 (.int .i64 aN) rfl;have aLf:=bO bP 1 (.int .i64 aJ) rfl;have aLe:=bO bP 2 dR rfl;have aKL:=aC bP.out 0;have aKK:=aC bP.out 1;have aKJ:=aC bP.out 2
                  go_wp2
                  go_meet
                  case rel => exact ⟨_,((lY != (iJ.length : Int))),nL,H',⟨by have:=FT.out;have:=vJ.out;have:=zN.out;have:=ZM.out;have:=HK5.out;first | omega | exact Nat.le_refl _⟩,⟨eQ jF.out⟩,⟨eQ bD.out⟩,⟨gM bP.out⟩,⟨gM dZ.out⟩,⟨by repeat (first | (with_reducible first | exact HK.out | apply Kept.alloc | apply Kept.drewN | apply Kept.drew | refine Kept.setCell ?_ (.inr mB.out) _ | refine Kept.setCell ?_ (.inr nV.out) _) | exact HK.out)⟩,⟨cR HB nJ oX⟩⟩
                 ·rw [if_neg KT] at H
                  have AN : decide (nM < aJ) = false:=decide_eq_false KT;clear KT
                  (first | rw [AN] | (simp only [bE,bJ];rw [AN]) | rw [aMN] | skip);have H':=aA.mk H;clear H;have aMx:=kW.out;have aMq:=kV.out;have OE:=bO bP 0 (.int .i64 aN) rfl;have OD:=bO bP 1 (.int .i64 aJ) rfl;have OC:=bO bP 2 dR rfl;have NP:=aC bP.out 0;have NO:=aC bP.out 1;have NN:=aC bP.out 2
                  go_wp2
                  go_meet
                  case rel => exact ⟨_,(false),nL,H',⟨by have:=FT.out;have:=vJ.out;have:=zN.out;have:=ZM.out;have:=HK5.out;first | omega | exact Nat.le_refl _⟩,⟨eQ jF.out⟩,⟨eQ bD.out⟩,⟨gM bP.out⟩,⟨gM dZ.out⟩,⟨by repeat (first | (with_reducible first | exact HK.out | apply Kept.alloc | apply Kept.drewN | apply Kept.drew | refine Kept.setCell ?_ (.inr mB.out) _ | refine Kept.setCell ?_ (.inr nV.out) _) | exact HK.out)⟩,⟨cR HB nJ oX⟩⟩
                case rest =>
                 clear aOM;(try clear c1);(try clear c2);(try clear p2);(try clear q2);(try clear hx2);(try clear hf2);(try clear c3);(try clear p3);(try clear q3);(try clear hx3);(try clear hf3);(try clear c4);(try clear c5);(try clear rK);(try clear c6);(try clear p6);(try clear c8);(try clear c9);(try clear KS);(try clear BB);(try clear MC);(try clear aBa);(try clear AO);(try clear CE);(try clear BA);(try clear EG);(try clear c24);(try clear c25);(try clear aIK);(try clear c26);(try clear aIJ);(try clear p27);(try clear q27);(try clear hx27);(try clear hf27);(try clear TH);(try clear MA);(try clear FQ);(try clear QZ);(try clear p32);(try clear q32);(try clear hx32);(try clear hf32);(try clear c33);(try clear c44);(try clear c46);(try clear aEz);(try clear c48);(try clear KT);(try clear AN);(try clear aMN);(try clear c54);(try clear c56);(try clear mZ);(try clear mY);(try clear mX);(try clear tI);(try clear tH);(try clear tG);(try clear xJ);(try clear xI);(try clear xH);(try clear ON);(try clear OM);(try clear OL);(try clear OK);(try clear OJ);(try clear OI);(try clear OH);(try clear OG);(try clear OF);(try clear aLg);(try clear aLf);(try clear aLe);(try clear OE);(try clear OD);(try clear OC);(try clear iS);(try clear iR);(try clear iQ);(try clear mW);(try clear mU);(try clear mT);(try clear tC)
                 (try clear tB);(try clear tA);(try clear xC);(try clear xB);(try clear xA);(try clear NY);(try clear NX);(try clear NW);(try clear NV);(try clear NU);(try clear NT);(try clear NS);(try clear NR);(try clear NQ);(try clear aKL);(try clear aKK);(try clear aKJ);(try clear NP);(try clear NO);(try clear NN);(try clear iP);(try clear iO);(try clear iN);(try clear hx27_0);(try clear hx32_0);(try clear p2);(try clear p27);(try clear p3);(try clear p32);(try clear p6);(try clear q2);(try clear q27);(try clear q3);(try clear q32);obtain ⟨kq,VO,rfl,HA,HJ51,jF,bD,bP,dZ,HK,HB⟩:=hcut
                 cases kq with
                 | zero => exact absurd HA.out (by simp [aI.j5])
                 | succ kj51 =>
                  have H:=HA.out;clear HA;simp only [aI.j5] at H
                  by_cases c58 : VO = true
                  ·subst c58
                   have H1 : (if 0≤(wrap64 ((wrap64 (lY * aJ)) + nM)) then (if (wrap64 ((wrap64 (lY * aJ)) + nM)) < (dC.length : Int) then ((bV.f aN aJ dC (iJ.length : Int) nM).bind fun t203 => ((cI.f t201 t203).bind fun t204 => (aI.l4 kj51 oY lH (iJ.length : Int) lY t201 (wrap64 (nM + 1)) aN aJ (dC.set ((wrap64 ((wrap64 (lY * aJ)) + nM)) : Int).toNat (Go.bits .xor .u8 (rd dC (wrap64 ((wrap64 (lY * aJ)) + nM))) t204))))) else (none)) else (none)) = some (r1,r2,r3,r4):=by rw [if_pos rfl] at H;exact H
                   clear H;have H:=H1;clear H1;obtain ⟨gV,QL⟩ : ∃ j_ : Int,(wrap64 ((wrap64 (lY * aJ)) + nM)) = j_:=⟨_,rfl⟩
                   replace H : (if 0≤(gV) then (if (gV) < (dC.length : Int) then ((bV.f aN aJ dC (iJ.length : Int) nM).bind fun t203 => ((cI.f t201 t203).bind fun t204 => (aI.l4 kj51 oY lH (iJ.length : Int) lY t201 (wrap64 (nM + 1)) aN aJ (dC.set ((gV) : Int).toNat (Go.bits .xor .u8 (rd dC (gV)) t204))))) else (none)) else (none)) = some (r1,r2,r3,r4):=by first | (rw [QL] at H;exact H) | (simp only [QL] at H ⊢;exact H)
                   have aOe : (IntKind.i64.wrap ((wrap64 (lY * aJ)) + nM)) = gV:=(bE _).trans QL
                   by_cases c60 : 0≤(gV)
                   ·rw [if_pos c60] at H
                    have aML : decide (0≤(gV)) = true:=decide_eq_true c60;clear c60
                    by_cases c61 : (gV) < (dC.length : Int)
                    ·rw [if_pos c61] at H
                     have aRh : decide ((gV) < (dC.length : Int)) = true:=decide_eq_true c61;clear c61;replace H:=Option.bind_eq_some_iff.mp H;obtain ⟨t203,aJu,H⟩:=H;replace H : ((cI.f t201 t203).bind fun t204 => (aI.l4 kj51 oY lH (iJ.length : Int) lY t201 (wrap64 (nM + 1)) aN aJ (dC.set ((gV) : Int).toNat (Go.bits .xor .u8 (rd dC (gV)) t204)))) = some (r1,r2,r3,r4):=H;have A62:=aA.mk aJu;clear aJu;replace H:=Option.bind_eq_some_iff.mp H;obtain ⟨t204,aJt,H⟩:=H;replace H : (aI.l4 kj51 oY lH (iJ.length : Int) lY t201 (wrap64 (nM + 1)) aN aJ (dC.set ((gV) : Int).toNat (Go.bits .xor .u8 (rd dC (gV)) t204))) = some (r1,r2,r3,r4):=H;have A63:=aA.mk aJt;clear aJt;obtain ⟨y205,hy205⟩ : ∃ y_ : List Int,y_ = (dC.set ((gV) : Int).toNat (Go.bits .xor .u8 (rd dC (gV)) t204)):=⟨_,rfl⟩
                     replace H : (aI.l4 kj51 oY lH (iJ.length : Int) lY t201 (wrap64 (nM + 1)) aN aJ y205) = some (r1,r2,r3,r4):=by first | (rw [hy205];with_reducible exact H) | (have H2_:=(Option.bind_some _ _).symm.trans H;rw [hy205];with_reducible exact H2_) | (have H2_:=(Option.bind_some _ _).symm.trans H;with_reducible exact H2_) | with_reducible exact H | (rw [hy205];exact H) | exact H
                     have Ny205:=aA.mk hy205;clear hy205;have H':=aA.mk H;clear H
                     try go_wp2
                     replace jF:=aA.mk (Kd.cC jF.out);replace bD:=aA.mk (Kd.cC bD.out);replace bP:=aA.mk (aH bP.out);replace dZ:=aA.mk (aH dZ.out);replace HK:=aA.mk (Kept.drew HK.out);replace HB:=aA.mk (dT HB.out);obtain ⟨bBi,aOq,eo66⟩:=Kd.cM bD.out
                     (first | subst eo66 | (injection eo66 with f1_ f2_ f3_;have f4_:=f1_.symm;have f5_:=f3_.symm;clear f1_ f2_ f3_;subst f4_;subst f5_));have aNY : 0≤((gV) : Int):=of_decide_eq_true mK;have q202 : (gV) < (dC.length : Int):=of_decide_eq_true mK;obtain ⟨ad202,e202,hx202_0⟩:=Kd.nU (Kd.cD bD.out).2.2 (gV) aNY q202
                     cases e202
                     replace aNY:=eq_true aNY;replace q202:=eq_true q202;refine sG (n:=19) (S:=fun w' => w'.cell? ⟨tR,0,none⟩ = some (.int .i64 aN)∧w'.cell? ⟨tR,1,none⟩ = some (.int .i64 aJ)∧w'.cell? ⟨tR,2,none⟩ = some (.slice (some ad202) dC.length aOq)∧w'.cell? (ad202.add ((gV)).toNat) = some (.int .u8 (rd dC (gV)))) (ds:=[18]) #[false,false,false,false,false,false,false,false,false,false,false,false,false,false,false,false,false,false,false] (by kernel_rfl) rfl rfl ⟨(aY bP.out 0).trans rfl,(aY bP.out 1).trans rfl,(aY bP.out 2).trans rfl,hx202_0⟩ (fun hHeld => ?_);refine kL aI.aPp aI.aOw (fun HT_ HW_ => ?_);generalize wc.drew = w65 at jF bD bP dZ HK HB hx202_0 hHeld ⊢;refine bY (i:=0) (N:=some 100) (v:=?_) (a':=?_) (eH 19 1) rfl rfl (bS HT_.out (by kernel_rfl)) (fun _ _ _ h => h) (Or.inl ⟨by rfl,?_⟩) ?_ ?_;rotate_left
                     ·intro w'
                      go_simp;(with_reducible rfl)
                     rotate_left
                     ·simp only [Act.put,cO,cL,cP,bE,bJ]
                      rfl
                     refine bY (i:=2) (N:=some 102) (v:=?_) (a':=?_) (eH 19 5) rfl rfl (bS HT_.out (by kernel_rfl)) (fun _ _ _ h => h) (Or.inl ⟨by rfl,?_⟩) ?_ ?_;rotate_left
                     ·intro w'
                      go_simp;(with_reducible rfl)
                     rotate_left
                     ·simp only [Act.put,cO,cL,cP,bE,bJ]
                      rfl
                     refine bY (i:=3) (N:=some 103) (v:=?_) (a':=?_) (eH 19 13) rfl rfl (bS HT_.out (by kernel_rfl)) (fun _ _ _ h => h) (Or.inl ⟨by rfl,?_⟩) ?_ ?_;rotate_left
                     ·intro w'
                      go_simp;(with_reducible rfl)
                     rotate_left
                     ·simp only [Act.put,cO,cL,cP,bE,bJ]
                      rfl
                     refine bY (i:=6) (N:=some 106) (v:=?_) (a':=?_) (eH 19 77) rfl rfl (bS HT_.out (by kernel_rfl)) (fun _ _ _ h => h) (Or.inl ⟨by rfl,?_⟩) ?_ ?_;rotate_left
                     ·intro w'
                      go_simp;(with_reducible rfl)
                     rotate_left
                     ·simp only [Act.put,cO,cL,cP,bE,bJ]
                      rfl
                     refine bY (i:=10) (N:=some 110) (v:=?_) (a':=?_) (eH 19 1101) rfl rfl (bS HT_.out (by kernel_rfl)) (fun _ _ _ h => h) (Or.inl ⟨by rfl,?_⟩) ?_ ?_;rotate_left
                     ·intro w'
                      go_simp;(with_reducible rfl)
                     rotate_left
                     ·simp only [Act.put,cO,cL,cP,bE,bJ]
                      rfl
                     refine bY (i:=12) (N:=some 112) (v:=?_) (a':=?_) (eH 19 5197) rfl rfl (bS HT_.out (by kernel_rfl)) (fun _ _ _ h => h) (Or.inl ⟨by rfl,?_⟩) ?_ ?_;rotate_left
                     ·intro w'
                      go_simp;(with_reducible rfl)
                     rotate_left
                     ·simp only [Act.put,cO,cL,cP,bE,bJ]
                      rfl
                     refine bY (i:=13) (N:=some 113) (v:=?_) (a':=?_) (eH 19 13389) rfl rfl (bS HT_.out (by kernel_rfl)) (fun _ _ _ h => h) (Or.inl ⟨by rfl,?_⟩) ?_ ?_;rotate_left
                     ·intro w'
                      go_simp;(with_reducible rfl)
                     rotate_left
                     ·simp only [Act.put,cO,cL,cP,bE,bJ]
                      rfl
                     refine gP (i:=1) (N:=some 101) (v:=?_) (a':=?_) (eH 19 13391) rfl rfl (dM HT_.out HW_.out (by kernel_rfl)) (fun _ _ _ h => h) (Or.inl ⟨by rfl,?_⟩) hHeld ?_ ?_;rotate_left
                     ·rintro w' ⟨s0,s1,s2,s3⟩
                      go_simp;(with_reducible rfl)
                     rotate_left
                     ·simp only [Act.put,cO,cL,cP,bE,bJ]
                      rfl
                     refine gP (i:=4) (N:=some 104) (v:=?_) (a':=?_) (eH 19 13407) rfl rfl (dM HT_.out HW_.out (by kernel_rfl)) (fun _ _ _ h => h) (Or.inl ⟨by rfl,?_⟩) hHeld ?_ ?_;rotate_left
                     ·rintro w' ⟨s0,s1,s2,s3⟩
                      go_simp;(with_reducible rfl)
                     rotate_left
                     ·simp only [Act.put,cO,cL,cP,bE,bJ]
                      rfl
                     refine bY (i:=5) (N:=some 105) (v:=?_) (a':=?_) (eH 19 13439) rfl rfl (bS HT_.out (by kernel_rfl)) (fun _ _ _ h => h) (Or.inl ⟨by rfl,?_⟩) ?_ ?_;rotate_left
                     ·intro w'
                      go_simp;(with_reducible rfl)
                     rotate_left
                     ·simp only [Act.put,cO,cL,cP,bE,bJ]
                      rfl
                     refine bY (i:=7) (N:=some 107) (v:=?_) (a':=?_) (eH 19 13567) rfl rfl (bS HT_.out (by kernel_rfl)) (fun _ _ _ h => h) (Or.inl ⟨by rfl,?_⟩) ?_ ?_;rotate_left
                     ·intro w'
                      go_simp;(with_reducible rfl)
                     rotate_left
                     ·simp only [Act.put,cO,cL,cP,bE,bJ]
                      rfl
                     refine bY (i:=8) (N:=some 108) (v:=?_) (a':=?_) (eH 19 13823) rfl rfl (bS HT_.out (by kernel_rfl)) (fun _ _ _ h => h) (Or.inl ⟨by rfl,?_⟩) ?_ ?_;rotate_left
                     ·intro w'
                      go_simp;(with_reducible rfl)
                     rotate_left
                     ·simp only [Act.put,cO,cL,cP,bE,bJ]
                      rfl
                     refine gP (i:=9) (N:=some 109) (v:=?_) (a':=?_) (eH 19 14335) rfl rfl (dM HT_.out HW_.out (by kernel_rfl)) (fun _ _ _ h => h) (Or.inl ⟨by rfl,?_⟩) hHeld ?_ ?_;rotate_left
                     ·rintro w' ⟨s0,s1,s2,s3⟩
                      go_simp;(with_reducible rfl)
                     rotate_left
                     ·simp only [Act.put,cO,cL,cP,bE,bJ]
                      rfl
                     refine gP (i:=11) (N:=some 111) (v:=?_) (a':=?_) (eH 19 16383) rfl rfl (dM HT_.out HW_.out (by kernel_rfl)) (fun _ _ _ h => h) (Or.inl ⟨by rfl,?_⟩) hHeld ?_ ?_;rotate_left
                     ·rintro w' ⟨s0,s1,s2,s3⟩
                      go_simp;(with_reducible rfl)
                     rotate_left
                     ·simp only [Act.put,cO,cL,cP,bE,bJ]
                      rfl
                     refine DS (i:=14) (N:=some 114) (eH 19 32767) rfl rfl (jO HT_.out (by kernel_rfl)) (by decide) (fun K hK => ?_);refine BR Try.func25 (by kernel_rfl) rfl #[.agg #[.int .i64 aN,.int .i64 aJ,.slice (some ad202) dC.length aOq],.int .i64 (iJ.length : Int),.int .i64 nM] (by rfl) rfl rfl mS ?_
                     with_reducible refine (bV.calls aN aJ _ _ dC (iJ.length : Int) nM t203 _ ?side1 ?side2 A62.out).mono ?_
                     (case side1 => exact pZ ((Kd.cD bD.out).2.2))
                     (case side2 => exact (Kd.cD bD.out).2.1);rintro e w67 ⟨rfl,hb⟩;have HS3_:=(hb.cell (World.block_lt_of_cell? _ _ (hHeld.2.2.2))).trans (hHeld.2.2.2);refine ⟨_,rfl,?_⟩;replace jF:=aA.mk (Kd.cW (eQ jF.out) hb);replace bD:=aA.mk (Kd.cW (eQ bD.out) hb);replace bP:=aA.mk (aM (cH bP) hb);replace dZ:=aA.mk (aM (cH dZ) hb);replace HK:=aA.mk (Kept.below (S:=(fun k_ => P0_2_ k_)) (by repeat (first | (with_reducible first | exact HK.out | apply Kept.alloc | apply Kept.drewN | apply Kept.drew | refine Kept.setCell ?_ (.inr mB.out) _ | refine Kept.setCell ?_ (.inr nV.out) _) | exact HK.out)) hb);replace HB:=aA.mk (aQ (cR HB nJ oX) hb);(try clear hb);(try clear hb2);(try clear hk);(try clear hi);refine hK.out _ _ ⟨(aY bP.out 0).trans rfl,(aY bP.out 1).trans rfl,(aY bP.out 2).trans rfl,HS3_⟩ (fun hHeld => ?_);clear hK K;refine qM (a':=?_) ?_ ?_;rotate_left
                     ·show Act.put _ (some 114) _ = _
                      simp only [Act.put,cO,cL,cP,bE,bJ];rfl
                     refine DS (i:=15) (N:=some 115) (eH 19 65535) rfl rfl (jO HT_.out (by kernel_rfl)) (by decide) (fun K hK => ?_);refine BR Try.func24 (by kernel_rfl) rfl #[.int .u8 t201,.int .u8 t203] (by rfl) rfl rfl mS ?_
                     with_reducible refine (cI.calls t201 t203 t204 _ A63.out).mono ?_
                     rintro e w' ⟨rfl,⟨nd,rfl⟩⟩;refine ⟨_,rfl,?_⟩;have p64 : 0≤((gV) : Int):=of_decide_eq_true mK;have q64 : ((gV) : Int) < ((dC.length : Int) : Int):=of_decide_eq_true mK;obtain ⟨go64,bAJ,eo64,aQI,gl64,cl64,HG64⟩:=Kd.AE bD.out (by omega)
                     (first | cases eo64 | (injection eo64 with ea_ en_ ec_;(first | subst ea_ | (injection ea_ with ea_;subst ea_));subst ec_;clear en_));have GB64:=aA.mk aQI;have GG64:=aA.mk HG64;clear aQI gl64 HG64;have HMgo64:=aA.mk (show (P0_2_ go64 ∨ w.heap.size≤go64) from (bD.out.1 _ rfl))
                     (first | simp only [add_plain] at hx202_0 | skip);obtain ⟨hx64_0,hf64_0⟩:=Kd.nG 0 bD.out ((gV) : Int) p64 q64;replace p64:=eq_true p64;replace q64:=eq_true q64;have HP68:=Kd.KX bD.out ((gV) : Int) (Go.bits .xor .u8 (rd dC (gV)) t204);rw [← Ny205.out] at HP68;have HQ68:=aA.mk HP68;clear HP68;refine hK.out _ _ ⟨(aY bP.out 0).trans rfl,(aY bP.out 1).trans rfl,(aY bP.out 2).trans rfl,hHeld.2.2.2⟩ (fun hHeld => ?_);clear hK K;refine qM (a':=?_) ?_ ?_;rotate_left
                     ·show Act.put _ (some 115) _ = _
                      simp only [Act.put,cO,cL,cP,bE,bJ];rfl
                     refine bY (i:=16) (N:=some 116) (v:=?_) (a':=?_) (eH 19 131071) rfl rfl (bS HT_.out (by kernel_rfl)) (fun _ _ _ h => h) (Or.inl ⟨by rfl,?_⟩) ?_ ?_;rotate_left
                     ·intro w'
                      go_simp;(with_reducible rfl)
                     rotate_left
                     ·simp only [Act.put,cO,cL,cP,bE,bJ]
                      rfl
                     refine bY (i:=17) (N:=some 117) (v:=?_) (a':=?_) (eH 19 262143) rfl rfl (bS HT_.out (by kernel_rfl)) (fun _ _ _ h => h) (Or.inl ⟨by rfl,?_⟩) ?_ ?_;rotate_left
                     ·intro w'
                      go_simp;(with_reducible rfl)
                     rotate_left
                     ·simp only [Act.put,cO,cL,cP,bE,bJ]
                      rfl
                     refine QH (i:=18) (N:=none) (eH 19 524287) rfl rfl (jO HT_.out (by kernel_rfl)) (by decide) (fun K hK => ?_);refine LI (w1:=?_) (by rfl) rfl ?_ ?_;rotate_left
                     ·go_simp
                      rfl
                     refine hK.out _ _ ?_;clear hK K;refine yV (rJ HT_.out (by kernel_rfl)) ?_
                     try go_wp2
                     go_roundg kj51
                     case measure => have:=FT.out;have:=vJ.out;have:=zN.out;have:=ZM.out;have:=HK5.out;have:=HJ51.out;omega
                     case rel => exact ⟨(wrap64 (nM + 1)),(y205),(.slice (some ⟨go64,0,none⟩) dC.length aOq),nL,H',⟨by have:=FT.out;have:=vJ.out;have:=zN.out;have:=ZM.out;have:=HK5.out;have:=HJ51.out;omega⟩,⟨by (with_reducible repeat first | apply Kd.cK | apply Kd.cJ | apply Kd.cC);exact Kd.cN (Kd.dD (p:=⟨go64,((gV) : Int).toNat,none⟩) (Kd.eC jF.out GG64.out (by decide)) (fun _ hk => hk.2) (.int .u8 (Go.bits .xor .u8 (rd dC (gV)) t204))) (fun _ hk => hk.1)⟩,⟨eQ HQ68.out⟩,⟨by (with_reducible repeat first | apply aD | apply aH | apply aE);refine bF ?_ (by have h_:=Kd.jE bD.out bP.out (by decide);intro e_;exact h_ (by rw [e_];rfl)) _;(with_reducible repeat first | apply aD | apply aH | apply aE);exact bP.out⟩,⟨by (with_reducible repeat first | apply aD | apply aH | apply aE);refine bF ?_ (by have h_:=Kd.jE bD.out dZ.out (by decide);intro e_;exact h_ (by rw [e_];rfl)) _;(with_reducible repeat first | apply aD | apply aH | apply aE);exact dZ.out⟩,⟨by repeat (first | (with_reducible first | exact HK.out | apply Kept.alloc | apply Kept.drewN | apply Kept.drew | refine Kept.setCell ?_ HMgo64.out _ | refine Kept.setCell ?_ (.inr mB.out) _ | refine Kept.setCell ?_ (.inr nV.out) _) | exact HK.out)⟩,⟨jU HB GB64 nJ oX⟩⟩
                    ·rw [if_neg c61] at H
                     exact absurd H (by simp)
                   ·rw [if_neg c60] at H
                    exact absurd H (by simp)
                  ·replace c58:=Bool.eq_false_iff.mpr c58
                   subst c58;have H1 : (aI.l3 kj51 oY lH (iJ.length : Int) (wrap64 (lY + 1)) aN aJ dC) = some (r1,r2,r3,r4):=by rw [if_neg (show ¬ (false = true) by decide)] at H;exact H
                   clear H;have H:=H1;clear H1;have H':=aA.mk H;clear H
                   go_wp2
                   go_roundg kj51
                   case measure => have:=FT.out;have:=vJ.out;have:=zN.out;have:=ZM.out;have:=HK5.out;have:=HJ51.out;omega
                   case rel => exact ⟨(wrap64 (lY + 1)),(dC),(dR),nL,H',⟨by have:=FT.out;have:=vJ.out;have:=zN.out;have:=ZM.out;have:=HK5.out;have:=HJ51.out;omega⟩,⟨eQ jF.out⟩,⟨eQ bD.out⟩,⟨gM bP.out⟩,⟨gM dZ.out⟩,⟨by repeat (first | (with_reducible first | exact HK.out | apply Kept.alloc | apply Kept.drewN | apply Kept.drew | refine Kept.setCell ?_ (.inr mB.out) _ | refine Kept.setCell ?_ (.inr nV.out) _) | exact HK.out)⟩,⟨cR HB nJ oX⟩⟩
             ·rw [if_neg c46] at H
              have aEz : decide (lY < aN) = false:=decide_eq_false c46;clear c46
              by_cases c69 : oY.length < 17592186044416
              ·rw [if_pos c69] at H
               have LMc69:=aA.mk c69;clear c69;obtain ⟨y198,hy198⟩ : ∃ y_ : List Int,y_ = (oY ++ [lH]):=⟨_,rfl⟩
               replace H : (aI.l0 k4 y198 (wrap64 (lH + 1)) aN aJ mD) = some (r1,r2,r3,r4):=by first | (rw [hy198];with_reducible exact H) | (have H2_:=(Option.bind_some _ _).symm.trans H;rw [hy198];with_reducible exact H2_) | (have H2_:=(Option.bind_some _ _).symm.trans H;with_reducible exact H2_) | with_reducible exact H | (rw [hy198];exact H) | exact H
               have Ny198:=aA.mk hy198;clear hy198;have H':=aA.mk H;clear H;have aMw:=kW.out;have aMp:=kV.out;have aLa:=bO bP 0 (.int .i64 aN) rfl;have aKZ:=bO bP 1 (.int .i64 aJ) rfl;have aKY:=bO bP 2 dR rfl;have aKF:=aC bP.out 0;have aKE:=aC bP.out 1;have aKD:=aC bP.out 2;go_wp2_with (first | ((with_reducible refine rH (b:=.append) (xs:=#[.tmp 118,.tmp 120]) rfl ?_);at_builtin;refine Kd.aBk (Kd.int .i64) (w0:=w0) w0.heap.size rfl (.tmp 118) (.tmp 120) 37 3 (.int .i64 0) 8 rfl Try.underlying37 aPE rfl (by decide) (by omega) u4 oY lH [.int .i64 lH] (fun k_ => (P0_2_ k_ ∨ w.heap.size≤k_)) (fun _ => False) rfl rfl ?aP (fun _ hk => hk.elim) ?aF ?aO ?aB ?aS ?aL ?_;(case aP => exact rfl);(case aB => exact (cR HB nJ oX));(case aF => exact (fun k_ hk => (.inr (Nat.le_trans (by first | exact HK.out.1 | exact (show Kept w _ (fun k_ => P0_2_ k_) from by repeat (first | (with_reducible first | exact HK.out | apply Kept.alloc | apply Kept.drewN | apply Kept.drew | refine Kept.setCell ?_ (.inr mB.out) _ | refine Kept.setCell ?_ (.inr nV.out) _) | exact HK.out)).1) hk))));(case aO => exact (eQ jF.out));(case aS => exact (bU (cR HB nJ oX)));(case aL => have:=LMc69.out;omega);intro bAq w72 ho hb hg hat;rw [← Ny198.out] at ho;have tN:=aA.mk (Kd.AD (eQ bD.out) (Kd.xQ (eQ jF.out)) (by decide) hg);have tM:=aA.mk (dJ (cH bP) hg (Kd.jE jF.out bP.out (by decide)));have LN:=aA.mk (dJ (cH dZ) hg (Kd.jE jF.out dZ.out (by decide)));have TY:=aA.mk (hb);have TX:=aA.mk (Kept.aAo (S:=(fun k_ => P0_2_ k_)) hg (by repeat (first | (with_reducible first | exact HK.out | apply Kept.alloc | apply Kept.drewN | apply Kept.drew | refine Kept.setCell ?_ (.inr mB.out) _ | refine Kept.setCell ?_ (.inr nV.out) _) | exact HK.out)) (fun k_ e_ => (jF.out.1 k_ e_)));have n5_:=aA.mk (ho);clear bD bP;clear dZ HB;clear HK jF;have bD:=tN;have bP:=tM;have dZ:=LN;have HB:=TY;have HK:=TX;have aRR:=n5_;clear tN tM LN TY TX n5_;clear ho hb hg hat))
               go_roundg k4
               case measure => have:=FT.out;have:=vJ.out;have:=zN.out;have:=ZM.out;omega
               case rel => exact ⟨(y198),(wrap64 (lH + 1)),(mD),(dR),nL,H',⟨by have:=FT.out;have:=vJ.out;have:=zN.out;have:=ZM.out;omega⟩,⟨eQ aRR.out⟩,⟨eQ bD.out⟩,⟨gM bP.out⟩,⟨gM dZ.out⟩,⟨by repeat (first | (with_reducible first | exact HK.out | apply Kept.alloc | apply Kept.drewN | apply Kept.drew | refine Kept.setCell ?_ (.inr mB.out) _ | refine Kept.setCell ?_ (.inr nV.out) _) | exact HK.out)⟩,⟨cR HB nJ oX⟩⟩
              ·rw [if_neg c69] at H
               exact absurd H (by simp)
      ·rw [if_neg c9] at H
       have KS : decide (cX < aN) = false:=decide_eq_false c9;clear c9;have H':=aA.mk H;clear H;have aQk:=kW.out;have aPM:=kV.out;have aUT:=bO bP 0 (.int .i64 aN) rfl;have aUS:=bO bP 1 (.int .i64 aJ) rfl;have aUR:=bO bP 2 dR rfl;have aTF:=aC bP.out 0;have aTE:=aC bP.out 1;have aTD:=aC bP.out 2
       go_wp2
       go_roundg k2
       case measure => have:=FT.out;have:=vJ.out;omega
       case rel => exact ⟨(oY),(wrap64 (lH + 1)),(gU),(dR),nL,H',⟨by have:=FT.out;have:=vJ.out;omega⟩,⟨eQ jF.out⟩,⟨eQ bD.out⟩,⟨gM bP.out⟩,⟨gM dZ.out⟩,⟨by repeat (first | (with_reducible first | exact HK.out | apply Kept.alloc | apply Kept.drewN | apply Kept.drew | refine Kept.setCell ?_ (.inr mB.out) _ | refine Kept.setCell ?_ (.inr nV.out) _) | exact HK.out)⟩,⟨cR HB nJ oX⟩⟩
   ·rw [if_neg c5] at H
    have rK : decide (lH < aJ) = false:=decide_eq_false c5;clear c5;simp only [Option.some.injEq,Prod.mk.injEq] at H;obtain ⟨rfl,rfl,rfl,rfl⟩:=H;have aQj:=kW.out;have aPL:=kV.out;have aUN:=bO bP 0 (.int .i64 aN) rfl;have aUM:=bO bP 1 (.int .i64 aJ) rfl;have aUL:=bO bP 2 dR rfl;have aTz:=aC bP.out 0;have aTy:=aC bP.out 1;have aTx:=aC bP.out 2;have aUK:=bO dZ 0 (.int .i64 0) rfl;have aUJ:=bO dZ 1 (.int .i64 0) rfl;have aUI:=bO dZ 2 (.slice none 0 0) rfl;have aTw:=aC dZ.out 0;have aTv:=aC dZ.out 1;have aTu:=aC dZ.out 2;obtain ⟨aOS,aOp,eo78⟩:=Kd.cM bD.out;subst eo78
    go_wp2
    refine bodyPost_ret (dE rfl _ _ vW 24 #[.int .i64 aN,.int .i64 aJ,.slice aOS sB.length aOp] (0,0) _ rfl (by (with_reducible repeat first | apply aD | apply aH | apply aE);refine bA (cs:=#[.int .i64 aN,.int .i64 aJ,.slice none 0 0]) ?_ 2 _ rfl;(with_reducible repeat first | apply aD | apply aH | apply aE);refine bA (cs:=#[.int .i64 aN,.int .i64 0,.slice none 0 0]) ?_ 1 _ rfl;(with_reducible repeat first | apply aD | apply aH | apply aE);refine bA (cs:=#[.int .i64 0,.int .i64 0,.slice none 0 0]) ?_ 0 _ rfl;(with_reducible repeat first | apply aD | apply aH | apply aE);exact dZ.out) Try.underlying24 rfl (by kernel_rfl)) rfl ?_;exact ⟨_,_,uB,by (with_reducible repeat first | apply Kd.cK | apply Kd.cJ | apply Kd.cC);exact Kd.cN (Kd.dD (p:=⟨vW,2,none⟩) (Kd.dD (p:=⟨vW,1,none⟩) (Kd.dD (p:=⟨vW,0,none⟩) (Kd.eC bD.out dZ.out (by decide)) (fun _ hk => hk.2) (.int .i64 aN)) (fun _ hk => hk.2) (.int .i64 aJ)) (fun _ hk => hk.2) (.slice aOS sB.length aOp)) (fun _ hk => hk.1),by (with_reducible repeat first | apply Kd.cK | apply Kd.cJ | apply Kd.cC);exact Kd.cN (Kd.dD (p:=⟨vW,2,none⟩) (Kd.dD (p:=⟨vW,1,none⟩) (Kd.dD (p:=⟨vW,0,none⟩) (Kd.eC jF.out dZ.out (by decide)) (fun _ hk => hk.2) (.int .i64 aN)) (fun _ hk => hk.2) (.int .i64 aJ)) (fun _ hk => hk.2) (.slice aOS sB.length aOp)) (fun _ hk => hk.1),cR HB nJ oX,by repeat (first | (with_reducible first | exact HK.out | apply Kept.alloc | apply Kept.drewN | apply Kept.drew | refine Kept.setCell ?_ (.inr mB.out) _ | refine Kept.setCell ?_ (.inr nV.out) _) | exact HK.out)⟩
end Go.Proofs.Yteofcbkjhdadpaa.Pr
