import Derived.Test.YteofcbkjhdadpaaCBuildChecksx0
import Derived.Test.YteofcbkjhdadpaaCBuildChecksx2
import Derived.Test.YteofcbkjhdadpaaCBuildChecksq
set_option maxHeartbeats 8000000
set_option maxRecDepth 100000
set_option linter.unusedSimpArgs false
set_option linter.unusedVariables false
namespace Go.Proofs.Yteofcbkjhdadpaa.Pr
open Go.RowKit Go.Proofs.aH.bJ Go.Proofs.aH.eI Go.Proofs.aH.fW
attribute [local go_sem] iN iL kP kO gK gJ iM iK   -- for this text's walks alone
mutual
def aM.l0 : Nat→List Int→Int→Int→Int→List Int→Option (Int×Int×List Int×List Int)
 | 0,_,_,_,_,_ => none
 | k + 1,x4,x5,iO,fD,iA => if x5 < fD then (aM.l1 k x4 x5 (x4.length : Int) (x4.length : Int) iO fD iA) else (some (iO,fD,iA,x4))
def aM.l1 : Nat→List Int→Int→Int→Int→Int→Int→List Int→Option (Int×Int×List Int×List Int)
 | 0,_,_,_,_,_,_,_ => none
 | k + 1,x4,x5,x6,x7,iO,fD,iA => if x7 < iO then ((cF.f iO fD iA x7 x5).bind fun t190 => (if t190 = 0 then (aM.l1 k x4 x5 x6 (wrap64 (x7 + 1)) iO fD iA) else ((iQ.f t190).bind fun aOu => (aM.l2 k x4 x5 x6 x7 aOu.1 0 iO fD iA)))) else (aM.l0 k x4 (wrap64 (x5 + 1)) iO fD iA)
def aM.l2 : Nat→List Int→Int→Int→Int→Int→Int→Int→Int→List Int→Option (Int×Int×List Int×List Int)
 | 0,_,_,_,_,_,_,_,_,_ => none
 | k + 1,x4,x5,x6,x7,x9,IX,iO,fD,iA => if IX < fD then ((cF.f iO fD iA x6 IX).bind fun t193 => ((cF.f iO fD iA x7 IX).bind fun t194 => (if 0≤(wrap64 ((wrap64 (x7 * fD)) + IX)) then (if (wrap64 ((wrap64 (x7 * fD)) + IX)) < (iA.length : Int) then ((dD.f x9 t194).bind fun t196 => (if 0≤(wrap64 ((wrap64 (x6 * fD)) + IX)) then (if (wrap64 ((wrap64 (x6 * fD)) + IX)) < (iA.length : Int) then (aM.l2 k x4 x5 x6 x7 x9 (wrap64 (IX + 1)) iO fD ((iA.set ((wrap64 ((wrap64 (x7 * fD)) + IX)) : Int).toNat t193).set ((wrap64 ((wrap64 (x6 * fD)) + IX)) : Int).toNat t196)) else (none)) else (none))) else (none)) else (none)))) else (aM.l3 k x4 x5 x6 0 iO fD iA)
def aM.l3 : Nat→List Int→Int→Int→Int→Int→Int→List Int→Option (Int×Int×List Int×List Int)
 | 0,_,_,_,_,_,_,_ => none
 | k + 1,x4,x5,x6,XS,iO,fD,iA => if XS < iO then ((cF.f iO fD iA XS x5).bind fun t201 => (aM.l4 k x4 x5 x6 XS t201 0 iO fD iA)) else (if x4.length < 17592186044416 then (aM.l0 k (x4 ++ [x5]) (wrap64 (x5 + 1)) iO fD iA) else (none))
def aM.l4 : Nat→List Int→Int→Int→Int→Int→Int→Int→Int→List Int→Option (Int×Int×List Int×List Int)
 | 0,_,_,_,_,_,_,_,_,_ => none
 | k + 1,x4,x5,x6,XS,x15,x16,iO,fD,iA => if x16 < fD then (aM.j5 k x4 x5 x6 XS x15 x16 (XS != x6) iO fD iA) else (aM.j5 k x4 x5 x6 XS x15 x16 false iO fD iA)
def aM.j5 : Nat→List Int→Int→Int→Int→Int→Int→Bool→Int→Int→List Int→Option (Int×Int×List Int×List Int)
 | 0,_,_,_,_,_,_,_,_,_,_ => none
 | k + 1,x4,x5,x6,XS,x15,x16,x97,iO,fD,iA => if x97 = true then (if 0≤(wrap64 ((wrap64 (XS * fD)) + x16)) then (if (wrap64 ((wrap64 (XS * fD)) + x16)) < (iA.length : Int) then ((cF.f iO fD iA x6 x16).bind fun t203 => ((dD.f x15 t203).bind fun t204 => (aM.l4 k x4 x5 x6 XS x15 (wrap64 (x16 + 1)) iO fD (iA.set ((wrap64 ((wrap64 (XS * fD)) + x16)) : Int).toNat (Go.bits .xor .u8 (rd iA (wrap64 ((wrap64 (XS * fD)) + x16))) t204))))) else (none)) else (none)) else (aM.l3 k x4 x5 x6 (wrap64 (XS + 1)) iO fD iA)
end
def aM.f (k : Nat) (aK : Int) (aI : Int) (aQ : List Int) : Option (Int×Int×List Int×List Int):=aM.l0 k ([] : List Int) 0 aK aI aQ
def aM.T15 : Bool×List (List Nat×List Nat):=(true,[([],[]),([],[]),([],[]),([0,1,2],[0,1,2]),([],[]),([],[]),([],[]),([4,5,6,3],[4,5,6]),([3,7,0,1,2,3],[3]),([7,8,0,1,2,3,4,5,6,7,8],[7])])
def aM.B15 : List Nat:=[0,0,0,7,0,0,0,127,255,511]
theorem aM.aVJ : rV .any (opsOf Try.f86 15) = aM.T15:=by kernel_rfl
theorem aM.aUV : nB aM.T15.2 aM.B15 = true:=by kernel_rfl
def aM.T17 : Bool×List (List Nat×List Nat):=(true,[([],[]),([0],[0]),([],[]),([],[]),([3],[3]),([2,4],[2,4]),([],[]),([5,6],[5,6]),([],[]),([],[]),([8,9],[8,9]),([1,7,0,1,2,3,4,5,6,7,8,9,10],[1,7]),([11,10,10,0,1,2,3,4,5,6,7,8,9,10],[10,11])])
def aM.B17 : List Nat:=[0,1,0,0,8,28,0,124,0,0,768,2047,4095]
theorem aM.aVI : rV .any (opsOf Try.f86 17) = aM.T17:=by kernel_rfl
theorem aM.aUU : nB aM.T17.2 aM.B17 = true:=by kernel_rfl
def aM.T25 : Bool×List (List Nat×List Nat):=(true,[([],[]),([0],[0]),([],[]),([],[]),([3],[3]),([2,4],[2,4]),([],[]),([5,6],[5,6]),([1,7],[1,7]),([8],[8]),([],[]),([],[]),([],[]),([],[]),([11,12,13],[11,12,13]),([10,14,14],[10,14]),([9,15],[9,15]),([1,7,0,1,2,3,4,5,6,7,8,9,10,11,12,13,14,15,16],[1,7]),([17,16,15,0,1,2,3,4,5,6,7,8,9,10,11,12,13,14,15,16],[16,17])])
def aM.B25 : List Nat:=[0,1,0,0,8,28,0,124,255,511,0,0,0,0,14336,31744,65535,131071,262143]
theorem aM.aVH : rV .any (opsOf Try.f86 25) = aM.T25:=by kernel_rfl
theorem aM.aUT : nB aM.T25.2 aM.B25 = true:=by kernel_rfl
theorem aM.calls (k : Nat) (aK : Int) (aI : Int) (P0_2_ : Nat→Prop) (aGB : Value) (aQ : List Int) (r1 : Int) (r2 : Int) (r3 : List Int) (r4 : List Int) (w0 w : World) (hB : Below w0.heap.size w0 w) (ho0_2 : Kd.R (Kd.int .u8) 5 w w0.heap.size P0_2_ aGB aQ) (h : aM.f k aK aI aQ = some (r1,r2,r3,r4)) :
  Calls Try.prog 86 #[.agg #[.int .i64 aK,.int .i64 aI,aGB]] w fun e w' => ∃ uT v3_ : Value,e = .returned (.tuple #[.agg #[.int .i64 r1,.int .i64 r2,uT],v3_])∧Kd.R (Kd.int .u8) 5 w' w0.heap.size (fun k_ => (P0_2_ k_ ∨ w.heap.size≤k_)) uT r3∧Kd.R (Kd.int .i64) 3 w' w0.heap.size (fun k_ => (P0_2_ k_ ∨ w.heap.size≤k_)) v3_ r4∧Below w0.heap.size w0 w'∧Kept w w' (fun k_ => P0_2_ k_):=by
 have zL:=Try.underlying24;have aCg:=aA.mk (show Kd.R (Kd.int .u8) 5 w w0.heap.size (fun k_ => (P0_2_ k_ ∨ w.heap.size≤k_)) aGB aQ from Kd.cC ho0_2 (fun k_ hk => (.inl hk)));have HK:=aA.mk (Kept.refl w (fun k_ => P0_2_ k_));have HW0:=aA.mk hB.size;have HB:=aA.mk hB;clear hB;have H : (aM.l0 k ([] : List Int) 0 aK aI aQ) = some (r1,r2,r3,r4):=h;clear h;have H':=aA.mk H;clear H;obtain ⟨Ao2,co2,eo2⟩:=Kd.cK aCg.out;subst eo2;go_enter Try.func86,Try.ntmps86;go_wp2_with (first | ((with_reducible refine bK (N:=1) rfl ?_);refine lS (N:=1) (cs:=#[.int .i64 aK,.int .i64 aI,.slice Ao2 aQ.length co2]) (t:=24) ?_;intro zB hg w3 hbox hb;replace aCg:=aA.mk (Kd.bV (dB aCg.out) hb);have cE:=aA.mk (hbox);have pS:=aA.mk ((by rw [hg];exact (by first | exact HK.out.1 | exact (show Kept w _ (fun k_ => P0_2_ k_) from by repeat (first | (with_reducible first | exact HK.out | apply Kept.alloc | apply Kept.drewN | apply Kept.drew) | exact HK.out)).1) : w.heap.size≤zB));replace HK:=aA.mk (Kept.below (S:=(fun k_ => P0_2_ k_)) (by repeat (first | (with_reducible first | exact HK.out | apply Kept.alloc | apply Kept.drewN | apply Kept.drew) | exact HK.out)) hb);have qT:=aA.mk (eP hg (cX HB) : w0.heap.size≤zB);replace HB:=aA.mk (aN (cX HB) hb);clear hb hbox hg) | ((with_reducible refine bK (N:=2) rfl ?_);refine lS (N:=2) (cs:=#[.int .i64 0,.int .i64 0,.slice none 0 0]) (t:=24) ?_;intro BU hg w4 hbox hb;replace aCg:=aA.mk (Kd.bV (dB aCg.out) hb);have fI:=aA.mk (hbox);have rL:=aA.mk ((by rw [hg];exact (by first | exact HK.out.1 | exact (show Kept w _ (fun k_ => P0_2_ k_) from by repeat (first | (with_reducible first | exact HK.out | apply Kept.alloc | apply Kept.drewN | apply Kept.drew | refine Kept.setCell ?_ (.inr pS.out) _) | exact HK.out)).1) : w.heap.size≤BU));replace HK:=aA.mk (Kept.below (S:=(fun k_ => P0_2_ k_)) (by repeat (first | (with_reducible first | exact HK.out | apply Kept.alloc | apply Kept.drewN | apply Kept.drew | refine Kept.setCell ?_ (.inr pS.out) _) | exact HK.out)) hb);have sP:=aA.mk (eP hg (cL HB qT) : w0.heap.size≤BU);replace HB:=aA.mk (aN (cL HB qT) hb);have oY:=aA.mk (sU hg (cH cE));have oX:=aA.mk (sV hg (cH cE));replace cE:=aA.mk (aJ (cH cE) hb);clear hb hbox hg))
 go_loopg [4,5] k (fun kq v4 v5 w' => ∃ (iI : List Int) (iH : Int) (xA : List Int) (eY : Value),v5 = .int .i64 iH∧aA (aM.l0 kq iI iH aK aI xA = some (r1,r2,r3,r4))∧aA (kq≤k)∧aA (Kd.R (Kd.int .i64) 3 w' w0.heap.size (fun k_ => (P0_2_ k_ ∨ w.heap.size≤k_)) v4 iI)∧aA (Kd.R (Kd.int .u8) 5 w' w0.heap.size (fun k_ => (P0_2_ k_ ∨ w.heap.size≤k_)) eY xA)∧aA (w'.heap[zB]? = some (.cells #[.int .i64 aK,.int .i64 aI,eY] 24 (0,0)))∧aA (w'.heap[BU]? = some (.cells #[.int .i64 0,.int .i64 0,(.slice none 0 0)] 24 (0,0)))∧aA (Kept w w' (fun k_ => P0_2_ k_))∧aA (Below w0.heap.size w0 w'))
 case atStart => exact ⟨(([] : List Int)),(0),(aQ),(.slice Ao2 aQ.length co2),mU,H',⟨Nat.le_refl _⟩,⟨IW⟩,⟨dB aCg.out⟩,⟨gP cE.out⟩,⟨gP fI.out⟩,⟨by repeat (first | (with_reducible first | exact HK.out | apply Kept.alloc | apply Kept.drewN | apply Kept.drew | refine Kept.setCell ?_ (.inr pS.out) _ | refine Kept.setCell ?_ (.inr rL.out) _) | exact HK.out)⟩,⟨dA HB qT sP⟩⟩
 case round =>
  clear H';(try clear p2);obtain ⟨iI,iH,xA,eY,rfl,HA,yS,iW,bO,cE,fI,HK,HB⟩:=hrel
  cases gk with
  | zero => exact absurd HA.out (by simp [aM.l0])
  | succ k1 =>
   have H:=HA.out;clear HA;simp only [aM.l0] at H
   by_cases c5 : iH < aI
   ·rw [if_pos c5] at H
    have JU : decide (iH < aI) = true:=decide_eq_true c5;clear c5;have H':=aA.mk H;clear H;have aUA:=oY.out;have aUz:=oX.out;have jN:=bL cE 0 (.int .i64 aK) rfl;have jM:=bL cE 1 (.int .i64 aI) rfl;have jL:=bL cE 2 eY rfl;have jK:=aC cE.out 0;have jJ:=aC cE.out 1;have jI:=aC cE.out 2;obtain ⟨Ao8,co8,eo8⟩:=Kd.cK iW.out;subst eo8
    go_wp2
    go_loopg [4,7] k1 (fun kq v4 v7 w' => ∃ (sQ : List Int) (iG : Int) (kG : List Int) (eY : Value),v7 = .int .i64 iG∧aA (aM.l1 kq sQ iH (iI.length : Int) iG aK aI kG = some (r1,r2,r3,r4))∧aA (kq≤k1)∧aA (Kd.R (Kd.int .i64) 3 w' w0.heap.size (fun k_ => (P0_2_ k_ ∨ w.heap.size≤k_)) v4 sQ)∧aA (Kd.R (Kd.int .u8) 5 w' w0.heap.size (fun k_ => (P0_2_ k_ ∨ w.heap.size≤k_)) eY kG)∧aA (w'.heap[zB]? = some (.cells #[.int .i64 aK,.int .i64 aI,eY] 24 (0,0)))∧aA (w'.heap[BU]? = some (.cells #[.int .i64 0,.int .i64 0,(.slice none 0 0)] 24 (0,0)))∧aA (Kept w w' (fun k_ => P0_2_ k_))∧aA (Below w0.heap.size w0 w'))
    case atStart => exact ⟨(iI),((iI.length : Int)),(xA),(eY),mU,H',⟨Nat.le_refl _⟩,⟨dB iW.out⟩,⟨dB bO.out⟩,⟨gP cE.out⟩,⟨gP fI.out⟩,⟨by repeat (first | (with_reducible first | exact HK.out | apply Kept.alloc | apply Kept.drewN | apply Kept.drew | refine Kept.setCell ?_ (.inr pS.out) _ | refine Kept.setCell ?_ (.inr rL.out) _) | exact HK.out)⟩,⟨dA HB qT sP⟩⟩
    case round =>
     clear H';(try clear p2);(try clear c5);(try clear JU);(try clear c6);(try clear c8);(try clear jN);(try clear jM);(try clear jL);(try clear jK);(try clear jJ);(try clear jI);(try clear p2);obtain ⟨sQ,iG,kG,eY,rfl,HA,zU,iW,bO,cE,fI,HK,HB⟩:=hrel
     cases gk with
     | zero => exact absurd HA.out (by simp [aM.l1])
     | succ k2 =>
      have H:=HA.out;clear HA;simp only [aM.l1] at H
      by_cases c9 : iG < aK
      ·rw [if_pos c9] at H
       have QV : decide (iG < aK) = true:=decide_eq_true c9;clear c9;replace H:=Option.bind_eq_some_iff.mp H;obtain ⟨t190,aRQ,H⟩:=H;replace H : (if t190 = 0 then (aM.l1 k2 sQ iH (iI.length : Int) (wrap64 (iG + 1)) aK aI kG) else ((iQ.f t190).bind fun aOu => (aM.l2 k2 sQ iH (iI.length : Int) iG aOu.1 0 aK aI kG))) = some (r1,r2,r3,r4):=H;have A10:=aA.mk aRQ;clear aRQ
       by_cases DR : t190 = 0
       ·rw [if_pos DR] at H
        have MP : (t190 == 0) = true:=beq_iff_eq.mpr DR;have aFR : (t190 != 0) = false:=bne_eq_false_iff_eq.mpr DR;clear DR;have H':=aA.mk H;clear H;have aNt:=oY.out;have aNo:=oX.out;have kW:=bL cE 0 (.int .i64 aK) rfl;have kV:=bL cE 1 (.int .i64 aI) rfl;have kU:=bL cE 2 eY rfl;have kT:=aC cE.out 0;have kS:=aC cE.out 1;have kR:=aC cE.out 2;obtain ⟨sN,qF,eo14⟩:=Kd.cK bO.out;subst eo14;go_wp2_with (first | ((with_reducible refine bE (f:=25) rfl ?_);refine cO (some 35) rfl rfl Try.func25 (by kernel_rfl) rfl #[.agg #[.int .i64 aK,.int .i64 aI,.slice sN kG.length qF],.int .i64 iG,.int .i64 iH] rfl lU ?_;(with_reducible refine (cF.calls aK aI _ _ kG iG iH t190 _ ?side1 ?side2 A10.out).mono ?_);(case side1 => exact nY ((Kd.bQ bO.out).2.2));(case side2 => exact (Kd.bQ bO.out).2.1);rintro e w15 ⟨rfl,hb⟩;refine ⟨_,rfl,?_⟩;replace iW:=aA.mk (Kd.bV (dB iW.out) hb);replace bO:=aA.mk (Kd.bV (dB bO.out) hb);replace cE:=aA.mk (aJ (cH cE) hb);replace fI:=aA.mk (aJ (cH fI) hb);replace HK:=aA.mk (Kept.below (S:=(fun k_ => P0_2_ k_)) (by repeat (first | (with_reducible first | exact HK.out | apply Kept.alloc | apply Kept.drewN | apply Kept.drew | refine Kept.setCell ?_ (.inr pS.out) _ | refine Kept.setCell ?_ (.inr rL.out) _) | exact HK.out)) hb);replace HB:=aA.mk (aN (dA HB qT sP) hb);(try clear hb);(try clear hb2);(try clear hk);(try clear hi)))
        go_roundg k2
        case measure => have:=yS.out;have:=zU.out;omega
        case rel => exact ⟨(sQ),(wrap64 (iG + 1)),(kG),(.slice sN kG.length qF),mU,H',⟨by have:=yS.out;have:=zU.out;omega⟩,⟨dB iW.out⟩,⟨dB bO.out⟩,⟨gP cE.out⟩,⟨gP fI.out⟩,⟨by repeat (first | (with_reducible first | exact HK.out | apply Kept.alloc | apply Kept.drewN | apply Kept.drew | refine Kept.setCell ?_ (.inr pS.out) _ | refine Kept.setCell ?_ (.inr rL.out) _) | exact HK.out)⟩,⟨dA HB qT sP⟩⟩
       ·rw [if_neg DR] at H
        have MP : (t190 == 0) = false:=beq_eq_false_iff_ne.mpr DR;have aFR : (t190 != 0) = true:=bne_iff_ne.mpr DR;replace H:=Option.bind_eq_some_iff.mp H;obtain ⟨⟨t191,t192⟩,aGu,H⟩:=H;replace H : (aM.l2 k2 sQ iH (iI.length : Int) iG t191 0 aK aI kG) = some (r1,r2,r3,r4):=H;have A16:=aA.mk aGu;clear aGu;have H':=aA.mk H;clear H;have aSK:=oY.out;have aSs:=oX.out;have yP:=bL cE 0 (.int .i64 aK) rfl;have yO:=bL cE 1 (.int .i64 aI) rfl;have yN:=bL cE 2 eY rfl;have yG:=aC cE.out 0;have yF:=aC cE.out 1;have yE:=aC cE.out 2;obtain ⟨bAy,aYL,eo19⟩:=Kd.cK bO.out;subst eo19;go_wp2_with (first | ((with_reducible refine bE (f:=25) rfl ?_);refine cO (some 35) rfl rfl Try.func25 (by kernel_rfl) rfl #[.agg #[.int .i64 aK,.int .i64 aI,.slice bAy kG.length aYL],.int .i64 iG,.int .i64 iH] rfl lU ?_;(with_reducible refine (cF.calls aK aI _ _ kG iG iH t190 _ ?side1 ?side2 A10.out).mono ?_);(case side1 => exact nY ((Kd.bQ bO.out).2.2));(case side2 => exact (Kd.bQ bO.out).2.1);rintro e w20 ⟨rfl,hb⟩;refine ⟨_,rfl,?_⟩;replace iW:=aA.mk (Kd.bV (dB iW.out) hb);replace bO:=aA.mk (Kd.bV (dB bO.out) hb);replace cE:=aA.mk (aJ (cH cE) hb);replace fI:=aA.mk (aJ (cH fI) hb);replace HK:=aA.mk (Kept.below (S:=(fun k_ => P0_2_ k_)) (by repeat (first | (with_reducible first | exact HK.out | apply Kept.alloc | apply Kept.drewN | apply Kept.drew | refine Kept.setCell ?_ (.inr pS.out) _ | refine Kept.setCell ?_ (.inr rL.out) _) | exact HK.out)) hb);replace HB:=aA.mk (aN (dA HB qT sP) hb);(try clear hb);(try clear hb2);(try clear hk);(try clear hi)) | ((with_reducible refine bE (f:=46) rfl ?_);refine cO (some 40) rfl rfl Try.func46 (by kernel_rfl) rfl #[.int .u8 t190] rfl lU ?_;(with_reducible refine (iQ.calls t190 t191 t192 _ A16.out).mono ?_);rintro e w' ⟨rfl,⟨nd,rfl⟩⟩;refine ⟨_,rfl,?_⟩))
        go_loopg [11] k2 (fun kq v11 w' => ∃ (eA : Int) (dW : List Int) (eY : Value),v11 = .int .i64 eA∧aA (aM.l2 kq sQ iH (iI.length : Int) iG t191 eA aK aI dW = some (r1,r2,r3,r4))∧aA (kq≤k2)∧aA (Kd.R (Kd.int .i64) 3 w' w0.heap.size (fun k_ => (P0_2_ k_ ∨ w.heap.size≤k_)) u4 sQ)∧aA (Kd.R (Kd.int .u8) 5 w' w0.heap.size (fun k_ => (P0_2_ k_ ∨ w.heap.size≤k_)) eY dW)∧aA (w'.heap[zB]? = some (.cells #[.int .i64 aK,.int .i64 aI,eY] 24 (0,0)))∧aA (w'.heap[BU]? = some (.cells #[.int .i64 0,.int .i64 0,(.slice none 0 0)] 24 (0,0)))∧aA (Kept w w' (fun k_ => P0_2_ k_))∧aA (Below w0.heap.size w0 w'))
        case atStart => exact ⟨(0),(kG),(.slice bAy kG.length aYL),mU,H',⟨Nat.le_refl _⟩,⟨dB iW.out⟩,⟨dB bO.out⟩,⟨gP cE.out⟩,⟨gP fI.out⟩,⟨by repeat (first | (with_reducible first | exact HK.out | apply Kept.alloc | apply Kept.drewN | apply Kept.drew | refine Kept.setCell ?_ (.inr pS.out) _ | refine Kept.setCell ?_ (.inr rL.out) _) | exact HK.out)⟩,⟨dA HB qT sP⟩⟩
        case round =>
         clear H';(try clear c1);(try clear c2);(try clear p2);(try clear c4);(try clear c5);(try clear JU);(try clear c6);(try clear p6);(try clear c8);(try clear c9);(try clear QV);(try clear DR);(try clear MP);(try clear aFR);(try clear yR);(try clear IU);(try clear kW);(try clear kV);(try clear kU);(try clear yP);(try clear yO);(try clear yN);(try clear jN);(try clear jM);(try clear jL);(try clear kT);(try clear kS);(try clear kR);(try clear yG);(try clear yF);(try clear yE);(try clear jK);(try clear jJ);(try clear jI);(try clear p2);obtain ⟨eA,dW,eY,rfl,HA,OF,iW,bO,cE,fI,HK,HB⟩:=hrel
         cases gk with
         | zero => exact absurd HA.out (by simp [aM.l2])
         | succ k3 =>
          have H:=HA.out;clear HA;simp only [aM.l2] at H
          by_cases DQ : eA < aI
          ·rw [if_pos DQ] at H
           have ER : decide (eA < aI) = true:=decide_eq_true DQ;clear DQ;replace H:=Option.bind_eq_some_iff.mp H;obtain ⟨t193,bAQ,H⟩:=H;replace H : ((cF.f aK aI dW iG eA).bind fun t194 => (if 0≤(wrap64 ((wrap64 (iG * aI)) + eA)) then (if (wrap64 ((wrap64 (iG * aI)) + eA)) < (dW.length : Int) then ((dD.f t191 t194).bind fun t196 => (if 0≤(wrap64 ((wrap64 ((iI.length : Int) * aI)) + eA)) then (if (wrap64 ((wrap64 ((iI.length : Int) * aI)) + eA)) < (dW.length : Int) then (aM.l2 k3 sQ iH (iI.length : Int) iG t191 (wrap64 (eA + 1)) aK aI ((dW.set ((wrap64 ((wrap64 (iG * aI)) + eA)) : Int).toNat t193).set ((wrap64 ((wrap64 ((iI.length : Int) * aI)) + eA)) : Int).toNat t196)) else (none)) else (none))) else (none)) else (none))) = some (r1,r2,r3,r4):=H;have A22:=aA.mk bAQ;clear bAQ;replace H:=Option.bind_eq_some_iff.mp H;obtain ⟨t194,aPf,H⟩:=H;replace H : (if 0≤(wrap64 ((wrap64 (iG * aI)) + eA)) then (if (wrap64 ((wrap64 (iG * aI)) + eA)) < (dW.length : Int) then ((dD.f t191 t194).bind fun t196 => (if 0≤(wrap64 ((wrap64 ((iI.length : Int) * aI)) + eA)) then (if (wrap64 ((wrap64 ((iI.length : Int) * aI)) + eA)) < (dW.length : Int) then (aM.l2 k3 sQ iH (iI.length : Int) iG t191 (wrap64 (eA + 1)) aK aI ((dW.set ((wrap64 ((wrap64 (iG * aI)) + eA)) : Int).toNat t193).set ((wrap64 ((wrap64 ((iI.length : Int) * aI)) + eA)) : Int).toNat t196)) else (none)) else (none))) else (none)) else (none)) = some (r1,r2,r3,r4):=H
           have A23:=aA.mk aPf;clear aPf;obtain ⟨NJ,aFz⟩ : ∃ j_ : Int,(wrap64 ((wrap64 (iG * aI)) + eA)) = j_:=⟨_,rfl⟩
           replace H : (if 0≤(NJ) then (if (NJ) < (dW.length : Int) then ((dD.f t191 t194).bind fun t196 => (if 0≤(wrap64 ((wrap64 ((iI.length : Int) * aI)) + eA)) then (if (wrap64 ((wrap64 ((iI.length : Int) * aI)) + eA)) < (dW.length : Int) then (aM.l2 k3 sQ iH (iI.length : Int) iG t191 (wrap64 (eA + 1)) aK aI ((dW.set ((NJ) : Int).toNat t193).set ((wrap64 ((wrap64 ((iI.length : Int) * aI)) + eA)) : Int).toNat t196)) else (none)) else (none))) else (none)) else (none)) = some (r1,r2,r3,r4):=by first | (rw [aFz] at H;exact H) | (simp only [aFz] at H ⊢;exact H)
           (try rw [aFz] at A22);(try rw [aFz] at A23);have bFj : (IntKind.i64.wrap ((wrap64 (iG * aI)) + eA)) = NJ:=(bF _).trans aFz
           by_cases c25 : 0≤(NJ)
           ·rw [if_pos c25] at H
            have UG : decide (0≤(NJ)) = true:=decide_eq_true c25;clear c25
            by_cases c26 : (NJ) < (dW.length : Int)
            ·rw [if_pos c26] at H
             have JW : decide ((NJ) < (dW.length : Int)) = true:=decide_eq_true c26;clear c26;obtain ⟨y195,hy195⟩ : ∃ y_ : List Int,y_ = (dW.set ((NJ) : Int).toNat t193):=⟨_,rfl⟩
             replace H : ((dD.f t191 t194).bind fun t196 => (if 0≤(wrap64 ((wrap64 ((iI.length : Int) * aI)) + eA)) then (if (wrap64 ((wrap64 ((iI.length : Int) * aI)) + eA)) < (dW.length : Int) then (aM.l2 k3 sQ iH (iI.length : Int) iG t191 (wrap64 (eA + 1)) aK aI (y195.set ((wrap64 ((wrap64 ((iI.length : Int) * aI)) + eA)) : Int).toNat t196)) else (none)) else (none))) = some (r1,r2,r3,r4):=by first | (rw [hy195];with_reducible exact H) | (have H2_:=(Option.bind_some _ _).symm.trans H;rw [hy195];with_reducible exact H2_) | (have H2_:=(Option.bind_some _ _).symm.trans H;with_reducible exact H2_) | with_reducible exact H | (rw [hy195];exact H) | exact H
             have Ny195:=aA.mk hy195;clear hy195;replace H:=Option.bind_eq_some_iff.mp H;obtain ⟨t196,bAN,H⟩:=H;replace H : (if 0≤(wrap64 ((wrap64 ((iI.length : Int) * aI)) + eA)) then (if (wrap64 ((wrap64 ((iI.length : Int) * aI)) + eA)) < (dW.length : Int) then (aM.l2 k3 sQ iH (iI.length : Int) iG t191 (wrap64 (eA + 1)) aK aI (y195.set ((wrap64 ((wrap64 ((iI.length : Int) * aI)) + eA)) : Int).toNat t196)) else (none)) else (none)) = some (r1,r2,r3,r4):=H;have A28:=aA.mk bAN;clear bAN;obtain ⟨PZ,aBE⟩ : ∃ j_ : Int,(wrap64 ((wrap64 ((iI.length : Int) * aI)) + eA)) = j_:=⟨_,rfl⟩
             replace H : (if 0≤(PZ) then (if (PZ) < (dW.length : Int) then (aM.l2 k3 sQ iH (iI.length : Int) iG t191 (wrap64 (eA + 1)) aK aI (y195.set ((PZ) : Int).toNat t196)) else (none)) else (none)) = some (r1,r2,r3,r4):=by first | (rw [aBE] at H;exact H) | (simp only [aBE] at H ⊢;exact H)
             (try rw [aBE] at A22);(try rw [aBE] at A23);(try rw [aBE] at A28);have bFi : (IntKind.i64.wrap ((wrap64 ((iI.length : Int) * aI)) + eA)) = PZ:=(bF _).trans aBE
             by_cases RO : 0≤(PZ)
             ·rw [if_pos RO] at H
              have ZV : decide (0≤(PZ)) = true:=decide_eq_true RO;clear RO
              by_cases IT : (PZ) < (dW.length : Int)
              ·rw [if_pos IT] at H
               have UF : decide ((PZ) < (dW.length : Int)) = true:=decide_eq_true IT;clear IT;obtain ⟨y197,hy197⟩ : ∃ y_ : List Int,y_ = (y195.set ((PZ) : Int).toNat t196):=⟨_,rfl⟩
               replace H : (aM.l2 k3 sQ iH (iI.length : Int) iG t191 (wrap64 (eA + 1)) aK aI y197) = some (r1,r2,r3,r4):=by first | (rw [hy197];with_reducible exact H) | (have H2_:=(Option.bind_some _ _).symm.trans H;rw [hy197];with_reducible exact H2_) | (have H2_:=(Option.bind_some _ _).symm.trans H;with_reducible exact H2_) | with_reducible exact H | (rw [hy197];exact H) | exact H
               have Ny197:=aA.mk hy197;clear hy197;have H':=aA.mk H;clear H;have aFw:=oY.out;have aFt:=oX.out;have yM:=bL cE 0 (.int .i64 aK) rfl;have yL:=bL cE 1 (.int .i64 aI) rfl;have yK:=bL cE 2 eY rfl;have yD:=aC cE.out 0;have yC:=aC cE.out 1;have yB:=aC cE.out 2
               try go_wp2
               replace iW:=aA.mk (Kd.bP iW.out);replace bO:=aA.mk (Kd.bP bO.out);replace cE:=aA.mk (aG cE.out);replace fI:=aA.mk (aG fI.out);replace HK:=aA.mk (Kept.drew HK.out);replace HB:=aA.mk (eD HB.out);obtain ⟨aRO,aFK,eo36⟩:=Kd.cK bO.out
               (first | subst eo36 | (injection eo36 with f1_ f2_ f3_;have f4_:=f1_.symm;have f5_:=f3_.symm;clear f1_ f2_ f3_;subst f4_;subst f5_));refine qD (n:=10) (S:=fun w' => w'.cell? ⟨zB,0,none⟩ = some (.int .i64 aK)∧w'.cell? ⟨zB,1,none⟩ = some (.int .i64 aI)∧w'.cell? ⟨zB,2,none⟩ = some (.slice aRO dW.length aFK)) (ds:=[]) #[false,false,false,false,false,false,false,false,false,false] (by kernel_rfl) rfl rfl ⟨(bB cE.out 0).trans rfl,(bB cE.out 1).trans rfl,(bB cE.out 2).trans rfl⟩ (fun hHeld => ?_);refine jR aM.aVJ aM.aUV (fun HT_ HW_ => ?_);generalize wr.drew = w35 at iW bO cE fI HK HB hHeld ⊢;refine bZ (i:=1) (N:=some 50) (v:=?_) (a':=?_) (eB 10 2) rfl rfl (bM HT_.out (by kernel_rfl)) (fun _ _ _ h => h) (Or.inl ⟨by rfl,?_⟩) ?_ ?_;rotate_left
               ·intro w'
                go_simp;(with_reducible rfl)
               rotate_left
               ·simp only [Act.put,cT,cS,cU,bF,bG]
                rfl
               refine bZ (i:=2) (N:=some 51) (v:=?_) (a':=?_) (eB 10 6) rfl rfl (bM HT_.out (by kernel_rfl)) (fun _ _ _ h => h) (Or.inl ⟨by rfl,?_⟩) ?_ ?_;rotate_left
               ·intro w'
                go_simp;(with_reducible rfl)
               rotate_left
               ·simp only [Act.put,cT,cS,cU,bF,bG]
                rfl
               refine bZ (i:=5) (N:=some 54) (v:=?_) (a':=?_) (eB 10 38) rfl rfl (bM HT_.out (by kernel_rfl)) (fun _ _ _ h => h) (Or.inl ⟨by rfl,?_⟩) ?_ ?_;rotate_left
               ·intro w'
                go_simp;(with_reducible rfl)
               rotate_left
               ·simp only [Act.put,cT,cS,cU,bF,bG]
                rfl
               refine bZ (i:=6) (N:=some 55) (v:=?_) (a':=?_) (eB 10 102) rfl rfl (bM HT_.out (by kernel_rfl)) (fun _ _ _ h => h) (Or.inl ⟨by rfl,?_⟩) ?_ ?_;rotate_left
               ·intro w'
                go_simp;(with_reducible rfl)
               rotate_left
               ·simp only [Act.put,cT,cS,cU,bF,bG]
                rfl
               refine gN (i:=0) (N:=some 49) (v:=?_) (a':=?_) (eB 10 103) rfl rfl (dT HT_.out HW_.out (by kernel_rfl)) (fun _ _ _ h => h) (Or.inl ⟨by rfl,?_⟩) hHeld ?_ ?_;rotate_left
               ·rintro w' ⟨s0,s1,s2⟩
                go_simp;(with_reducible rfl)
               rotate_left
               ·simp only [Act.put,cT,cS,cU,bF,bG]
                rfl
               refine gN (i:=4) (N:=some 53) (v:=?_) (a':=?_) (eB 10 119) rfl rfl (dT HT_.out HW_.out (by kernel_rfl)) (fun _ _ _ h => h) (Or.inl ⟨by rfl,?_⟩) hHeld ?_ ?_;rotate_left
               ·rintro w' ⟨s0,s1,s2⟩
                go_simp;(with_reducible rfl)
               rotate_left
               ·simp only [Act.put,cT,cS,cU,bF,bG]
                rfl
               refine EK (i:=3) (N:=some 52) (eB 10 127) rfl rfl (jY HT_.out (by kernel_rfl)) (by decide) (fun K hK => ?_);refine DN Try.func25 (by kernel_rfl) rfl #[.agg #[.int .i64 aK,.int .i64 aI,.slice aRO dW.length aFK],.int .i64 (iI.length : Int),.int .i64 eA] (by rfl) rfl rfl lU ?_
               with_reducible refine (cF.calls aK aI _ _ dW (iI.length : Int) eA t193 _ ?side1 ?side2 A22.out).mono ?_
               (case side1 => exact nY ((Kd.bQ bO.out).2.2))
               (case side2 => exact (Kd.bQ bO.out).2.1);rintro e w37 ⟨rfl,hb⟩;refine ⟨_,rfl,?_⟩;replace iW:=aA.mk (Kd.bV (dB iW.out) hb);replace bO:=aA.mk (Kd.bV (dB bO.out) hb);replace cE:=aA.mk (aJ (cH cE) hb);replace fI:=aA.mk (aJ (cH fI) hb);replace HK:=aA.mk (Kept.below (S:=(fun k_ => P0_2_ k_)) (by repeat (first | (with_reducible first | exact HK.out | apply Kept.alloc | apply Kept.drewN | apply Kept.drew | refine Kept.setCell ?_ (.inr pS.out) _ | refine Kept.setCell ?_ (.inr rL.out) _) | exact HK.out)) hb);replace HB:=aA.mk (aN (dA HB qT sP) hb);(try clear hb);(try clear hb2);(try clear hk);(try clear hi);refine hK.out _ _ ⟨(bB cE.out 0).trans rfl,(bB cE.out 1).trans rfl,(bB cE.out 2).trans rfl⟩ (fun hHeld => ?_);clear hK K;refine qL (a':=?_) ?_ ?_;rotate_left
               ·show Act.put _ (some 52) _ = _
                simp only [Act.put,cT,cS,cU,bF,bG];rfl
               refine EK (i:=7) (N:=some 56) (eB 10 255) rfl rfl (jY HT_.out (by kernel_rfl)) (by decide) (fun K hK => ?_);refine DN Try.func25 (by kernel_rfl) rfl #[.agg #[.int .i64 aK,.int .i64 aI,.slice aRO dW.length aFK],.int .i64 iG,.int .i64 eA] (by rfl) rfl rfl lU ?_
               with_reducible refine (cF.calls aK aI _ _ dW iG eA t194 _ ?side1 ?side2 A23.out).mono ?_
               (case side1 => exact nY ((Kd.bQ bO.out).2.2))
               (case side2 => exact (Kd.bQ bO.out).2.1);rintro e w38 ⟨rfl,hb⟩;refine ⟨_,rfl,?_⟩;replace iW:=aA.mk (Kd.bV (dB iW.out) hb);replace bO:=aA.mk (Kd.bV (dB bO.out) hb);replace cE:=aA.mk (aJ (cH cE) hb);replace fI:=aA.mk (aJ (cH fI) hb);replace HK:=aA.mk (Kept.below (S:=(fun k_ => P0_2_ k_)) (by repeat (first | (with_reducible first | exact HK.out | apply Kept.alloc | apply Kept.drewN | apply Kept.drew | refine Kept.setCell ?_ (.inr pS.out) _ | refine Kept.setCell ?_ (.inr rL.out) _) | exact HK.out)) hb);replace HB:=aA.mk (aN (dA HB qT sP) hb);(try clear hb);(try clear hb2);(try clear hk);(try clear hi);refine hK.out _ _ ⟨(bB cE.out 0).trans rfl,(bB cE.out 1).trans rfl,(bB cE.out 2).trans rfl⟩ (fun hHeld => ?_);clear hK K;refine qL (a':=?_) ?_ ?_;rotate_left
               ·show Act.put _ (some 56) _ = _
                simp only [Act.put,cT,cS,cU,bF,bG];rfl
               refine bZ (i:=8) (N:=some 12) (v:=?_) (a':=?_) (eB 10 511) rfl rfl (bM HT_.out (by kernel_rfl)) (fun _ _ _ h => h) (Or.inl ⟨by rfl,?_⟩) ?_ ?_;rotate_left
               ·intro w'
                go_simp;(with_reducible rfl)
               rotate_left
               ·simp only [Act.put,cT,cS,cU,bF,bG]
                rfl
               refine bZ (i:=9) (N:=some 13) (v:=?_) (a':=?_) (eB 10 1023) rfl rfl (bM HT_.out (by kernel_rfl)) (fun _ _ _ h => h) (Or.inl ⟨by rfl,?_⟩) ?_ ?_;rotate_left
               ·intro w'
                go_simp;(with_reducible rfl)
               rotate_left
               ·simp only [Act.put,cT,cS,cU,bF,bG]
                rfl
               refine wV (oD HT_.out (by kernel_rfl)) ?_;have yJ:=bL cE 0 (.int .i64 aK) rfl;have yI:=bL cE 1 (.int .i64 aI) rfl;have yH:=bL cE 2 (.slice aRO dW.length aFK) rfl;have yA:=aC cE.out 0;have xZ:=aC cE.out 1;have xY:=aC cE.out 2;have p27 : 0≤((NJ) : Int):=of_decide_eq_true mD;have q27 : ((NJ) : Int) < ((dW.length : Int) : Int):=of_decide_eq_true mD;obtain ⟨go27,NV,eo27,aYu,gl27,cl27,HG27⟩:=Kd.GV bO.out (by omega)
               (first | cases eo27 | (injection eo27 with ea_ en_ ec_;(first | subst ea_ | (injection ea_ with ea_;subst ea_));subst ec_;clear en_));have GB27:=aA.mk aYu;have GG27:=aA.mk HG27;clear aYu gl27 HG27;have HMgo27:=aA.mk (show (P0_2_ go27 ∨ w.heap.size≤go27) from (bO.out.1 _ rfl));obtain ⟨hx27_0,hf27_0⟩:=Kd.pN 0 bO.out ((NJ) : Int) p27 q27;replace p27:=eq_true p27;replace q27:=eq_true q27;obtain ⟨hy40_,hz40_⟩:=Kd.pN 0 bO.out ((NJ) : Int) (of_decide_eq_true mD) (of_decide_eq_true mD);have HP40:=Kd.aAi bO.out ((NJ) : Int) t193
               try go_wp2_with (first | ((with_reducible refine BV (t:=5) (p:=66) rfl ?_);refine yV (t:=5) (p:=66) (v:=?vo_w41) (w1:=(w38.setCell ⟨go27,((NJ) : Int).toNat,none⟩ (.int .u8 t193))) ?hg ?ho ?hn ?hr ?_;(case ho => rfl);(case hg => rfl);(case hn => rfl);(case hr => first | (go_simp;done) | (go_simp;rfl));intro w41 hw;have hg : w38.grownBy w41 (some go27):=(by rw [hw];exact HP40.2);have hp_ : Kd.R (Kd.int .u8) 5 w41 w0.heap.size (fun k_ => (P0_2_ k_ ∨ w.heap.size≤k_)) (.slice (some ⟨go27,0,none⟩) dW.length aFK) y195:=(by rw [hw,Ny195.out];exact HP40.1);clear HP40;replace iW:=aA.mk (Kd.AQ (v:=(.slice (some ⟨go27,0,none⟩) dW.length aFK)) (dB iW.out) (Kd.wJ bO.out) (by decide) hg);replace cE:=aA.mk (dG (cH cE) hg (Kd.iV bO.out cE.out (by decide)));replace fI:=aA.mk (dG (cH fI) hg (Kd.iV bO.out fI.out (by decide)));replace HB:=aA.mk ((by rw [hw];exact gA (HB.out) GB27.out : Below w0.heap.size w0 w41));replace HK:=aA.mk (Kept.aFk (S:=(fun k_ => P0_2_ k_)) hg (by repeat (first | (with_reducible first | exact HK.out | apply Kept.alloc | apply Kept.drewN | apply Kept.drew | refine Kept.setCell ?_ (.inr pS.out) _ | refine Kept.setCell ?_ (.inr rL.out) _) | exact HK.out)) (fun k_ e_ => (bO.out.1 k_ e_)));replace bO:=aA.mk (hp_);clear hg hw hp_))
               replace iW:=aA.mk (Kd.bP iW.out);replace bO:=aA.mk (Kd.bP bO.out);replace cE:=aA.mk (aG cE.out);replace fI:=aA.mk (aG fI.out);replace HK:=aA.mk (Kept.drew HK.out);replace HB:=aA.mk (eD HB.out);refine qD (n:=13) (S:=fun w' => w'.cell? ⟨zB,0,none⟩ = some (.int .i64 aK)∧w'.cell? ⟨zB,1,none⟩ = some (.int .i64 aI)∧w'.cell? ⟨zB,2,none⟩ = some (.slice (some ⟨go27,0,none⟩) dW.length aFK)) (ds:=[12]) #[false,false,false,false,false,false,false,false,false,false,false,false,false] (by kernel_rfl) rfl rfl ⟨(bB cE.out 0).trans rfl,(bB cE.out 1).trans rfl,(bB cE.out 2).trans rfl⟩ (fun hHeld => ?_);refine jR aM.aVI aM.aUU (fun HT_ HW_ => ?_);generalize w41.drew = w42 at iW bO cE fI HK HB hHeld ⊢;refine bZ (i:=0) (N:=some 67) (v:=?_) (a':=?_) (eB 13 1) rfl rfl (bM HT_.out (by kernel_rfl)) (fun _ _ _ h => h) (Or.inl ⟨by rfl,?_⟩) ?_ ?_;rotate_left
               ·intro w'
                go_simp;(with_reducible rfl)
               rotate_left
               ·simp only [Act.put,cT,cS,cU,bF,bG]
                rfl
               refine bZ (i:=2) (N:=some 69) (v:=?_) (a':=?_) (eB 13 5) rfl rfl (bM HT_.out (by kernel_rfl)) (fun _ _ _ h => h) (Or.inl ⟨by rfl,?_⟩) ?_ ?_;rotate_left
               ·intro w'
                go_simp;(with_reducible rfl)
               rotate_left
               ·simp only [Act.put,cT,cS,cU,bF,bG]
                rfl
               refine bZ (i:=3) (N:=some 70) (v:=?_) (a':=?_) (eB 13 13) rfl rfl (bM HT_.out (by kernel_rfl)) (fun _ _ _ h => h) (Or.inl ⟨by rfl,?_⟩) ?_ ?_;rotate_left
               ·intro w'
                go_simp;(with_reducible rfl)
               rotate_left
               ·simp only [Act.put,cT,cS,cU,bF,bG]
                rfl
               refine bZ (i:=6) (N:=some 73) (v:=?_) (a':=?_) (eB 13 77) rfl rfl (bM HT_.out (by kernel_rfl)) (fun _ _ _ h => h) (Or.inl ⟨by rfl,?_⟩) ?_ ?_;rotate_left
               ·intro w'
                go_simp;(with_reducible rfl)
               rotate_left
               ·simp only [Act.put,cT,cS,cU,bF,bG]
                rfl
               refine bZ (i:=8) (N:=some 75) (v:=?_) (a':=?_) (eB 13 333) rfl rfl (bM HT_.out (by kernel_rfl)) (fun _ _ _ h => h) (Or.inl ⟨by rfl,?_⟩) ?_ ?_;rotate_left
               ·intro w'
                go_simp;(with_reducible rfl)
               rotate_left
               ·simp only [Act.put,cT,cS,cU,bF,bG]
                rfl
               refine bZ (i:=9) (N:=some 76) (v:=?_) (a':=?_) (eB 13 845) rfl rfl (bM HT_.out (by kernel_rfl)) (fun _ _ _ h => h) (Or.inl ⟨by rfl,?_⟩) ?_ ?_;rotate_left
               ·intro w'
                go_simp;(with_reducible rfl)
               rotate_left
               ·simp only [Act.put,cT,cS,cU,bF,bG]
                rfl
               refine gN (i:=1) (N:=some 68) (v:=?_) (a':=?_) (eB 13 847) rfl rfl (dT HT_.out HW_.out (by kernel_rfl)) (fun _ _ _ h => h) (Or.inl ⟨by rfl,?_⟩) hHeld ?_ ?_;rotate_left
               ·rintro w' ⟨s0,s1,s2⟩
                go_simp;(with_reducible rfl)
               rotate_left
               ·simp only [Act.put,cT,cS,cU,bF,bG]
                rfl
               refine gN (i:=4) (N:=some 71) (v:=?_) (a':=?_) (eB 13 863) rfl rfl (dT HT_.out HW_.out (by kernel_rfl)) (fun _ _ _ h => h) (Or.inl ⟨by rfl,?_⟩) hHeld ?_ ?_;rotate_left
               ·rintro w' ⟨s0,s1,s2⟩
                go_simp;(with_reducible rfl)
               rotate_left
               ·simp only [Act.put,cT,cS,cU,bF,bG]
                rfl
               refine bZ (i:=5) (N:=some 72) (v:=?_) (a':=?_) (eB 13 895) rfl rfl (bM HT_.out (by kernel_rfl)) (fun _ _ _ h => h) (Or.inl ⟨by rfl,?_⟩) ?_ ?_;rotate_left
               ·intro w'
                go_simp;(with_reducible rfl)
               rotate_left
               ·simp only [Act.put,cT,cS,cU,bF,bG]
                rfl
               refine bZ (i:=7) (N:=some 74) (v:=?_) (a':=?_) (eB 13 1023) rfl rfl (bM HT_.out (by kernel_rfl)) (fun _ _ _ h => h) (Or.inl ⟨by rfl,?_⟩) ?_ ?_;rotate_left
               ·intro w'
                go_simp;(with_reducible rfl)
               rotate_left
               ·simp only [Act.put,cT,cS,cU,bF,bG]
                rfl
               refine EK (i:=10) (N:=some 77) (eB 13 2047) rfl rfl (jY HT_.out (by kernel_rfl)) (by decide) (fun K hK => ?_);refine DN Try.func24 (by kernel_rfl) rfl #[.int .u8 t191,.int .u8 t194] (by rfl) rfl rfl lU ?_
               with_reducible refine (dD.calls t191 t194 t196 _ A28.out).mono ?_
               rintro e w' ⟨rfl,⟨nd,rfl⟩⟩;refine ⟨_,rfl,?_⟩;have p32 : 0≤((PZ) : Int):=of_decide_eq_true mD;have q32 : ((PZ) : Int) < ((dW.length : Int) : Int):=of_decide_eq_true mD;obtain ⟨hx32_0,hf32_0⟩:=Kd.pN 0 bO.out ((PZ) : Int) p32 q32;replace p32:=eq_true p32;replace q32:=eq_true q32;have HP43:=Kd.OB bO.out ((PZ) : Int) t196;rw [← Ny197.out] at HP43;have HQ43:=aA.mk HP43;clear HP43;refine hK.out _ _ ⟨(bB cE.out 0).trans rfl,(bB cE.out 1).trans rfl,(bB cE.out 2).trans rfl⟩ (fun hHeld => ?_);clear hK K;refine qL (a':=?_) ?_ ?_;rotate_left
               ·show Act.put _ (some 77) _ = _
                simp only [Act.put,cT,cS,cU,bF,bG];rfl
               refine bZ (i:=11) (N:=some 78) (v:=?_) (a':=?_) (eB 13 4095) rfl rfl (bM HT_.out (by kernel_rfl)) (fun _ _ _ h => h) (Or.inl ⟨by rfl,?_⟩) ?_ ?_;rotate_left
               ·intro w'
                go_simp;(with_reducible rfl)
               rotate_left
               ·simp only [Act.put,cT,cS,cU,bF,bG]
                rfl
               refine PX (i:=12) (N:=none) (eB 13 8191) rfl rfl (jY HT_.out (by kernel_rfl)) (by decide) (fun K hK => ?_);refine PG (w1:=?_) (by rfl) rfl ?_ ?_;rotate_left
               ·go_simp
                rfl
               refine hK.out _ _ ?_;clear hK K;refine wV (oD HT_.out (by kernel_rfl)) ?_
               try go_wp2
               go_roundg k3
               case measure => have:=yS.out;have:=zU.out;have:=OF.out;omega
               case rel => exact ⟨(wrap64 (eA + 1)),(y197),(.slice (some ⟨go27,0,none⟩) dW.length aFK),mU,H',⟨by have:=yS.out;have:=zU.out;have:=OF.out;omega⟩,⟨by (with_reducible repeat first | apply Kd.bX | apply Kd.bW | apply Kd.bP);exact Kd.cC (Kd.cY (p:=⟨go27,((PZ) : Int).toNat,none⟩) (Kd.dM iW.out (Kd.wJ bO.out _ rfl).choose_spec (by decide)) (fun _ hk => hk.2) (.int .u8 t196)) (fun _ hk => hk.1)⟩,⟨dB HQ43.out⟩,⟨by (with_reducible repeat first | apply aE | apply aG | apply aD);refine aV ?_ (by have h_:=Kd.iV bO.out cE.out (by decide);intro e_;exact h_ (by rw [e_];rfl)) _;(with_reducible repeat first | apply aE | apply aG | apply aD);exact cE.out⟩,⟨by (with_reducible repeat first | apply aE | apply aG | apply aD);refine aV ?_ (by have h_:=Kd.iV bO.out fI.out (by decide);intro e_;exact h_ (by rw [e_];rfl)) _;(with_reducible repeat first | apply aE | apply aG | apply aD);exact fI.out⟩,⟨by repeat (first | (with_reducible first | exact HK.out | apply Kept.alloc | apply Kept.drewN | apply Kept.drew | refine Kept.setCell ?_ HMgo27.out _ | refine Kept.setCell ?_ (.inr pS.out) _ | refine Kept.setCell ?_ (.inr rL.out) _) | exact HK.out)⟩,⟨fE HB GB27 qT sP⟩⟩
              ·rw [if_neg IT] at H
               exact absurd H (by simp)
             ·rw [if_neg RO] at H
              exact absurd H (by simp)
            ·rw [if_neg c26] at H
             exact absurd H (by simp)
           ·rw [if_neg c25] at H
            exact absurd H (by simp)
          ·rw [if_neg DQ] at H
           have ER : decide (eA < aI) = false:=decide_eq_false DQ;clear DQ;have H':=aA.mk H;clear H;have aSB:=oY.out;have aSj:=oX.out;have WV:=bL cE 0 (.int .i64 aK) rfl;have WU:=bL cE 1 (.int .i64 aI) rfl;have WT:=bL cE 2 eY rfl;have WB:=aC cE.out 0;have WA:=aC cE.out 1;have VZ:=aC cE.out 2
           go_wp2
           go_loopg [14] k3 (fun kq v14 w' => ∃ (pP : Int) (pV : List Int) (eY : Value),v14 = .int .i64 pP∧aA (aM.l3 kq sQ iH (iI.length : Int) pP aK aI pV = some (r1,r2,r3,r4))∧aA (kq≤k3)∧aA (Kd.R (Kd.int .i64) 3 w' w0.heap.size (fun k_ => (P0_2_ k_ ∨ w.heap.size≤k_)) u4 sQ)∧aA (Kd.R (Kd.int .u8) 5 w' w0.heap.size (fun k_ => (P0_2_ k_ ∨ w.heap.size≤k_)) eY pV)∧aA (w'.heap[zB]? = some (.cells #[.int .i64 aK,.int .i64 aI,eY] 24 (0,0)))∧aA (w'.heap[BU]? = some (.cells #[.int .i64 0,.int .i64 0,(.slice none 0 0)] 24 (0,0)))∧aA (Kept w w' (fun k_ => P0_2_ k_))∧aA (Below w0.heap.size w0 w'))
           case atStart => exact ⟨(0),(dW),(eY),mU,H',⟨Nat.le_refl _⟩,⟨dB iW.out⟩,⟨dB bO.out⟩,⟨gP cE.out⟩,⟨gP fI.out⟩,⟨by repeat (first | (with_reducible first | exact HK.out | apply Kept.alloc | apply Kept.drewN | apply Kept.drew | refine Kept.setCell ?_ (.inr pS.out) _ | refine Kept.setCell ?_ (.inr rL.out) _) | exact HK.out)⟩,⟨dA HB qT sP⟩⟩
           case round =>
            clear H';(try clear c1);(try clear c2);(try clear p2);(try clear q2);(try clear hx2);(try clear hf2);(try clear c3);(try clear p3);(try clear q3);(try clear hx3);(try clear hf3);(try clear c4);(try clear c5);(try clear JU);(try clear c6);(try clear p6);(try clear c8);(try clear c9);(try clear QV);(try clear DR);(try clear MP);(try clear aFR);(try clear yR);(try clear IU);(try clear DQ);(try clear ER);(try clear XM);(try clear c25);(try clear UG);(try clear c26);(try clear JW);(try clear p27);(try clear q27);(try clear hx27);(try clear hf27);(try clear RO);(try clear ZV);(try clear IT);(try clear UF);(try clear p32);(try clear q32);(try clear hx32);(try clear hf32);(try clear c33);(try clear XK);(try clear kW);(try clear kV);(try clear kU);(try clear yP);(try clear yO);(try clear yN);(try clear yM);(try clear yL);(try clear yK);(try clear yJ);(try clear yI);(try clear yH);(try clear WV);(try clear WU);(try clear WT);(try clear jN);(try clear jM);(try clear jL);(try clear kT);(try clear kS);(try clear kR);(try clear yG);(try clear yF);(try clear yE);(try clear yD);(try clear yC);(try clear yB);(try clear yA);(try clear xZ);(try clear xY);(try clear WB);(try clear WA);(try clear VZ);(try clear jK);(try clear jJ);(try clear jI);(try clear hx27_0);(try clear hx32_0);(try clear p2)
            (try clear p27);(try clear p32);(try clear p6);(try clear q27);(try clear q32);obtain ⟨pP,pV,eY,rfl,HA,HK4,iW,bO,cE,fI,HK,HB⟩:=hrel
            cases gk with
            | zero => exact absurd HA.out (by simp [aM.l3])
            | succ k4 =>
             have H:=HA.out;clear HA;simp only [aM.l3] at H
             by_cases c46 : pP < aK
             ·rw [if_pos c46] at H
              have aJu : decide (pP < aK) = true:=decide_eq_true c46;clear c46;replace H:=Option.bind_eq_some_iff.mp H;obtain ⟨t201,aPd,H⟩:=H;replace H : (aM.l4 k4 sQ iH (iI.length : Int) pP t201 0 aK aI pV) = some (r1,r2,r3,r4):=H;have A47:=aA.mk aPd;clear aPd;have H':=aA.mk H;clear H;have bGK:=oY.out;have bGr:=oX.out;have aIY:=bL cE 0 (.int .i64 aK) rfl;have aIX:=bL cE 1 (.int .i64 aI) rfl;have aIW:=bL cE 2 eY rfl;have aIG:=aC cE.out 0;have aIF:=aC cE.out 1;have aIE:=aC cE.out 2;obtain ⟨aVn,aUN,eo50⟩:=Kd.cK bO.out;subst eo50;go_wp2_with (first | ((with_reducible refine bE (f:=25) rfl ?_);refine cO (some 88) rfl rfl Try.func25 (by kernel_rfl) rfl #[.agg #[.int .i64 aK,.int .i64 aI,.slice aVn pV.length aUN],.int .i64 pP,.int .i64 iH] rfl lU ?_;(with_reducible refine (cF.calls aK aI _ _ pV pP iH t201 _ ?side1 ?side2 A47.out).mono ?_);(case side1 => exact nY ((Kd.bQ bO.out).2.2));(case side2 => exact (Kd.bQ bO.out).2.1);rintro e w51 ⟨rfl,hb⟩;refine ⟨_,rfl,?_⟩;replace iW:=aA.mk (Kd.bV (dB iW.out) hb);replace bO:=aA.mk (Kd.bV (dB bO.out) hb);replace cE:=aA.mk (aJ (cH cE) hb);replace fI:=aA.mk (aJ (cH fI) hb);replace HK:=aA.mk (Kept.below (S:=(fun k_ => P0_2_ k_)) (by repeat (first | (with_reducible first | exact HK.out | apply Kept.alloc | apply Kept.drewN | apply Kept.drew | refine Kept.setCell ?_ (.inr pS.out) _ | refine Kept.setCell ?_ (.inr rL.out) _) | exact HK.out)) hb);replace HB:=aA.mk (aN (dA HB qT sP) hb);(try clear hb);(try clear hb2);(try clear hk);(try clear hi)))
              go_loopg [16] k4 (fun kq v16 w' => ∃ (qV : Int) (eE : List Int) (eY : Value),v16 = .int .i64 qV∧aA (aM.l4 kq sQ iH (iI.length : Int) pP t201 qV aK aI eE = some (r1,r2,r3,r4))∧aA (kq≤k4)∧aA (Kd.R (Kd.int .i64) 3 w' w0.heap.size (fun k_ => (P0_2_ k_ ∨ w.heap.size≤k_)) u4 sQ)∧aA (Kd.R (Kd.int .u8) 5 w' w0.heap.size (fun k_ => (P0_2_ k_ ∨ w.heap.size≤k_)) eY eE)∧aA (w'.heap[zB]? = some (.cells #[.int .i64 aK,.int .i64 aI,eY] 24 (0,0)))∧aA (w'.heap[BU]? = some (.cells #[.int .i64 0,.int .i64 0,(.slice none 0 0)] 24 (0,0)))∧aA (Kept w w' (fun k_ => P0_2_ k_))∧aA (Below w0.heap.size w0 w'))
              case atStart => exact ⟨(0),(pV),(.slice aVn pV.length aUN),mU,H',⟨Nat.le_refl _⟩,⟨dB iW.out⟩,⟨dB bO.out⟩,⟨gP cE.out⟩,⟨gP fI.out⟩,⟨by repeat (first | (with_reducible first | exact HK.out | apply Kept.alloc | apply Kept.drewN | apply Kept.drew | refine Kept.setCell ?_ (.inr pS.out) _ | refine Kept.setCell ?_ (.inr rL.out) _) | exact HK.out)⟩,⟨dA HB qT sP⟩⟩
              case round =>
               clear H';(try clear c1);(try clear c2);(try clear p2);(try clear q2);(try clear hx2);(try clear hf2);(try clear c3);(try clear p3);(try clear q3);(try clear hx3);(try clear hf3);(try clear c4);(try clear c5);(try clear JU);(try clear c6);(try clear p6);(try clear c8);(try clear c9);(try clear QV);(try clear DR);(try clear MP);(try clear aFR);(try clear yR);(try clear IU);(try clear DQ);(try clear ER);(try clear XM);(try clear c25);(try clear UG);(try clear c26);(try clear JW);(try clear p27);(try clear q27);(try clear hx27);(try clear hf27);(try clear RO);(try clear ZV);(try clear IT);(try clear UF);(try clear p32);(try clear q32);(try clear hx32);(try clear hf32);(try clear c33);(try clear XK);(try clear c46);(try clear aJu);(try clear RM);(try clear kW);(try clear kV);(try clear kU);(try clear yP);(try clear yO);(try clear yN);(try clear yM);(try clear yL);(try clear yK);(try clear yJ);(try clear yI);(try clear yH);(try clear WV);(try clear WU);(try clear WT);(try clear aIY);(try clear aIX);(try clear aIW);(try clear jN);(try clear jM);(try clear jL);(try clear kT);(try clear kS);(try clear kR);(try clear yG);(try clear yF);(try clear yE);(try clear yD);(try clear yC);(try clear yB);(try clear yA);(try clear xZ);(try clear xY);(try clear WB);(try clear WA);(try clear VZ)
               (try clear aIG);(try clear aIF);(try clear aIE);(try clear jK);(try clear jJ);(try clear jI);(try clear hx27_0);(try clear hx32_0);(try clear p2);(try clear p27);(try clear p3);(try clear p32);(try clear p6);(try clear q2);(try clear q27);(try clear q3);(try clear q32);obtain ⟨qV,eE,eY,rfl,HA,HK5,iW,bO,cE,fI,HK,HB⟩:=hrel
               cases gk with
               | zero => exact absurd HA.out (by simp [aM.l4])
               | succ k5 =>
                have H:=HA.out;clear HA;simp only [aM.l4] at H;have aHL:=aA.mk H;clear H;go_upto_region 23 with (fail)
                go_cut [97] (fun v97 wc => ∃ (kq : Nat) (aCm : Bool),v97 = .bool aCm∧aA (aM.j5 kq sQ iH (iI.length : Int) pP t201 qV aCm aK aI eE = some (r1,r2,r3,r4))∧aA (kq≤k5)∧aA (Kd.R (Kd.int .i64) 3 wc w0.heap.size (fun k_ => (P0_2_ k_ ∨ w.heap.size≤k_)) u4 sQ)∧aA (Kd.R (Kd.int .u8) 5 wc w0.heap.size (fun k_ => (P0_2_ k_ ∨ w.heap.size≤k_)) eY eE)∧aA (wc.heap[zB]? = some (.cells #[.int .i64 aK,.int .i64 aI,eY] 24 (0,0)))∧aA (wc.heap[BU]? = some (.cells #[.int .i64 0,.int .i64 0,(.slice none 0 0)] 24 (0,0)))∧aA (Kept w wc (fun k_ => P0_2_ k_))∧aA (Below w0.heap.size w0 wc))
                case first =>
                 have H:=aHL.out;clear aHL
                 by_cases XJ : qV < aI
                 ·rw [if_pos XJ] at H
                  have JV : decide (qV < aI) = true:=decide_eq_true XJ;clear XJ
                  (first | rw [JV] | (simp only [bF,bG];rw [JV]) | rw [aSW] | skip);have H':=aA.mk H;clear H;have aNp:=oY.out;have aNk:=oX.out;have QM:=bL cE 0 (.int .i64 aK) rfl;have QL:=bL cE 1 (.int .i64 aI) rfl;have QK:=bL cE 2 eY rfl;have QG:=aC cE.out 0;have QF:=aC cE.out 1;have QE:=aC cE.out 2
                  go_wp2
                  go_meet
                  case rel => exact ⟨_,((pP != (iI.length : Int))),mU,H',⟨by have:=yS.out;have:=zU.out;have:=OF.out;have:=HK4.out;have:=HK5.out;first | omega | exact Nat.le_refl _⟩,⟨dB iW.out⟩,⟨dB bO.out⟩,⟨gP cE.out⟩,⟨gP fI.out⟩,⟨by repeat (first | (with_reducible first | exact HK.out | apply Kept.alloc | apply Kept.drewN | apply Kept.drew | refine Kept.setCell ?_ (.inr pS.out) _ | refine Kept.setCell ?_ (.inr rL.out) _) | exact HK.out)⟩,⟨dA HB qT sP⟩⟩
                 ·rw [if_neg XJ] at H
                  have JV : decide (qV < aI) = false:=decide_eq_false XJ;clear XJ
                  (first | rw [JV] | (simp only [bF,bG];rw [JV]) | rw [aSW] | skip);have H':=aA.mk H;clear H;have aSx:=oY.out;have aSf:=oX.out;have WS:=bL cE 0 (.int .i64 aK) rfl;have WR:=bL cE 1 (.int .i64 aI) rfl;have WQ:=bL cE 2 eY rfl;have VY:=aC cE.out 0;have VX:=aC cE.out 1;have VW:=aC cE.out 2
                  go_wp2
                  go_meet
                  case rel => exact ⟨_,(false),mU,H',⟨by have:=yS.out;have:=zU.out;have:=OF.out;have:=HK4.out;have:=HK5.out;first | omega | exact Nat.le_refl _⟩,⟨dB iW.out⟩,⟨dB bO.out⟩,⟨gP cE.out⟩,⟨gP fI.out⟩,⟨by repeat (first | (with_reducible first | exact HK.out | apply Kept.alloc | apply Kept.drewN | apply Kept.drew | refine Kept.setCell ?_ (.inr pS.out) _ | refine Kept.setCell ?_ (.inr rL.out) _) | exact HK.out)⟩,⟨dA HB qT sP⟩⟩
                case rest =>
                 clear aHL;(try clear c1);(try clear c2);(try clear p2);(try clear q2);(try clear hx2);(try clear hf2);(try clear c3);(try clear p3);(try clear q3);(try clear hx3);(try clear hf3);(try clear c4);(try clear c5);(try clear JU);(try clear c6);(try clear p6);(try clear c8);(try clear c9);(try clear QV);(try clear DR);(try clear MP);(try clear aFR);(try clear yR);(try clear IU);(try clear DQ);(try clear ER);(try clear XM);(try clear c25);(try clear UG);(try clear c26);(try clear JW);(try clear p27);(try clear q27);(try clear hx27);(try clear hf27);(try clear RO);(try clear ZV);(try clear IT);(try clear UF);(try clear p32);(try clear q32);(try clear hx32);(try clear hf32);(try clear c33);(try clear XK);(try clear c46);(try clear aJu);(try clear RM);(try clear XJ);(try clear JV);(try clear aSW);(try clear c54);(try clear c56);(try clear kW);(try clear kV);(try clear kU);(try clear yP);(try clear yO);(try clear yN);(try clear yM);(try clear yL);(try clear yK);(try clear yJ);(try clear yI);(try clear yH);(try clear WV);(try clear WU);(try clear WT);(try clear aIY);(try clear aIX);(try clear aIW);(try clear QM);(try clear QL);(try clear QK);(try clear WS);(try clear WR);(try clear WQ);(try clear jN);(try clear jM);(try clear jL);(try clear kT);(try clear kS);(try clear kR);(try clear yG)
                 (try clear yF);(try clear yE);(try clear yD);(try clear yC);(try clear yB);(try clear yA);(try clear xZ);(try clear xY);(try clear WB);(try clear WA);(try clear VZ);(try clear aIG);(try clear aIF);(try clear aIE);(try clear QG);(try clear QF);(try clear QE);(try clear VY);(try clear VX);(try clear VW);(try clear jK);(try clear jJ);(try clear jI);(try clear hx27_0);(try clear hx32_0);(try clear p2);(try clear p27);(try clear p3);(try clear p32);(try clear p6);(try clear q2);(try clear q27);(try clear q3);(try clear q32);obtain ⟨kq,aCm,rfl,HA,HJ51,iW,bO,cE,fI,HK,HB⟩:=hcut
                 cases kq with
                 | zero => exact absurd HA.out (by simp [aM.j5])
                 | succ kj51 =>
                  have H:=HA.out;clear HA;simp only [aM.j5] at H
                  by_cases c58 : aCm = true
                  ·subst c58
                   have H1 : (if 0≤(wrap64 ((wrap64 (pP * aI)) + qV)) then (if (wrap64 ((wrap64 (pP * aI)) + qV)) < (eE.length : Int) then ((cF.f aK aI eE (iI.length : Int) qV).bind fun t203 => ((dD.f t201 t203).bind fun t204 => (aM.l4 kj51 sQ iH (iI.length : Int) pP t201 (wrap64 (qV + 1)) aK aI (eE.set ((wrap64 ((wrap64 (pP * aI)) + qV)) : Int).toNat (Go.bits .xor .u8 (rd eE (wrap64 ((wrap64 (pP * aI)) + qV))) t204))))) else (none)) else (none)) = some (r1,r2,r3,r4):=by rw [if_pos rfl] at H;exact H
                   clear H;have H:=H1;clear H1;obtain ⟨kH,ZD⟩ : ∃ j_ : Int,(wrap64 ((wrap64 (pP * aI)) + qV)) = j_:=⟨_,rfl⟩
                   replace H : (if 0≤(kH) then (if (kH) < (eE.length : Int) then ((cF.f aK aI eE (iI.length : Int) qV).bind fun t203 => ((dD.f t201 t203).bind fun t204 => (aM.l4 kj51 sQ iH (iI.length : Int) pP t201 (wrap64 (qV + 1)) aK aI (eE.set ((kH) : Int).toNat (Go.bits .xor .u8 (rd eE (kH)) t204))))) else (none)) else (none)) = some (r1,r2,r3,r4):=by first | (rw [ZD] at H;exact H) | (simp only [ZD] at H ⊢;exact H)
                   have aUB : (IntKind.i64.wrap ((wrap64 (pP * aI)) + qV)) = kH:=(bF _).trans ZD
                   by_cases c60 : 0≤(kH)
                   ·rw [if_pos c60] at H
                    have aSU : decide (0≤(kH)) = true:=decide_eq_true c60;clear c60
                    by_cases c61 : (kH) < (eE.length : Int)
                    ·rw [if_pos c61] at H
                     have aYU : decide ((kH) < (eE.length : Int)) = true:=decide_eq_true c61;clear c61;replace H:=Option.bind_eq_some_iff.mp H;obtain ⟨t203,aPc,H⟩:=H;replace H : ((dD.f t201 t203).bind fun t204 => (aM.l4 kj51 sQ iH (iI.length : Int) pP t201 (wrap64 (qV + 1)) aK aI (eE.set ((kH) : Int).toNat (Go.bits .xor .u8 (rd eE (kH)) t204)))) = some (r1,r2,r3,r4):=H;have A62:=aA.mk aPc;clear aPc;replace H:=Option.bind_eq_some_iff.mp H;obtain ⟨t204,aPb,H⟩:=H;replace H : (aM.l4 kj51 sQ iH (iI.length : Int) pP t201 (wrap64 (qV + 1)) aK aI (eE.set ((kH) : Int).toNat (Go.bits .xor .u8 (rd eE (kH)) t204))) = some (r1,r2,r3,r4):=H;have A63:=aA.mk aPb;clear aPb;obtain ⟨y205,hy205⟩ : ∃ y_ : List Int,y_ = (eE.set ((kH) : Int).toNat (Go.bits .xor .u8 (rd eE (kH)) t204)):=⟨_,rfl⟩
                     replace H : (aM.l4 kj51 sQ iH (iI.length : Int) pP t201 (wrap64 (qV + 1)) aK aI y205) = some (r1,r2,r3,r4):=by first | (rw [hy205];with_reducible exact H) | (have H2_:=(Option.bind_some _ _).symm.trans H;rw [hy205];with_reducible exact H2_) | (have H2_:=(Option.bind_some _ _).symm.trans H;with_reducible exact H2_) | with_reducible exact H | (rw [hy205];exact H) | exact H
                     have Ny205:=aA.mk hy205;clear hy205;have H':=aA.mk H;clear H
                     try go_wp2
                     replace iW:=aA.mk (Kd.bP iW.out);replace bO:=aA.mk (Kd.bP bO.out);replace cE:=aA.mk (aG cE.out);replace fI:=aA.mk (aG fI.out);replace HK:=aA.mk (Kept.drew HK.out);replace HB:=aA.mk (eD HB.out);obtain ⟨bJy,aUM,eo66⟩:=Kd.cK bO.out
                     (first | subst eo66 | (injection eo66 with f1_ f2_ f3_;have f4_:=f1_.symm;have f5_:=f3_.symm;clear f1_ f2_ f3_;subst f4_;subst f5_));have aUs : 0≤((kH) : Int):=of_decide_eq_true mD;have q202 : (kH) < (eE.length : Int):=of_decide_eq_true mD;obtain ⟨ad202,e202,hx202_0⟩:=Kd.mX (Kd.bQ bO.out).2.2 (kH) aUs q202
                     cases e202
                     replace aUs:=eq_true aUs;replace q202:=eq_true q202;refine qD (n:=19) (S:=fun w' => w'.cell? ⟨zB,0,none⟩ = some (.int .i64 aK)∧w'.cell? ⟨zB,1,none⟩ = some (.int .i64 aI)∧w'.cell? ⟨zB,2,none⟩ = some (.slice (some ad202) eE.length aUM)∧w'.cell? (ad202.add ((kH)).toNat) = some (.int .u8 (rd eE (kH)))) (ds:=[18]) #[false,false,false,false,false,false,false,false,false,false,false,false,false,false,false,false,false,false,false] (by kernel_rfl) rfl rfl ⟨(bB cE.out 0).trans rfl,(bB cE.out 1).trans rfl,(bB cE.out 2).trans rfl,hx202_0⟩ (fun hHeld => ?_);refine jR aM.aVH aM.aUT (fun HT_ HW_ => ?_);generalize wc.drew = w65 at iW bO cE fI HK HB hx202_0 hHeld ⊢;refine bZ (i:=0) (N:=some 100) (v:=?_) (a':=?_) (eB 19 1) rfl rfl (bM HT_.out (by kernel_rfl)) (fun _ _ _ h => h) (Or.inl ⟨by rfl,?_⟩) ?_ ?_;rotate_left
                     ·intro w'
                      go_simp;(with_reducible rfl)
                     rotate_left
                     ·simp only [Act.put,cT,cS,cU,bF,bG]
                      rfl
                     refine bZ (i:=2) (N:=some 102) (v:=?_) (a':=?_) (eB 19 5) rfl rfl (bM HT_.out (by kernel_rfl)) (fun _ _ _ h => h) (Or.inl ⟨by rfl,?_⟩) ?_ ?_;rotate_left
                     ·intro w'
                      go_simp;(with_reducible rfl)
                     rotate_left
                     ·simp only [Act.put,cT,cS,cU,bF,bG]
                      rfl
                     refine bZ (i:=3) (N:=some 103) (v:=?_) (a':=?_) (eB 19 13) rfl rfl (bM HT_.out (by kernel_rfl)) (fun _ _ _ h => h) (Or.inl ⟨by rfl,?_⟩) ?_ ?_;rotate_left
                     ·intro w'
                      go_simp;(with_reducible rfl)
                     rotate_left
                     ·simp only [Act.put,cT,cS,cU,bF,bG]
                      rfl
                     refine bZ (i:=6) (N:=some 106) (v:=?_) (a':=?_) (eB 19 77) rfl rfl (bM HT_.out (by kernel_rfl)) (fun _ _ _ h => h) (Or.inl ⟨by rfl,?_⟩) ?_ ?_;rotate_left
                     ·intro w'
                      go_simp;(with_reducible rfl)
                     rotate_left
                     ·simp only [Act.put,cT,cS,cU,bF,bG]
                      rfl
                     refine bZ (i:=10) (N:=some 110) (v:=?_) (a':=?_) (eB 19 1101) rfl rfl (bM HT_.out (by kernel_rfl)) (fun _ _ _ h => h) (Or.inl ⟨by rfl,?_⟩) ?_ ?_;rotate_left
                     ·intro w'
                      go_simp;(with_reducible rfl)
                     rotate_left
                     ·simp only [Act.put,cT,cS,cU,bF,bG]
                      rfl
                     refine bZ (i:=12) (N:=some 112) (v:=?_) (a':=?_) (eB 19 5197) rfl rfl (bM HT_.out (by kernel_rfl)) (fun _ _ _ h => h) (Or.inl ⟨by rfl,?_⟩) ?_ ?_;rotate_left
                     ·intro w'
                      go_simp;(with_reducible rfl)
                     rotate_left
                     ·simp only [Act.put,cT,cS,cU,bF,bG]
                      rfl
                     refine bZ (i:=13) (N:=some 113) (v:=?_) (a':=?_) (eB 19 13389) rfl rfl (bM HT_.out (by kernel_rfl)) (fun _ _ _ h => h) (Or.inl ⟨by rfl,?_⟩) ?_ ?_;rotate_left
                     ·intro w'
                      go_simp;(with_reducible rfl)
                     rotate_left
                     ·simp only [Act.put,cT,cS,cU,bF,bG]
                      rfl
                     refine gN (i:=1) (N:=some 101) (v:=?_) (a':=?_) (eB 19 13391) rfl rfl (dT HT_.out HW_.out (by kernel_rfl)) (fun _ _ _ h => h) (Or.inl ⟨by rfl,?_⟩) hHeld ?_ ?_;rotate_left
                     ·rintro w' ⟨s0,s1,s2,s3⟩
                      go_simp;(with_reducible rfl)
                     rotate_left
                     ·simp only [Act.put,cT,cS,cU,bF,bG]
                      rfl
                     refine gN (i:=4) (N:=some 104) (v:=?_) (a':=?_) (eB 19 13407) rfl rfl (dT HT_.out HW_.out (by kernel_rfl)) (fun _ _ _ h => h) (Or.inl ⟨by rfl,?_⟩) hHeld ?_ ?_;rotate_left
                     ·rintro w' ⟨s0,s1,s2,s3⟩
                      go_simp;(with_reducible rfl)
                     rotate_left
                     ·simp only [Act.put,cT,cS,cU,bF,bG]
                      rfl
                     refine bZ (i:=5) (N:=some 105) (v:=?_) (a':=?_) (eB 19 13439) rfl rfl (bM HT_.out (by kernel_rfl)) (fun _ _ _ h => h) (Or.inl ⟨by rfl,?_⟩) ?_ ?_;rotate_left
                     ·intro w'
                      go_simp;(with_reducible rfl)
                     rotate_left
                     ·simp only [Act.put,cT,cS,cU,bF,bG]
                      rfl
                     refine bZ (i:=7) (N:=some 107) (v:=?_) (a':=?_) (eB 19 13567) rfl rfl (bM HT_.out (by kernel_rfl)) (fun _ _ _ h => h) (Or.inl ⟨by rfl,?_⟩) ?_ ?_;rotate_left
                     ·intro w'
                      go_simp;(with_reducible rfl)
                     rotate_left
                     ·simp only [Act.put,cT,cS,cU,bF,bG]
                      rfl
                     refine bZ (i:=8) (N:=some 108) (v:=?_) (a':=?_) (eB 19 13823) rfl rfl (bM HT_.out (by kernel_rfl)) (fun _ _ _ h => h) (Or.inl ⟨by rfl,?_⟩) ?_ ?_;rotate_left
                     ·intro w'
                      go_simp;(with_reducible rfl)
                     rotate_left
                     ·simp only [Act.put,cT,cS,cU,bF,bG]
                      rfl
                     refine gN (i:=9) (N:=some 109) (v:=?_) (a':=?_) (eB 19 14335) rfl rfl (dT HT_.out HW_.out (by kernel_rfl)) (fun _ _ _ h => h) (Or.inl ⟨by rfl,?_⟩) hHeld ?_ ?_;rotate_left
                     ·rintro w' ⟨s0,s1,s2,s3⟩
                      go_simp;(with_reducible rfl)
                     rotate_left
                     ·simp only [Act.put,cT,cS,cU,bF,bG]
                      rfl
                     refine gN (i:=11) (N:=some 111) (v:=?_) (a':=?_) (eB 19 16383) rfl rfl (dT HT_.out HW_.out (by kernel_rfl)) (fun _ _ _ h => h) (Or.inl ⟨by rfl,?_⟩) hHeld ?_ ?_;rotate_left
                     ·rintro w' ⟨s0,s1,s2,s3⟩
                      go_simp;(with_reducible rfl)
                     rotate_left
                     ·simp only [Act.put,cT,cS,cU,bF,bG]
                      rfl
                     refine EK (i:=14) (N:=some 114) (eB 19 32767) rfl rfl (jY HT_.out (by kernel_rfl)) (by decide) (fun K hK => ?_);refine DN Try.func25 (by kernel_rfl) rfl #[.agg #[.int .i64 aK,.int .i64 aI,.slice (some ad202) eE.length aUM],.int .i64 (iI.length : Int),.int .i64 qV] (by rfl) rfl rfl lU ?_
                     with_reducible refine (cF.calls aK aI _ _ eE (iI.length : Int) qV t203 _ ?side1 ?side2 A62.out).mono ?_
                     (case side1 => exact nY ((Kd.bQ bO.out).2.2))
                     (case side2 => exact (Kd.bQ bO.out).2.1);rintro e w67 ⟨rfl,hb⟩;have HS3_:=(hb.cell (World.block_lt_of_cell? _ _ (hHeld.2.2.2))).trans (hHeld.2.2.2);refine ⟨_,rfl,?_⟩;replace iW:=aA.mk (Kd.bV (dB iW.out) hb);replace bO:=aA.mk (Kd.bV (dB bO.out) hb);replace cE:=aA.mk (aJ (cH cE) hb);replace fI:=aA.mk (aJ (cH fI) hb);replace HK:=aA.mk (Kept.below (S:=(fun k_ => P0_2_ k_)) (by repeat (first | (with_reducible first | exact HK.out | apply Kept.alloc | apply Kept.drewN | apply Kept.drew | refine Kept.setCell ?_ (.inr pS.out) _ | refine Kept.setCell ?_ (.inr rL.out) _) | exact HK.out)) hb);replace HB:=aA.mk (aN (dA HB qT sP) hb);(try clear hb);(try clear hb2);(try clear hk);(try clear hi);refine hK.out _ _ ⟨(bB cE.out 0).trans rfl,(bB cE.out 1).trans rfl,(bB cE.out 2).trans rfl,HS3_⟩ (fun hHeld => ?_);clear hK K;refine qL (a':=?_) ?_ ?_;rotate_left
                     ·show Act.put _ (some 114) _ = _
                      simp only [Act.put,cT,cS,cU,bF,bG];rfl
                     refine EK (i:=15) (N:=some 115) (eB 19 65535) rfl rfl (jY HT_.out (by kernel_rfl)) (by decide) (fun K hK => ?_);refine DN Try.func24 (by kernel_rfl) rfl #[.int .u8 t201,.int .u8 t203] (by rfl) rfl rfl lU ?_
                     with_reducible refine (dD.calls t201 t203 t204 _ A63.out).mono ?_
                     rintro e w' ⟨rfl,⟨nd,rfl⟩⟩;refine ⟨_,rfl,?_⟩;have p64 : 0≤((kH) : Int):=of_decide_eq_true mD;have q64 : ((kH) : Int) < ((eE.length : Int) : Int):=of_decide_eq_true mD;obtain ⟨go64,aYG,eo64,aYp,gl64,cl64,HG64⟩:=Kd.GV bO.out (by omega)
                     (first | cases eo64 | (injection eo64 with ea_ en_ ec_;(first | subst ea_ | (injection ea_ with ea_;subst ea_));subst ec_;clear en_));have GB64:=aA.mk aYp;have GG64:=aA.mk HG64;clear aYp gl64 HG64;have HMgo64:=aA.mk (show (P0_2_ go64 ∨ w.heap.size≤go64) from (bO.out.1 _ rfl))
                     (first | simp only [add_plain] at hx202_0 | skip);obtain ⟨hx64_0,hf64_0⟩:=Kd.pN 0 bO.out ((kH) : Int) p64 q64;replace p64:=eq_true p64;replace q64:=eq_true q64;have HP68:=Kd.OB bO.out ((kH) : Int) (Go.bits .xor .u8 (rd eE (kH)) t204);rw [← Ny205.out] at HP68;have HQ68:=aA.mk HP68;clear HP68;refine hK.out _ _ ⟨(bB cE.out 0).trans rfl,(bB cE.out 1).trans rfl,(bB cE.out 2).trans rfl,hHeld.2.2.2⟩ (fun hHeld => ?_);clear hK K;refine qL (a':=?_) ?_ ?_;rotate_left
                     ·show Act.put _ (some 115) _ = _
                      simp only [Act.put,cT,cS,cU,bF,bG];rfl
                     refine bZ (i:=16) (N:=some 116) (v:=?_) (a':=?_) (eB 19 131071) rfl rfl (bM HT_.out (by kernel_rfl)) (fun _ _ _ h => h) (Or.inl ⟨by rfl,?_⟩) ?_ ?_;rotate_left
                     ·intro w'
                      go_simp;(with_reducible rfl)
                     rotate_left
                     ·simp only [Act.put,cT,cS,cU,bF,bG]
                      rfl
                     refine bZ (i:=17) (N:=some 117) (v:=?_) (a':=?_) (eB 19 262143) rfl rfl (bM HT_.out (by kernel_rfl)) (fun _ _ _ h => h) (Or.inl ⟨by rfl,?_⟩) ?_ ?_;rotate_left
                     ·intro w'
                      go_simp;(with_reducible rfl)
                     rotate_left
                     ·simp only [Act.put,cT,cS,cU,bF,bG]
                      rfl
                     refine PX (i:=18) (N:=none) (eB 19 524287) rfl rfl (jY HT_.out (by kernel_rfl)) (by decide) (fun K hK => ?_);refine PG (w1:=?_) (by rfl) rfl ?_ ?_;rotate_left
                     ·go_simp
                      rfl
                     refine hK.out _ _ ?_;clear hK K;refine wV (oD HT_.out (by kernel_rfl)) ?_
                     try go_wp2
                     go_roundg kj51
                     case measure => have:=yS.out;have:=zU.out;have:=OF.out;have:=HK4.out;have:=HK5.out;have:=HJ51.out;omega
                     case rel => exact ⟨(wrap64 (qV + 1)),(y205),(.slice (some ⟨go64,0,none⟩) eE.length aUM),mU,H',⟨by have:=yS.out;have:=zU.out;have:=OF.out;have:=HK4.out;have:=HK5.out;have:=HJ51.out;omega⟩,⟨by (with_reducible repeat first | apply Kd.bX | apply Kd.bW | apply Kd.bP);exact Kd.cC (Kd.cY (p:=⟨go64,((kH) : Int).toNat,none⟩) (Kd.dM iW.out GG64.out (by decide)) (fun _ hk => hk.2) (.int .u8 (Go.bits .xor .u8 (rd eE (kH)) t204))) (fun _ hk => hk.1)⟩,⟨dB HQ68.out⟩,⟨by (with_reducible repeat first | apply aE | apply aG | apply aD);refine aV ?_ (by have h_:=Kd.iV bO.out cE.out (by decide);intro e_;exact h_ (by rw [e_];rfl)) _;(with_reducible repeat first | apply aE | apply aG | apply aD);exact cE.out⟩,⟨by (with_reducible repeat first | apply aE | apply aG | apply aD);refine aV ?_ (by have h_:=Kd.iV bO.out fI.out (by decide);intro e_;exact h_ (by rw [e_];rfl)) _;(with_reducible repeat first | apply aE | apply aG | apply aD);exact fI.out⟩,⟨by repeat (first | (with_reducible first | exact HK.out | apply Kept.alloc | apply Kept.drewN | apply Kept.drew | refine Kept.setCell ?_ HMgo64.out _ | refine Kept.setCell ?_ (.inr pS.out) _ | refine Kept.setCell ?_ (.inr rL.out) _) | exact HK.out)⟩,⟨fE HB GB64 qT sP⟩⟩
                    ·rw [if_neg c61] at H
                     exact absurd H (by simp)
                   ·rw [if_neg c60] at H
                    exact absurd H (by simp)
                  ·replace c58:=Bool.eq_false_iff.mpr c58
                   subst c58;have H1 : (aM.l3 kj51 sQ iH (iI.length : Int) (wrap64 (pP + 1)) aK aI eE) = some (r1,r2,r3,r4):=by rw [if_neg (show ¬ (false = true) by decide)] at H;exact H
                   clear H;have H:=H1;clear H1;have H':=aA.mk H;clear H
                   go_wp2
                   go_roundg kj51
                   case measure => have:=yS.out;have:=zU.out;have:=OF.out;have:=HK4.out;have:=HK5.out;have:=HJ51.out;omega
                   case rel => exact ⟨(wrap64 (pP + 1)),(eE),(eY),mU,H',⟨by have:=yS.out;have:=zU.out;have:=OF.out;have:=HK4.out;have:=HK5.out;have:=HJ51.out;omega⟩,⟨dB iW.out⟩,⟨dB bO.out⟩,⟨gP cE.out⟩,⟨gP fI.out⟩,⟨by repeat (first | (with_reducible first | exact HK.out | apply Kept.alloc | apply Kept.drewN | apply Kept.drew | refine Kept.setCell ?_ (.inr pS.out) _ | refine Kept.setCell ?_ (.inr rL.out) _) | exact HK.out)⟩,⟨dA HB qT sP⟩⟩
             ·rw [if_neg c46] at H
              have aJu : decide (pP < aK) = false:=decide_eq_false c46;clear c46
              by_cases c69 : sQ.length < 17592186044416
              ·rw [if_pos c69] at H
               have LMc69:=aA.mk c69;clear c69;obtain ⟨y198,hy198⟩ : ∃ y_ : List Int,y_ = (sQ ++ [iH]):=⟨_,rfl⟩
               replace H : (aM.l0 k4 y198 (wrap64 (iH + 1)) aK aI pV) = some (r1,r2,r3,r4):=by first | (rw [hy198];with_reducible exact H) | (have H2_:=(Option.bind_some _ _).symm.trans H;rw [hy198];with_reducible exact H2_) | (have H2_:=(Option.bind_some _ _).symm.trans H;with_reducible exact H2_) | with_reducible exact H | (rw [hy198];exact H) | exact H
               have Ny198:=aA.mk hy198;clear hy198;have H':=aA.mk H;clear H;have aXg:=oY.out;have aWB:=oX.out;have bDc:=bL cE 0 (.int .i64 aK) rfl;have bDb:=bL cE 1 (.int .i64 aI) rfl;have bDa:=bL cE 2 eY rfl;have bBF:=aC cE.out 0;have bBE:=aC cE.out 1;have bBD:=aC cE.out 2;go_wp2_with (first | ((with_reducible refine rY (b:=.append) (xs:=#[.tmp 118,.tmp 120]) rfl ?_);at_builtin;refine Kd.aAm (Kd.int .i64) (w0:=w0) w0.heap.size rfl (.tmp 118) (.tmp 120) 37 3 (.int .i64 0) 8 rfl Try.underlying37 aRZ rfl (by decide) (by omega) u4 sQ iH [.int .i64 iH] (fun k_ => (P0_2_ k_ ∨ w.heap.size≤k_)) (fun _ => False) rfl rfl ?aP (fun _ hk => hk.elim) ?aF ?aO ?aB ?aS ?aL ?_;(case aP => exact rfl);(case aB => exact (dA HB qT sP));(case aF => exact (fun k_ hk => (.inr (Nat.le_trans (by first | exact HK.out.1 | exact (show Kept w _ (fun k_ => P0_2_ k_) from by repeat (first | (with_reducible first | exact HK.out | apply Kept.alloc | apply Kept.drewN | apply Kept.drew | refine Kept.setCell ?_ (.inr pS.out) _ | refine Kept.setCell ?_ (.inr rL.out) _) | exact HK.out)).1) hk))));(case aO => exact (dB iW.out));(case aS => exact (bR (dA HB qT sP)));(case aL => have:=LMc69.out;omega);intro bIt w72 ho hb hg hat;rw [← Ny198.out] at ho;have vG:=aA.mk (Kd.AQ (dB bO.out) (Kd.wJ (dB iW.out)) (by decide) hg);have vF:=aA.mk (dG (cH cE) hg (Kd.iV iW.out cE.out (by decide)));have JD:=aA.mk (dG (cH fI) hg (Kd.iV iW.out fI.out (by decide)));have PV:=aA.mk (hb);have PU:=aA.mk (Kept.aFk (S:=(fun k_ => P0_2_ k_)) hg (by repeat (first | (with_reducible first | exact HK.out | apply Kept.alloc | apply Kept.drewN | apply Kept.drew | refine Kept.setCell ?_ (.inr pS.out) _ | refine Kept.setCell ?_ (.inr rL.out) _) | exact HK.out)) (fun k_ e_ => (iW.out.1 k_ e_)));have n5_:=aA.mk (ho);clear bO cE;clear fI HB;clear HK iW;have bO:=vG;have cE:=vF;have fI:=JD;have HB:=PV;have HK:=PU;have aZI:=n5_;clear vG vF JD PV PU n5_;clear ho hb hg hat))
               go_roundg k4
               case measure => have:=yS.out;have:=zU.out;have:=OF.out;have:=HK4.out;omega
               case rel => exact ⟨(y198),(wrap64 (iH + 1)),(pV),(eY),mU,H',⟨by have:=yS.out;have:=zU.out;have:=OF.out;have:=HK4.out;omega⟩,⟨dB aZI.out⟩,⟨dB bO.out⟩,⟨gP cE.out⟩,⟨gP fI.out⟩,⟨by repeat (first | (with_reducible first | exact HK.out | apply Kept.alloc | apply Kept.drewN | apply Kept.drew | refine Kept.setCell ?_ (.inr pS.out) _ | refine Kept.setCell ?_ (.inr rL.out) _) | exact HK.out)⟩,⟨dA HB qT sP⟩⟩
              ·rw [if_neg c69] at H
               exact absurd H (by simp)
      ·rw [if_neg c9] at H
       have QV : decide (iG < aK) = false:=decide_eq_false c9;clear c9;have H':=aA.mk H;clear H;have aXe:=oY.out;have aWz:=oX.out;have bCZ:=bL cE 0 (.int .i64 aK) rfl;have bCY:=bL cE 1 (.int .i64 aI) rfl;have bCX:=bL cE 2 eY rfl;have bBC:=aC cE.out 0;have bBB:=aC cE.out 1;have bBA:=aC cE.out 2
       go_wp2
       go_roundg k2
       case measure => have:=yS.out;have:=zU.out;omega
       case rel => exact ⟨(sQ),(wrap64 (iH + 1)),(kG),(eY),mU,H',⟨by have:=yS.out;have:=zU.out;omega⟩,⟨dB iW.out⟩,⟨dB bO.out⟩,⟨gP cE.out⟩,⟨gP fI.out⟩,⟨by repeat (first | (with_reducible first | exact HK.out | apply Kept.alloc | apply Kept.drewN | apply Kept.drew | refine Kept.setCell ?_ (.inr pS.out) _ | refine Kept.setCell ?_ (.inr rL.out) _) | exact HK.out)⟩,⟨dA HB qT sP⟩⟩
   ·rw [if_neg c5] at H
    have JU : decide (iH < aI) = false:=decide_eq_false c5;clear c5;simp only [Option.some.injEq,Prod.mk.injEq] at H;obtain ⟨rfl,rfl,rfl,rfl⟩:=H;have aXd:=oY.out;have aWy:=oX.out;have bCT:=bL cE 0 (.int .i64 aK) rfl;have bCS:=bL cE 1 (.int .i64 aI) rfl;have bCR:=bL cE 2 eY rfl;have bBw:=aC cE.out 0;have bBv:=aC cE.out 1;have bBu:=aC cE.out 2;have aQU:=bL fI 0 (.int .i64 0) rfl;have aQT:=bL fI 1 (.int .i64 0) rfl;have aQS:=bL fI 2 (.slice none 0 0) rfl;have aQw:=aC fI.out 0;have aQv:=aC fI.out 1;have aQu:=aC fI.out 2;obtain ⟨aVm,aUL,eo78⟩:=Kd.cK bO.out;subst eo78
    go_wp2
    refine bodyPost_ret (dU rfl _ _ BU 24 #[.int .i64 aK,.int .i64 aI,.slice aVm xA.length aUL] (0,0) _ rfl (by (with_reducible repeat first | apply aE | apply aG | apply aD);refine aZ (cs:=#[.int .i64 aK,.int .i64 aI,.slice none 0 0]) ?_ 2 _ rfl;(with_reducible repeat first | apply aE | apply aG | apply aD);refine aZ (cs:=#[.int .i64 aK,.int .i64 0,.slice none 0 0]) ?_ 1 _ rfl;(with_reducible repeat first | apply aE | apply aG | apply aD);refine aZ (cs:=#[.int .i64 0,.int .i64 0,.slice none 0 0]) ?_ 0 _ rfl;(with_reducible repeat first | apply aE | apply aG | apply aD);exact fI.out) Try.underlying24 rfl (by kernel_rfl)) rfl ?_;exact ⟨_,_,tZ,by (with_reducible repeat first | apply Kd.bX | apply Kd.bW | apply Kd.bP);exact Kd.cC (Kd.cY (p:=⟨BU,2,none⟩) (Kd.cY (p:=⟨BU,1,none⟩) (Kd.cY (p:=⟨BU,0,none⟩) (Kd.dM bO.out fI.out (by decide)) (fun _ hk => hk.2) (.int .i64 aK)) (fun _ hk => hk.2) (.int .i64 aI)) (fun _ hk => hk.2) (.slice aVm xA.length aUL)) (fun _ hk => hk.1),by (with_reducible repeat first | apply Kd.bX | apply Kd.bW | apply Kd.bP);exact Kd.cC (Kd.cY (p:=⟨BU,2,none⟩) (Kd.cY (p:=⟨BU,1,none⟩) (Kd.cY (p:=⟨BU,0,none⟩) (Kd.dM iW.out fI.out (by decide)) (fun _ hk => hk.2) (.int .i64 aK)) (fun _ hk => hk.2) (.int .i64 aI)) (fun _ hk => hk.2) (.slice aVm xA.length aUL)) (fun _ hk => hk.1),dA HB qT sP,by repeat (first | (with_reducible first | exact HK.out | apply Kept.alloc | apply Kept.drewN | apply Kept.drew | refine Kept.setCell ?_ (.inr pS.out) _ | refine Kept.setCell ?_ (.inr rL.out) _) | exact HK.out)⟩
end Go.Proofs.Yteofcbkjhdadpaa.Pr
