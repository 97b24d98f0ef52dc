import Derived.Test.YteofcbkjhdadpaaCBuildTopsx0
import Derived.Test.YteofcbkjhdadpaaCBuildTopsx2
import Derived.Test.YteofcbkjhdadpaaCBuildTopsq
set_option maxHeartbeats 8000000
set_option maxRecDepth 100000
set_option linter.unusedSimpArgs false
set_option linter.unusedVariables false
namespace Go.Proofs.Yteofcbkjhdadpaa.Pr
open Go.RowKit Go.Proofs.aI.bE Go.Proofs.aI.fB Go.Proofs.aI.iS
attribute [local go_sem] kQ kO nK nJ jD jC kP kN   -- for this text's walks alone
mutual
def aJ.l0 : Nat→List Int→Int→Int→Int→List Int→Option (Int×Int×List Int×List Int)
 | 0,_,_,_,_,_ => none
 | k + 1,x4,x5,iV,fE,iO => if x5 < fE then (aJ.l1 k x4 x5 (x4.length : Int) (x4.length : Int) iV fE iO) else (some (iV,fE,iO,x4))
def aJ.l1 : Nat→List Int→Int→Int→Int→Int→Int→List Int→Option (Int×Int×List Int×List Int)
 | 0,_,_,_,_,_,_,_ => none
 | k + 1,x4,x5,x6,x7,iV,fE,iO => if x7 < iV then ((cQ.f iV fE iO x7 x5).bind fun t190 => (if t190 = 0 then (aJ.l1 k x4 x5 x6 (wrap64 (x7 + 1)) iV fE iO) else ((iW.f t190).bind fun aMJ => (aJ.l2 k x4 x5 x6 x7 aMJ.1 0 iV fE iO)))) else (aJ.l0 k x4 (wrap64 (x5 + 1)) iV fE iO)
def aJ.l2 : Nat→List Int→Int→Int→Int→Int→Int→Int→Int→List Int→Option (Int×Int×List Int×List Int)
 | 0,_,_,_,_,_,_,_,_,_ => none
 | k + 1,x4,x5,x6,x7,x9,x11,iV,fE,iO => if x11 < fE then ((cQ.f iV fE iO x6 x11).bind fun t193 => ((cQ.f iV fE iO x7 x11).bind fun t194 => (if 0≤(wrap64 ((wrap64 (x7 * fE)) + x11)) then (if (wrap64 ((wrap64 (x7 * fE)) + x11)) < (iO.length : Int) then ((dH.f x9 t194).bind fun t196 => (if 0≤(wrap64 ((wrap64 (x6 * fE)) + x11)) then (if (wrap64 ((wrap64 (x6 * fE)) + x11)) < (iO.length : Int) then (aJ.l2 k x4 x5 x6 x7 x9 (wrap64 (x11 + 1)) iV fE ((iO.set ((wrap64 ((wrap64 (x7 * fE)) + x11)) : Int).toNat t193).set ((wrap64 ((wrap64 (x6 * fE)) + x11)) : Int).toNat t196)) else (none)) else (none))) else (none)) else (none)))) else (aJ.l3 k x4 x5 x6 0 iV fE iO)
def aJ.l3 : Nat→List Int→Int→Int→Int→Int→Int→List Int→Option (Int×Int×List Int×List Int)
 | 0,_,_,_,_,_,_,_ => none
 | k + 1,x4,x5,x6,WE,iV,fE,iO => if WE < iV then ((cQ.f iV fE iO WE x5).bind fun t201 => (aJ.l4 k x4 x5 x6 WE t201 0 iV fE iO)) else (if x4.length < 17592186044416 then (aJ.l0 k (x4 ++ [x5]) (wrap64 (x5 + 1)) iV fE iO) else (none))
def aJ.l4 : Nat→List Int→Int→Int→Int→Int→Int→Int→Int→List Int→Option (Int×Int×List Int×List Int)
 | 0,_,_,_,_,_,_,_,_,_ => none
 | k + 1,x4,x5,x6,WE,x15,x16,iV,fE,iO => if x16 < fE then (aJ.j5 k x4 x5 x6 WE x15 x16 (WE != x6) iV fE iO) else (aJ.j5 k x4 x5 x6 WE x15 x16 false iV fE iO)
def aJ.j5 : Nat→List Int→Int→Int→Int→Int→Int→Bool→Int→Int→List Int→Option (Int×Int×List Int×List Int)
 | 0,_,_,_,_,_,_,_,_,_,_ => none
 | k + 1,x4,x5,x6,WE,x15,x16,x97,iV,fE,iO => if x97 = true then (if 0≤(wrap64 ((wrap64 (WE * fE)) + x16)) then (if (wrap64 ((wrap64 (WE * fE)) + x16)) < (iO.length : Int) then ((cQ.f iV fE iO x6 x16).bind fun t203 => ((dH.f x15 t203).bind fun t204 => (aJ.l4 k x4 x5 x6 WE x15 (wrap64 (x16 + 1)) iV fE (iO.set ((wrap64 ((wrap64 (WE * fE)) + x16)) : Int).toNat (Go.bits .xor .u8 (rd iO (wrap64 ((wrap64 (WE * fE)) + x16))) t204))))) else (none)) else (none)) else (aJ.l3 k x4 x5 x6 (wrap64 (WE + 1)) iV fE iO)
end
def aJ.f (k : Nat) (aQ : Int) (aK : Int) (aV : List Int) : Option (Int×Int×List Int×List Int):=aJ.l0 k ([] : List Int) 0 aQ aK aV
def aJ.T15 : Bool×List (List Nat×List Nat):=(true,[([],[]),([],[]),([],[]),([0,1,2],[0,1,2]),([],[]),([],[]),([],[]),([4,5,6,3],[4,5,6]),([3,7,0,1,2,3],[3]),([7,8,0,1,2,3,4,5,6,7,8],[7])])
def aJ.B15 : List Nat:=[0,0,0,7,0,0,0,127,255,511]
theorem aJ.aUe : rV .any (opsOf Try.f86 15) = aJ.T15:=by kernel_rfl
theorem aJ.aTv : mQ aJ.T15.2 aJ.B15 = true:=by kernel_rfl
def aJ.T17 : Bool×List (List Nat×List Nat):=(true,[([],[]),([0],[0]),([],[]),([],[]),([3],[3]),([2,4],[2,4]),([],[]),([5,6],[5,6]),([],[]),([],[]),([8,9],[8,9]),([1,7,0,1,2,3,4,5,6,7,8,9,10],[1,7]),([11,10,10,0,1,2,3,4,5,6,7,8,9,10],[10,11])])
def aJ.B17 : List Nat:=[0,1,0,0,8,28,0,124,0,0,768,2047,4095]
theorem aJ.aUd : rV .any (opsOf Try.f86 17) = aJ.T17:=by kernel_rfl
theorem aJ.aTu : mQ aJ.T17.2 aJ.B17 = true:=by kernel_rfl
def aJ.T25 : Bool×List (List Nat×List Nat):=(true,[([],[]),([0],[0]),([],[]),([],[]),([3],[3]),([2,4],[2,4]),([],[]),([5,6],[5,6]),([1,7],[1,7]),([8],[8]),([],[]),([],[]),([],[]),([],[]),([11,12,13],[11,12,13]),([10,14,14],[10,14]),([9,15],[9,15]),([1,7,0,1,2,3,4,5,6,7,8,9,10,11,12,13,14,15,16],[1,7]),([17,16,15,0,1,2,3,4,5,6,7,8,9,10,11,12,13,14,15,16],[16,17])])
def aJ.B25 : List Nat:=[0,1,0,0,8,28,0,124,255,511,0,0,0,0,14336,31744,65535,131071,262143]
theorem aJ.aUc : rV .any (opsOf Try.f86 25) = aJ.T25:=by kernel_rfl
theorem aJ.aTt : mQ aJ.T25.2 aJ.B25 = true:=by kernel_rfl
theorem aJ.calls (k : Nat) (aQ : Int) (aK : Int) (P0_2_ : Nat→Prop) (aET : Value) (aV : List Int) (r1 : Int) (r2 : Int) (r3 : List Int) (r4 : List Int) (w0 w : World) (hB : Below w0.heap.size w0 w) (ho0_2 : Kd.R (Kd.int .u8) 5 w w0.heap.size P0_2_ aET aV) (h : aJ.f k aQ aK aV = some (r1,r2,r3,r4)) :
  Calls Try.prog 86 #[.agg #[.int .i64 aQ,.int .i64 aK,aET]] w fun e w' => ∃ vQ v3_ : Value,e = .returned (.tuple #[.agg #[.int .i64 r1,.int .i64 r2,vQ],v3_])∧Kd.R (Kd.int .u8) 5 w' w0.heap.size (fun k_ => (P0_2_ k_ ∨ w.heap.size≤k_)) vQ r3∧Kd.R (Kd.int .i64) 3 w' w0.heap.size (fun k_ => (P0_2_ k_ ∨ w.heap.size≤k_)) v3_ r4∧Below w0.heap.size w0 w'∧Kept w w' (fun k_ => P0_2_ k_):=by
 have CQ:=Try.underlying24;have aBc:=aA.mk (show Kd.R (Kd.int .u8) 5 w w0.heap.size (fun k_ => (P0_2_ k_ ∨ w.heap.size≤k_)) aET aV from Kd.cE ho0_2 (fun k_ hk => (.inl hk)));have HK:=aA.mk (Kept.refl w (fun k_ => P0_2_ k_));have HW0:=aA.mk hB.size;have HB:=aA.mk hB;clear hB;have H : (aJ.l0 k ([] : List Int) 0 aQ aK aV) = some (r1,r2,r3,r4):=h;clear h;have H':=aA.mk H;clear H;obtain ⟨Ao2,co2,eo2⟩:=Kd.cZ aBc.out;subst eo2;go_enter Try.func86,Try.ntmps86;go_wp2_with (first | ((with_reducible refine bU (N:=1) rfl ?_);refine pG (N:=1) (cs:=#[.int .i64 aQ,.int .i64 aK,.slice Ao2 aV.length co2]) (t:=24) ?_;intro xV hg w3 hbox hb;replace aBc:=aA.mk (Kd.aY (cN aBc.out) hb);have cJ:=aA.mk (hbox);have pY:=aA.mk ((by rw [hg];exact (by first | exact HK.out.1 | exact (show Kept w _ (fun k_ => P0_2_ k_) from by repeat (first | (with_reducible first | exact HK.out | apply Kept.alloc | apply Kept.drewN | apply Kept.drew) | exact HK.out)).1) : w.heap.size≤xV));replace HK:=aA.mk (Kept.below (S:=(fun k_ => P0_2_ k_)) (by repeat (first | (with_reducible first | exact HK.out | apply Kept.alloc | apply Kept.drewN | apply Kept.drew) | exact HK.out)) hb);have rS:=aA.mk (gE hg (dN HB) : w0.heap.size≤xV);replace HB:=aA.mk (aM (dN HB) hb);clear hb hbox hg) | ((with_reducible refine bU (N:=2) rfl ?_);refine pG (N:=2) (cs:=#[.int .i64 0,.int .i64 0,.slice none 0 0]) (t:=24) ?_;intro AA hg w4 hbox hb;replace aBc:=aA.mk (Kd.aY (cN aBc.out) hb);have fJ:=aA.mk (hbox);have sG:=aA.mk ((by rw [hg];exact (by first | exact HK.out.1 | exact (show Kept w _ (fun k_ => P0_2_ k_) from by repeat (first | (with_reducible first | exact HK.out | apply Kept.alloc | apply Kept.drewN | apply Kept.drew | refine Kept.setCell ?_ (.inr pY.out) _) | exact HK.out)).1) : w.heap.size≤AA));replace HK:=aA.mk (Kept.below (S:=(fun k_ => P0_2_ k_)) (by repeat (first | (with_reducible first | exact HK.out | apply Kept.alloc | apply Kept.drewN | apply Kept.drew | refine Kept.setCell ?_ (.inr pY.out) _) | exact HK.out)) hb);have tA:=aA.mk (gE hg (dR HB rS) : w0.heap.size≤AA);replace HB:=aA.mk (aM (dR HB rS) hb);have oQ:=aA.mk (lQ hg (bT cJ));have oP:=aA.mk (lR hg (bT cJ));replace cJ:=aA.mk (aH (bT cJ) hb);clear hb hbox hg))
 go_loopg [4,5] k (fun kq v4 v5 w' => ∃ (lK : List Int) (kM : Int) (wE : List Int) (eY : Value),v5 = .int .i64 kM∧aA (aJ.l0 kq lK kM aQ aK wE = some (r1,r2,r3,r4))∧aA (kq≤k)∧aA (Kd.R (Kd.int .i64) 3 w' w0.heap.size (fun k_ => (P0_2_ k_ ∨ w.heap.size≤k_)) v4 lK)∧aA (Kd.R (Kd.int .u8) 5 w' w0.heap.size (fun k_ => (P0_2_ k_ ∨ w.heap.size≤k_)) eY wE)∧aA (w'.heap[xV]? = some (.cells #[.int .i64 aQ,.int .i64 aK,eY] 24 (0,0)))∧aA (w'.heap[AA]? = some (.cells #[.int .i64 0,.int .i64 0,(.slice none 0 0)] 24 (0,0)))∧aA (Kept w w' (fun k_ => P0_2_ k_))∧aA (Below w0.heap.size w0 w'))
 case atStart => exact ⟨(([] : List Int)),(0),(aV),(.slice Ao2 aV.length co2),rT,H',⟨Nat.le_refl _⟩,⟨RP⟩,⟨cN aBc.out⟩,⟨hJ cJ.out⟩,⟨hJ fJ.out⟩,⟨by repeat (first | (with_reducible first | exact HK.out | apply Kept.alloc | apply Kept.drewN | apply Kept.drew | refine Kept.setCell ?_ (.inr pY.out) _ | refine Kept.setCell ?_ (.inr sG.out) _) | exact HK.out)⟩,⟨eA HB rS tA⟩⟩
 case round =>
  clear H';(try clear p2);obtain ⟨lK,kM,wE,eY,rfl,HA,FP,mO,bP,cJ,fJ,HK,HB⟩:=hrel
  cases gk with
  | zero => exact absurd HA.out (by simp [aJ.l0])
  | succ k1 =>
   have H:=HA.out;clear HA;simp only [aJ.l0] at H
   by_cases c5 : kM < aK
   ·rw [if_pos c5] at H
    have IH : decide (kM < aK) = true:=decide_eq_true c5;clear c5;have H':=aA.mk H;clear H;have aUX:=oQ.out;have aUC:=oP.out;have qZ:=bR cJ 0 (.int .i64 aQ) rfl;have qY:=bR cJ 1 (.int .i64 aK) rfl;have qX:=bR cJ 2 eY rfl;have qW:=aD cJ.out 0;have qV:=aD cJ.out 1;have qU:=aD cJ.out 2;obtain ⟨Ao8,co8,eo8⟩:=Kd.cZ mO.out;subst eo8
    go_wp2
    go_loopg [4,7] k1 (fun kq v4 v7 w' => ∃ (tB : List Int) (dD : Int) (kB : List Int) (eY : Value),v7 = .int .i64 dD∧aA (aJ.l1 kq tB kM (lK.length : Int) dD aQ aK kB = some (r1,r2,r3,r4))∧aA (kq≤k1)∧aA (Kd.R (Kd.int .i64) 3 w' w0.heap.size (fun k_ => (P0_2_ k_ ∨ w.heap.size≤k_)) v4 tB)∧aA (Kd.R (Kd.int .u8) 5 w' w0.heap.size (fun k_ => (P0_2_ k_ ∨ w.heap.size≤k_)) eY kB)∧aA (w'.heap[xV]? = some (.cells #[.int .i64 aQ,.int .i64 aK,eY] 24 (0,0)))∧aA (w'.heap[AA]? = some (.cells #[.int .i64 0,.int .i64 0,(.slice none 0 0)] 24 (0,0)))∧aA (Kept w w' (fun k_ => P0_2_ k_))∧aA (Below w0.heap.size w0 w'))
    case atStart => exact ⟨(lK),((lK.length : Int)),(wE),(eY),rT,H',⟨Nat.le_refl _⟩,⟨cN mO.out⟩,⟨cN bP.out⟩,⟨hJ cJ.out⟩,⟨hJ fJ.out⟩,⟨by repeat (first | (with_reducible first | exact HK.out | apply Kept.alloc | apply Kept.drewN | apply Kept.drew | refine Kept.setCell ?_ (.inr pY.out) _ | refine Kept.setCell ?_ (.inr sG.out) _) | exact HK.out)⟩,⟨eA HB rS tA⟩⟩
    case round =>
     clear H';(try clear p2);(try clear c5);(try clear IH);(try clear c6);(try clear c8);(try clear qZ);(try clear qY);(try clear qX);(try clear qW);(try clear qV);(try clear qU);(try clear p2);obtain ⟨tB,dD,kB,eY,rfl,HA,yL,mO,bP,cJ,fJ,HK,HB⟩:=hrel
     cases gk with
     | zero => exact absurd HA.out (by simp [aJ.l1])
     | succ k2 =>
      have H:=HA.out;clear HA;simp only [aJ.l1] at H
      by_cases c9 : dD < aQ
      ·rw [if_pos c9] at H
       have DS : decide (dD < aQ) = true:=decide_eq_true c9;clear c9;replace H:=Option.bind_eq_some_iff.mp H;obtain ⟨t190,aZK,H⟩:=H;replace H : (if t190 = 0 then (aJ.l1 k2 tB kM (lK.length : Int) (wrap64 (dD + 1)) aQ aK kB) else ((iW.f t190).bind fun aMJ => (aJ.l2 k2 tB kM (lK.length : Int) dD aMJ.1 0 aQ aK kB))) = some (r1,r2,r3,r4):=H;have A10:=aA.mk aZK;clear aZK
       by_cases CV : t190 = 0
       ·rw [if_pos CV] at H
        have ME : (t190 == 0) = true:=beq_iff_eq.mpr CV;have aEm : (t190 != 0) = false:=bne_eq_false_iff_eq.mpr CV;clear CV;have H':=aA.mk H;clear H;have aRn:=oQ.out;have aQY:=oP.out;have nQ:=bR cJ 0 (.int .i64 aQ) rfl;have nP:=bR cJ 1 (.int .i64 aK) rfl;have nO:=bR cJ 2 eY rfl;have nN:=aD cJ.out 0;have nM:=aD cJ.out 1;have nL:=aD cJ.out 2;obtain ⟨aZg,aMi,eo14⟩:=Kd.cZ bP.out;subst eo14;go_wp2_with (first | ((with_reducible refine bN (f:=25) rfl ?_);refine eB (some 35) rfl rfl Try.func25 (by kernel_rfl) rfl #[.agg #[.int .i64 aQ,.int .i64 aK,.slice aZg kB.length aMi],.int .i64 dD,.int .i64 kM] rfl pX ?_;(with_reducible refine (cQ.calls aQ aK _ _ kB dD kM t190 _ ?side1 ?side2 A10.out).mono ?_);(case side1 => exact sW ((Kd.bM bP.out).2.2));(case side2 => exact (Kd.bM bP.out).2.1);rintro e w15 ⟨rfl,hb⟩;refine ⟨_,rfl,?_⟩;replace mO:=aA.mk (Kd.aY (cN mO.out) hb);replace bP:=aA.mk (Kd.aY (cN bP.out) hb);replace cJ:=aA.mk (aH (bT cJ) hb);replace fJ:=aA.mk (aH (bT fJ) hb);replace HK:=aA.mk (Kept.below (S:=(fun k_ => P0_2_ k_)) (by repeat (first | (with_reducible first | exact HK.out | apply Kept.alloc | apply Kept.drewN | apply Kept.drew | refine Kept.setCell ?_ (.inr pY.out) _ | refine Kept.setCell ?_ (.inr sG.out) _) | exact HK.out)) hb);replace HB:=aA.mk (aM (eA HB rS tA) hb);(try clear hb);(try clear hb2);(try clear hk);(try clear hi)))
        go_roundg k2
        case measure => have:=FP.out;have:=yL.out;omega
        case rel => exact ⟨(tB),(wrap64 (dD + 1)),(kB),(.slice aZg kB.length aMi),rT,H',⟨by have:=FP.out;have:=yL.out;omega⟩,⟨cN mO.out⟩,⟨cN bP.out⟩,⟨hJ cJ.out⟩,⟨hJ fJ.out⟩,⟨by repeat (first | (with_reducible first | exact HK.out | apply Kept.alloc | apply Kept.drewN | apply Kept.drew | refine Kept.setCell ?_ (.inr pY.out) _ | refine Kept.setCell ?_ (.inr sG.out) _) | exact HK.out)⟩,⟨eA HB rS tA⟩⟩
       ·rw [if_neg CV] at H
        have ME : (t190 == 0) = false:=beq_eq_false_iff_ne.mpr CV;have aEm : (t190 != 0) = true:=bne_iff_ne.mpr CV;replace H:=Option.bind_eq_some_iff.mp H;obtain ⟨⟨t191,t192⟩,aZH,H⟩:=H;replace H : (aJ.l2 k2 tB kM (lK.length : Int) dD t191 0 aQ aK kB) = some (r1,r2,r3,r4):=H;have A16:=aA.mk aZH;clear aZH;have H':=aA.mk H;clear H;have aVl:=oQ.out;have aUQ:=oP.out;have vG:=bR cJ 0 (.int .i64 aQ) rfl;have vF:=bR cJ 1 (.int .i64 aK) rfl;have vE:=bR cJ 2 eY rfl;have vD:=aD cJ.out 0;have vC:=aD cJ.out 1;have vB:=aD cJ.out 2;obtain ⟨aNc,aMg,eo19⟩:=Kd.cZ bP.out;subst eo19;go_wp2_with (first | ((with_reducible refine bN (f:=25) rfl ?_);refine eB (some 35) rfl rfl Try.func25 (by kernel_rfl) rfl #[.agg #[.int .i64 aQ,.int .i64 aK,.slice aNc kB.length aMg],.int .i64 dD,.int .i64 kM] rfl pX ?_;(with_reducible refine (cQ.calls aQ aK _ _ kB dD kM t190 _ ?side1 ?side2 A10.out).mono ?_);(case side1 => exact sW ((Kd.bM bP.out).2.2));(case side2 => exact (Kd.bM bP.out).2.1);rintro e w20 ⟨rfl,hb⟩;refine ⟨_,rfl,?_⟩;replace mO:=aA.mk (Kd.aY (cN mO.out) hb);replace bP:=aA.mk (Kd.aY (cN bP.out) hb);replace cJ:=aA.mk (aH (bT cJ) hb);replace fJ:=aA.mk (aH (bT fJ) hb);replace HK:=aA.mk (Kept.below (S:=(fun k_ => P0_2_ k_)) (by repeat (first | (with_reducible first | exact HK.out | apply Kept.alloc | apply Kept.drewN | apply Kept.drew | refine Kept.setCell ?_ (.inr pY.out) _ | refine Kept.setCell ?_ (.inr sG.out) _) | exact HK.out)) hb);replace HB:=aA.mk (aM (eA HB rS tA) hb);(try clear hb);(try clear hb2);(try clear hk);(try clear hi)) | ((with_reducible refine bN (f:=46) rfl ?_);refine eB (some 40) rfl rfl Try.func46 (by kernel_rfl) rfl #[.int .u8 t190] rfl pX ?_;(with_reducible refine (iW.calls t190 t191 t192 _ A16.out).mono ?_);rintro e w' ⟨rfl,⟨nd,rfl⟩⟩;refine ⟨_,rfl,?_⟩))
        go_loopg [11] k2 (fun kq v11 w' => ∃ (iQ : Int) (eF : List Int) (eY : Value),v11 = .int .i64 iQ∧aA (aJ.l2 kq tB kM (lK.length : Int) dD t191 iQ aQ aK eF = some (r1,r2,r3,r4))∧aA (kq≤k2)∧aA (Kd.R (Kd.int .i64) 3 w' w0.heap.size (fun k_ => (P0_2_ k_ ∨ w.heap.size≤k_)) u4 tB)∧aA (Kd.R (Kd.int .u8) 5 w' w0.heap.size (fun k_ => (P0_2_ k_ ∨ w.heap.size≤k_)) eY eF)∧aA (w'.heap[xV]? = some (.cells #[.int .i64 aQ,.int .i64 aK,eY] 24 (0,0)))∧aA (w'.heap[AA]? = some (.cells #[.int .i64 0,.int .i64 0,(.slice none 0 0)] 24 (0,0)))∧aA (Kept w w' (fun k_ => P0_2_ k_))∧aA (Below w0.heap.size w0 w'))
        case atStart => exact ⟨(0),(kB),(.slice aNc kB.length aMg),rT,H',⟨Nat.le_refl _⟩,⟨cN mO.out⟩,⟨cN bP.out⟩,⟨hJ cJ.out⟩,⟨hJ fJ.out⟩,⟨by repeat (first | (with_reducible first | exact HK.out | apply Kept.alloc | apply Kept.drewN | apply Kept.drew | refine Kept.setCell ?_ (.inr pY.out) _ | refine Kept.setCell ?_ (.inr sG.out) _) | exact HK.out)⟩,⟨eA HB rS tA⟩⟩
        case round =>
         clear H';(try clear c1);(try clear c2);(try clear p2);(try clear c4);(try clear c5);(try clear IH);(try clear c6);(try clear p6);(try clear c8);(try clear c9);(try clear DS);(try clear CV);(try clear ME);(try clear aEm);(try clear yK);(try clear UK);(try clear nQ);(try clear nP);(try clear nO);(try clear vG);(try clear vF);(try clear vE);(try clear qZ);(try clear qY);(try clear qX);(try clear nN);(try clear nM);(try clear nL);(try clear vD);(try clear vC);(try clear vB);(try clear qW);(try clear qV);(try clear qU);(try clear p2);obtain ⟨iQ,eF,eY,rfl,HA,UN,mO,bP,cJ,fJ,HK,HB⟩:=hrel
         cases gk with
         | zero => exact absurd HA.out (by simp [aJ.l2])
         | succ k3 =>
          have H:=HA.out;clear HA;simp only [aJ.l2] at H
          by_cases EH : iQ < aK
          ·rw [if_pos EH] at H
           have MD : decide (iQ < aK) = true:=decide_eq_true EH;clear EH;replace H:=Option.bind_eq_some_iff.mp H;obtain ⟨t193,aZE,H⟩:=H;replace H : ((cQ.f aQ aK eF dD iQ).bind fun t194 => (if 0≤(wrap64 ((wrap64 (dD * aK)) + iQ)) then (if (wrap64 ((wrap64 (dD * aK)) + iQ)) < (eF.length : Int) then ((dH.f t191 t194).bind fun t196 => (if 0≤(wrap64 ((wrap64 ((lK.length : Int) * aK)) + iQ)) then (if (wrap64 ((wrap64 ((lK.length : Int) * aK)) + iQ)) < (eF.length : Int) then (aJ.l2 k3 tB kM (lK.length : Int) dD t191 (wrap64 (iQ + 1)) aQ aK ((eF.set ((wrap64 ((wrap64 (dD * aK)) + iQ)) : Int).toNat t193).set ((wrap64 ((wrap64 ((lK.length : Int) * aK)) + iQ)) : Int).toNat t196)) else (none)) else (none))) else (none)) else (none))) = some (r1,r2,r3,r4):=H;have A22:=aA.mk aZE;clear aZE;replace H:=Option.bind_eq_some_iff.mp H;obtain ⟨t194,aZD,H⟩:=H;replace H : (if 0≤(wrap64 ((wrap64 (dD * aK)) + iQ)) then (if (wrap64 ((wrap64 (dD * aK)) + iQ)) < (eF.length : Int) then ((dH.f t191 t194).bind fun t196 => (if 0≤(wrap64 ((wrap64 ((lK.length : Int) * aK)) + iQ)) then (if (wrap64 ((wrap64 ((lK.length : Int) * aK)) + iQ)) < (eF.length : Int) then (aJ.l2 k3 tB kM (lK.length : Int) dD t191 (wrap64 (iQ + 1)) aQ aK ((eF.set ((wrap64 ((wrap64 (dD * aK)) + iQ)) : Int).toNat t193).set ((wrap64 ((wrap64 ((lK.length : Int) * aK)) + iQ)) : Int).toNat t196)) else (none)) else (none))) else (none)) else (none)) = some (r1,r2,r3,r4):=H
           have A23:=aA.mk aZD;clear aZD;obtain ⟨MW,aDT⟩ : ∃ j_ : Int,(wrap64 ((wrap64 (dD * aK)) + iQ)) = j_:=⟨_,rfl⟩
           replace H : (if 0≤(MW) then (if (MW) < (eF.length : Int) then ((dH.f t191 t194).bind fun t196 => (if 0≤(wrap64 ((wrap64 ((lK.length : Int) * aK)) + iQ)) then (if (wrap64 ((wrap64 ((lK.length : Int) * aK)) + iQ)) < (eF.length : Int) then (aJ.l2 k3 tB kM (lK.length : Int) dD t191 (wrap64 (iQ + 1)) aQ aK ((eF.set ((MW) : Int).toNat t193).set ((wrap64 ((wrap64 ((lK.length : Int) * aK)) + iQ)) : Int).toNat t196)) else (none)) else (none))) else (none)) else (none)) = some (r1,r2,r3,r4):=by first | (rw [aDT] at H;exact H) | (simp only [aDT] at H ⊢;exact H)
           (try rw [aDT] at A22);(try rw [aDT] at A23);have bEF : (IntKind.i64.wrap ((wrap64 (dD * aK)) + iQ)) = MW:=(bG _).trans aDT
           by_cases c25 : 0≤(MW)
           ·rw [if_pos c25] at H
            have aMt : decide (0≤(MW)) = true:=decide_eq_true c25;clear c25
            by_cases c26 : (MW) < (eF.length : Int)
            ·rw [if_pos c26] at H
             have aHE : decide ((MW) < (eF.length : Int)) = true:=decide_eq_true c26;clear c26;obtain ⟨y195,hy195⟩ : ∃ y_ : List Int,y_ = (eF.set ((MW) : Int).toNat t193):=⟨_,rfl⟩
             replace H : ((dH.f t191 t194).bind fun t196 => (if 0≤(wrap64 ((wrap64 ((lK.length : Int) * aK)) + iQ)) then (if (wrap64 ((wrap64 ((lK.length : Int) * aK)) + iQ)) < (eF.length : Int) then (aJ.l2 k3 tB kM (lK.length : Int) dD t191 (wrap64 (iQ + 1)) aQ aK (y195.set ((wrap64 ((wrap64 ((lK.length : Int) * aK)) + iQ)) : Int).toNat t196)) else (none)) else (none))) = some (r1,r2,r3,r4):=by first | (rw [hy195];with_reducible exact H) | (have H2_:=(Option.bind_some _ _).symm.trans H;rw [hy195];with_reducible exact H2_) | (have H2_:=(Option.bind_some _ _).symm.trans H;with_reducible exact H2_) | with_reducible exact H | (rw [hy195];exact H) | exact H
             have Ny195:=aA.mk hy195;clear hy195;replace H:=Option.bind_eq_some_iff.mp H;obtain ⟨t196,aZB,H⟩:=H;replace H : (if 0≤(wrap64 ((wrap64 ((lK.length : Int) * aK)) + iQ)) then (if (wrap64 ((wrap64 ((lK.length : Int) * aK)) + iQ)) < (eF.length : Int) then (aJ.l2 k3 tB kM (lK.length : Int) dD t191 (wrap64 (iQ + 1)) aQ aK (y195.set ((wrap64 ((wrap64 ((lK.length : Int) * aK)) + iQ)) : Int).toNat t196)) else (none)) else (none)) = some (r1,r2,r3,r4):=H;have A28:=aA.mk aZB;clear aZB;obtain ⟨PB,aAB⟩ : ∃ j_ : Int,(wrap64 ((wrap64 ((lK.length : Int) * aK)) + iQ)) = j_:=⟨_,rfl⟩
             replace H : (if 0≤(PB) then (if (PB) < (eF.length : Int) then (aJ.l2 k3 tB kM (lK.length : Int) dD t191 (wrap64 (iQ + 1)) aQ aK (y195.set ((PB) : Int).toNat t196)) else (none)) else (none)) = some (r1,r2,r3,r4):=by first | (rw [aAB] at H;exact H) | (simp only [aAB] at H ⊢;exact H)
             (try rw [aAB] at A22);(try rw [aAB] at A23);(try rw [aAB] at A28);have bEE : (IntKind.i64.wrap ((wrap64 ((lK.length : Int) * aK)) + iQ)) = PB:=(bG _).trans aAB
             by_cases YD : 0≤(PB)
             ·rw [if_pos YD] at H
              have TV : decide (0≤(PB)) = true:=decide_eq_true YD;clear YD
              by_cases ZE : (PB) < (eF.length : Int)
              ·rw [if_pos ZE] at H
               have aHC : decide ((PB) < (eF.length : Int)) = true:=decide_eq_true ZE;clear ZE;obtain ⟨y197,hy197⟩ : ∃ y_ : List Int,y_ = (y195.set ((PB) : Int).toNat t196):=⟨_,rfl⟩
               replace H : (aJ.l2 k3 tB kM (lK.length : Int) dD t191 (wrap64 (iQ + 1)) aQ aK y197) = some (r1,r2,r3,r4):=by first | (rw [hy197];with_reducible exact H) | (have H2_:=(Option.bind_some _ _).symm.trans H;rw [hy197];with_reducible exact H2_) | (have H2_:=(Option.bind_some _ _).symm.trans H;with_reducible exact H2_) | with_reducible exact H | (rw [hy197];exact H) | exact H
               have Ny197:=aA.mk hy197;clear hy197;have H':=aA.mk H;clear H;have aRg:=oQ.out;have aQR:=oP.out;have BO:=bR cJ 0 (.int .i64 aQ) rfl;have BN:=bR cJ 1 (.int .i64 aK) rfl;have BM:=bR cJ 2 eY rfl;have BB:=aD cJ.out 0;have BA:=aD cJ.out 1;have AZ:=aD cJ.out 2
               try go_wp2
               replace mO:=aA.mk (Kd.bQ mO.out);replace bP:=aA.mk (Kd.bQ bP.out);replace cJ:=aA.mk (aG cJ.out);replace fJ:=aA.mk (aG fJ.out);replace HK:=aA.mk (Kept.drew HK.out);replace HB:=aA.mk (dO HB.out);obtain ⟨aQA,aEe,eo36⟩:=Kd.cZ bP.out
               (first | subst eo36 | (injection eo36 with f1_ f2_ f3_;have f4_:=f1_.symm;have f5_:=f3_.symm;clear f1_ f2_ f3_;subst f4_;subst f5_));refine qR (n:=10) (S:=fun w' => w'.cell? ⟨xV,0,none⟩ = some (.int .i64 aQ)∧w'.cell? ⟨xV,1,none⟩ = some (.int .i64 aK)∧w'.cell? ⟨xV,2,none⟩ = some (.slice aQA eF.length aEe)) (ds:=[]) #[false,false,false,false,false,false,false,false,false,false] (by kernel_rfl) rfl rfl ⟨(aU cJ.out 0).trans rfl,(aU cJ.out 1).trans rfl,(aU cJ.out 2).trans rfl⟩ (fun hHeld => ?_);refine jO aJ.aUe aJ.aTv (fun HT_ HW_ => ?_);generalize wr.drew = w35 at mO bP cJ fJ HK HB hHeld ⊢;refine cB (i:=1) (N:=some 50) (v:=?_) (a':=?_) (eE 10 2) rfl rfl (bK HT_.out (by kernel_rfl)) (fun _ _ _ h => h) (Or.inl ⟨by rfl,?_⟩) ?_ ?_;rotate_left
               ·intro w'
                go_simp;(with_reducible rfl)
               rotate_left
               ·simp only [Act.put,cV,cT,cW,bG,bH]
                rfl
               refine cB (i:=2) (N:=some 51) (v:=?_) (a':=?_) (eE 10 6) rfl rfl (bK HT_.out (by kernel_rfl)) (fun _ _ _ h => h) (Or.inl ⟨by rfl,?_⟩) ?_ ?_;rotate_left
               ·intro w'
                go_simp;(with_reducible rfl)
               rotate_left
               ·simp only [Act.put,cV,cT,cW,bG,bH]
                rfl
               refine cB (i:=5) (N:=some 54) (v:=?_) (a':=?_) (eE 10 38) rfl rfl (bK HT_.out (by kernel_rfl)) (fun _ _ _ h => h) (Or.inl ⟨by rfl,?_⟩) ?_ ?_;rotate_left
               ·intro w'
                go_simp;(with_reducible rfl)
               rotate_left
               ·simp only [Act.put,cV,cT,cW,bG,bH]
                rfl
               refine cB (i:=6) (N:=some 55) (v:=?_) (a':=?_) (eE 10 102) rfl rfl (bK HT_.out (by kernel_rfl)) (fun _ _ _ h => h) (Or.inl ⟨by rfl,?_⟩) ?_ ?_;rotate_left
               ·intro w'
                go_simp;(with_reducible rfl)
               rotate_left
               ·simp only [Act.put,cV,cT,cW,bG,bH]
                rfl
               refine hY (i:=0) (N:=some 49) (v:=?_) (a':=?_) (eE 10 103) rfl rfl (dZ HT_.out HW_.out (by kernel_rfl)) (fun _ _ _ h => h) (Or.inl ⟨by rfl,?_⟩) hHeld ?_ ?_;rotate_left
               ·rintro w' ⟨s0,s1,s2⟩
                go_simp;(with_reducible rfl)
               rotate_left
               ·simp only [Act.put,cV,cT,cW,bG,bH]
                rfl
               refine hY (i:=4) (N:=some 53) (v:=?_) (a':=?_) (eE 10 119) rfl rfl (dZ HT_.out HW_.out (by kernel_rfl)) (fun _ _ _ h => h) (Or.inl ⟨by rfl,?_⟩) hHeld ?_ ?_;rotate_left
               ·rintro w' ⟨s0,s1,s2⟩
                go_simp;(with_reducible rfl)
               rotate_left
               ·simp only [Act.put,cV,cT,cW,bG,bH]
                rfl
               refine yR (i:=3) (N:=some 52) (eE 10 127) rfl rfl (iU HT_.out (by kernel_rfl)) (by decide) (fun K hK => ?_);refine xS Try.func25 (by kernel_rfl) rfl #[.agg #[.int .i64 aQ,.int .i64 aK,.slice aQA eF.length aEe],.int .i64 (lK.length : Int),.int .i64 iQ] (by rfl) rfl rfl pX ?_
               with_reducible refine (cQ.calls aQ aK _ _ eF (lK.length : Int) iQ t193 _ ?side1 ?side2 A22.out).mono ?_
               (case side1 => exact sW ((Kd.bM bP.out).2.2))
               (case side2 => exact (Kd.bM bP.out).2.1);rintro e w37 ⟨rfl,hb⟩;refine ⟨_,rfl,?_⟩;replace mO:=aA.mk (Kd.aY (cN mO.out) hb);replace bP:=aA.mk (Kd.aY (cN bP.out) hb);replace cJ:=aA.mk (aH (bT cJ) hb);replace fJ:=aA.mk (aH (bT fJ) hb);replace HK:=aA.mk (Kept.below (S:=(fun k_ => P0_2_ k_)) (by repeat (first | (with_reducible first | exact HK.out | apply Kept.alloc | apply Kept.drewN | apply Kept.drew | refine Kept.setCell ?_ (.inr pY.out) _ | refine Kept.setCell ?_ (.inr sG.out) _) | exact HK.out)) hb);replace HB:=aA.mk (aM (eA HB rS tA) hb);(try clear hb);(try clear hb2);(try clear hk);(try clear hi);refine hK.out _ _ ⟨(aU cJ.out 0).trans rfl,(aU cJ.out 1).trans rfl,(aU cJ.out 2).trans rfl⟩ (fun hHeld => ?_);clear hK K;refine kY (a':=?_) ?_ ?_;rotate_left
               ·show Act.put _ (some 52) _ = _
                simp only [Act.put,cV,cT,cW,bG,bH];rfl
               refine yR (i:=7) (N:=some 56) (eE 10 255) rfl rfl (iU HT_.out (by kernel_rfl)) (by decide) (fun K hK => ?_);refine xS Try.func25 (by kernel_rfl) rfl #[.agg #[.int .i64 aQ,.int .i64 aK,.slice aQA eF.length aEe],.int .i64 dD,.int .i64 iQ] (by rfl) rfl rfl pX ?_
               with_reducible refine (cQ.calls aQ aK _ _ eF dD iQ t194 _ ?side1 ?side2 A23.out).mono ?_
               (case side1 => exact sW ((Kd.bM bP.out).2.2))
               (case side2 => exact (Kd.bM bP.out).2.1);rintro e w38 ⟨rfl,hb⟩;refine ⟨_,rfl,?_⟩;replace mO:=aA.mk (Kd.aY (cN mO.out) hb);replace bP:=aA.mk (Kd.aY (cN bP.out) hb);replace cJ:=aA.mk (aH (bT cJ) hb);replace fJ:=aA.mk (aH (bT fJ) hb);replace HK:=aA.mk (Kept.below (S:=(fun k_ => P0_2_ k_)) (by repeat (first | (with_reducible first | exact HK.out | apply Kept.alloc | apply Kept.drewN | apply Kept.drew | refine Kept.setCell ?_ (.inr pY.out) _ | refine Kept.setCell ?_ (.inr sG.out) _) | exact HK.out)) hb);replace HB:=aA.mk (aM (eA HB rS tA) hb);(try clear hb);(try clear hb2);(try clear hk);(try clear hi);refine hK.out _ _ ⟨(aU cJ.out 0).trans rfl,(aU cJ.out 1).trans rfl,(aU cJ.out 2).trans rfl⟩ (fun hHeld => ?_);clear hK K;refine kY (a':=?_) ?_ ?_;rotate_left
               ·show Act.put _ (some 56) _ = _
                simp only [Act.put,cV,cT,cW,bG,bH];rfl
               refine cB (i:=8) (N:=some 12) (v:=?_) (a':=?_) (eE 10 511) rfl rfl (bK HT_.out (by kernel_rfl)) (fun _ _ _ h => h) (Or.inl ⟨by rfl,?_⟩) ?_ ?_;rotate_left
               ·intro w'
                go_simp;(with_reducible rfl)
               rotate_left
               ·simp only [Act.put,cV,cT,cW,bG,bH]
                rfl
               refine cB (i:=9) (N:=some 13) (v:=?_) (a':=?_) (eE 10 1023) rfl rfl (bK HT_.out (by kernel_rfl)) (fun _ _ _ h => h) (Or.inl ⟨by rfl,?_⟩) ?_ ?_;rotate_left
               ·intro w'
                go_simp;(with_reducible rfl)
               rotate_left
               ·simp only [Act.put,cV,cT,cW,bG,bH]
                rfl
               refine vY (oG HT_.out (by kernel_rfl)) ?_;have QP:=bR cJ 0 (.int .i64 aQ) rfl;have QO:=bR cJ 1 (.int .i64 aK) rfl;have QN:=bR cJ 2 (.slice aQA eF.length aEe) rfl;have PX:=aD cJ.out 0;have PW:=aD cJ.out 1;have PV:=aD cJ.out 2;have p27 : 0≤((MW) : Int):=of_decide_eq_true pH;have q27 : ((MW) : Int) < ((eF.length : Int) : Int):=of_decide_eq_true pH;obtain ⟨go27,NB,eo27,aXu,gl27,cl27,HG27⟩:=Kd.CT bP.out (by omega)
               (first | cases eo27 | (injection eo27 with ea_ en_ ec_;(first | subst ea_ | (injection ea_ with ea_;subst ea_));subst ec_;clear en_));have GB27:=aA.mk aXu;have GG27:=aA.mk HG27;clear aXu gl27 HG27;have HMgo27:=aA.mk (show (P0_2_ go27 ∨ w.heap.size≤go27) from (bP.out.1 _ rfl));obtain ⟨hx27_0,hf27_0⟩:=Kd.rQ 0 bP.out ((MW) : Int) p27 q27;replace p27:=eq_true p27;replace q27:=eq_true q27;obtain ⟨hy40_,hz40_⟩:=Kd.rQ 0 bP.out ((MW) : Int) (of_decide_eq_true pH) (of_decide_eq_true pH);have HP40:=Kd.YO bP.out ((MW) : Int) t193
               try go_wp2_with (first | ((with_reducible refine AB (t:=5) (p:=66) rfl ?_);refine xN (t:=5) (p:=66) (v:=?vo_w41) (w1:=(w38.setCell ⟨go27,((MW) : Int).toNat,none⟩ (.int .u8 t193))) ?hg ?ho ?hn ?hr ?_;(case ho => rfl);(case hg => rfl);(case hn => rfl);(case hr => first | (go_simp;done) | (go_simp;rfl));intro w41 hw;have hg : w38.grownBy w41 (some go27):=(by rw [hw];exact HP40.2);have hp_ : Kd.R (Kd.int .u8) 5 w41 w0.heap.size (fun k_ => (P0_2_ k_ ∨ w.heap.size≤k_)) (.slice (some ⟨go27,0,none⟩) eF.length aEe) y195:=(by rw [hw,Ny195.out];exact HP40.1);clear HP40;replace mO:=aA.mk (Kd.aHR (v:=(.slice (some ⟨go27,0,none⟩) eF.length aEe)) (cN mO.out) (Kd.aDa bP.out) (by decide) hg);replace cJ:=aA.mk (fL (bT cJ) hg (Kd.oY bP.out cJ.out (by decide)));replace fJ:=aA.mk (fL (bT fJ) hg (Kd.oY bP.out fJ.out (by decide)));replace HB:=aA.mk ((by rw [hw];exact cM (HB.out) GB27.out : Below w0.heap.size w0 w41));replace HK:=aA.mk (Kept.aDG (S:=(fun k_ => P0_2_ k_)) hg (by repeat (first | (with_reducible first | exact HK.out | apply Kept.alloc | apply Kept.drewN | apply Kept.drew | refine Kept.setCell ?_ (.inr pY.out) _ | refine Kept.setCell ?_ (.inr sG.out) _) | exact HK.out)) (fun k_ e_ => (bP.out.1 k_ e_)));replace bP:=aA.mk (hp_);clear hg hw hp_))
               replace mO:=aA.mk (Kd.bQ mO.out);replace bP:=aA.mk (Kd.bQ bP.out);replace cJ:=aA.mk (aG cJ.out);replace fJ:=aA.mk (aG fJ.out);replace HK:=aA.mk (Kept.drew HK.out);replace HB:=aA.mk (dO HB.out);refine qR (n:=13) (S:=fun w' => w'.cell? ⟨xV,0,none⟩ = some (.int .i64 aQ)∧w'.cell? ⟨xV,1,none⟩ = some (.int .i64 aK)∧w'.cell? ⟨xV,2,none⟩ = some (.slice (some ⟨go27,0,none⟩) eF.length aEe)) (ds:=[12]) #[false,false,false,false,false,false,false,false,false,false,false,false,false] (by kernel_rfl) rfl rfl ⟨(aU cJ.out 0).trans rfl,(aU cJ.out 1).trans rfl,(aU cJ.out 2).trans rfl⟩ (fun hHeld => ?_);refine jO aJ.aUd aJ.aTu (fun HT_ HW_ => ?_);generalize w41.drew = w42 at mO bP cJ fJ HK HB hHeld ⊢;refine cB (i:=0) (N:=some 67) (v:=?_) (a':=?_) (eE 13 1) rfl rfl (bK HT_.out (by kernel_rfl)) (fun _ _ _ h => h) (Or.inl ⟨by rfl,?_⟩) ?_ ?_;rotate_left
               ·intro w'
                go_simp;(with_reducible rfl)
               rotate_left
               ·simp only [Act.put,cV,cT,cW,bG,bH]
                rfl
               refine cB (i:=2) (N:=some 69) (v:=?_) (a':=?_) (eE 13 5) rfl rfl (bK HT_.out (by kernel_rfl)) (fun _ _ _ h => h) (Or.inl ⟨by rfl,?_⟩) ?_ ?_;rotate_left
               ·intro w'
                go_simp;(with_reducible rfl)
               rotate_left
               ·simp only [Act.put,cV,cT,cW,bG,bH]
                rfl
               refine cB (i:=3) (N:=some 70) (v:=?_) (a':=?_) (eE 13 13) rfl rfl (bK HT_.out (by kernel_rfl)) (fun _ _ _ h => h) (Or.inl ⟨by rfl,?_⟩) ?_ ?_;rotate_left
               ·intro w'
                go_simp;(with_reducible rfl)
               rotate_left
               ·simp only [Act.put,cV,cT,cW,bG,bH]
                rfl
               refine cB (i:=6) (N:=some 73) (v:=?_) (a':=?_) (eE 13 77) rfl rfl (bK HT_.out (by kernel_rfl)) (fun _ _ _ h => h) (Or.inl ⟨by rfl,?_⟩) ?_ ?_;rotate_left
               ·intro w'
                go_simp;(with_reducible rfl)
               rotate_left
               ·simp only [Act.put,cV,cT,cW,bG,bH]
                rfl
               refine cB (i:=8) (N:=some 75) (v:=?_) (a':=?_) (eE 13 333) rfl rfl (bK HT_.out (by kernel_rfl)) (fun _ _ _ h => h) (Or.inl ⟨by rfl,?_⟩) ?_ ?_;rotate_left
               ·intro w'
                go_simp;(with_reducible rfl)
               rotate_left
               ·simp only [Act.put,cV,cT,cW,bG,bH]
                rfl
               refine cB (i:=9) (N:=some 76) (v:=?_) (a':=?_) (eE 13 845) rfl rfl (bK HT_.out (by kernel_rfl)) (fun _ _ _ h => h) (Or.inl ⟨by rfl,?_⟩) ?_ ?_;rotate_left
               ·intro w'
                go_simp;(with_reducible rfl)
               rotate_left
               ·simp only [Act.put,cV,cT,cW,bG,bH]
                rfl
               refine hY (i:=1) (N:=some 68) (v:=?_) (a':=?_) (eE 13 847) rfl rfl (dZ HT_.out HW_.out (by kernel_rfl)) (fun _ _ _ h => h) (Or.inl ⟨by rfl,?_⟩) hHeld ?_ ?_;rotate_left
               ·rintro w' ⟨s0,s1,s2⟩
                go_simp;(with_reducible rfl)
               rotate_left
               ·simp only [Act.put,cV,cT,cW,bG,bH]
                rfl
               refine hY (i:=4) (N:=some 71) (v:=?_) (a':=?_) (eE 13 863) rfl rfl (dZ HT_.out HW_.out (by kernel_rfl)) (fun _ _ _ h => h) (Or.inl ⟨by rfl,?_⟩) hHeld ?_ ?_;rotate_left
               ·rintro w' ⟨s0,s1,s2⟩
                go_simp;(with_reducible rfl)
               rotate_left
               ·simp only [Act.put,cV,cT,cW,bG,bH]
                rfl
               refine cB (i:=5) (N:=some 72) (v:=?_) (a':=?_) (eE 13 895) rfl rfl (bK HT_.out (by kernel_rfl)) (fun _ _ _ h => h) (Or.inl ⟨by rfl,?_⟩) ?_ ?_;rotate_left
               ·intro w'
                go_simp;(with_reducible rfl)
               rotate_left
               ·simp only [Act.put,cV,cT,cW,bG,bH]
                rfl
               refine cB (i:=7) (N:=some 74) (v:=?_) (a':=?_) (eE 13 1023) rfl rfl (bK HT_.out (by kernel_rfl)) (fun _ _ _ h => h) (Or.inl ⟨by rfl,?_⟩) ?_ ?_;rotate_left
               ·intro w'
                go_simp;(with_reducible rfl)
               rotate_left
               ·simp only [Act.put,cV,cT,cW,bG,bH]
                rfl
               refine yR (i:=10) (N:=some 77) (eE 13 2047) rfl rfl (iU HT_.out (by kernel_rfl)) (by decide) (fun K hK => ?_);refine xS Try.func24 (by kernel_rfl) rfl #[.int .u8 t191,.int .u8 t194] (by rfl) rfl rfl pX ?_
               with_reducible refine (dH.calls t191 t194 t196 _ A28.out).mono ?_
               rintro e w' ⟨rfl,⟨nd,rfl⟩⟩;refine ⟨_,rfl,?_⟩;have p32 : 0≤((PB) : Int):=of_decide_eq_true pH;have q32 : ((PB) : Int) < ((eF.length : Int) : Int):=of_decide_eq_true pH;obtain ⟨hx32_0,hf32_0⟩:=Kd.rQ 0 bP.out ((PB) : Int) p32 q32;replace p32:=eq_true p32;replace q32:=eq_true q32;have HP43:=Kd.NH bP.out ((PB) : Int) t196;rw [← Ny197.out] at HP43;have HQ43:=aA.mk HP43;clear HP43;refine hK.out _ _ ⟨(aU cJ.out 0).trans rfl,(aU cJ.out 1).trans rfl,(aU cJ.out 2).trans rfl⟩ (fun hHeld => ?_);clear hK K;refine kY (a':=?_) ?_ ?_;rotate_left
               ·show Act.put _ (some 77) _ = _
                simp only [Act.put,cV,cT,cW,bG,bH];rfl
               refine cB (i:=11) (N:=some 78) (v:=?_) (a':=?_) (eE 13 4095) rfl rfl (bK HT_.out (by kernel_rfl)) (fun _ _ _ h => h) (Or.inl ⟨by rfl,?_⟩) ?_ ?_;rotate_left
               ·intro w'
                go_simp;(with_reducible rfl)
               rotate_left
               ·simp only [Act.put,cV,cT,cW,bG,bH]
                rfl
               refine OZ (i:=12) (N:=none) (eE 13 8191) rfl rfl (iU HT_.out (by kernel_rfl)) (by decide) (fun K hK => ?_);refine GN (w1:=?_) (by rfl) rfl ?_ ?_;rotate_left
               ·go_simp
                rfl
               refine hK.out _ _ ?_;clear hK K;refine vY (oG HT_.out (by kernel_rfl)) ?_
               try go_wp2
               go_roundg k3
               case measure => have:=FP.out;have:=yL.out;have:=UN.out;omega
               case rel => exact ⟨(wrap64 (iQ + 1)),(y197),(.slice (some ⟨go27,0,none⟩) eF.length aEe),rT,H',⟨by have:=FP.out;have:=yL.out;have:=UN.out;omega⟩,⟨by (with_reducible repeat first | apply Kd.bX | apply Kd.bW | apply Kd.bQ);exact Kd.cE (Kd.cU (p:=⟨go27,((PB) : Int).toNat,none⟩) (Kd.eM mO.out (Kd.aDa bP.out _ rfl).choose_spec (by decide)) (fun _ hk => hk.2) (.int .u8 t196)) (fun _ hk => hk.1)⟩,⟨cN HQ43.out⟩,⟨by (with_reducible repeat first | apply aE | apply aG | apply aC);refine aN ?_ (by have h_:=Kd.oY bP.out cJ.out (by decide);intro e_;exact h_ (by rw [e_];rfl)) _;(with_reducible repeat first | apply aE | apply aG | apply aC);exact cJ.out⟩,⟨by (with_reducible repeat first | apply aE | apply aG | apply aC);refine aN ?_ (by have h_:=Kd.oY bP.out fJ.out (by decide);intro e_;exact h_ (by rw [e_];rfl)) _;(with_reducible repeat first | apply aE | apply aG | apply aC);exact fJ.out⟩,⟨by repeat (first | (with_reducible first | exact HK.out | apply Kept.alloc | apply Kept.drewN | apply Kept.drew | refine Kept.setCell ?_ HMgo27.out _ | refine Kept.setCell ?_ (.inr pY.out) _ | refine Kept.setCell ?_ (.inr sG.out) _) | exact HK.out)⟩,⟨jU HB GB27 rS tA⟩⟩
              ·rw [if_neg ZE] at H
               exact absurd H (by simp)
             ·rw [if_neg YD] at H
              exact absurd H (by simp)
            ·rw [if_neg c26] at H
             exact absurd H (by simp)
           ·rw [if_neg c25] at H
            exact absurd H (by simp)
          ·rw [if_neg EH] at H
           have MD : decide (iQ < aK) = false:=decide_eq_false EH;clear EH;have H':=aA.mk H;clear H;have aRc:=oQ.out;have aQN:=oP.out;have QM:=bR cJ 0 (.int .i64 aQ) rfl;have QL:=bR cJ 1 (.int .i64 aK) rfl;have QK:=bR cJ 2 eY rfl;have PU:=aD cJ.out 0;have PT:=aD cJ.out 1;have PS:=aD cJ.out 2
           go_wp2
           go_loopg [14] k3 (fun kq v14 w' => ∃ (pW : Int) (qC : List Int) (eY : Value),v14 = .int .i64 pW∧aA (aJ.l3 kq tB kM (lK.length : Int) pW aQ aK qC = some (r1,r2,r3,r4))∧aA (kq≤k3)∧aA (Kd.R (Kd.int .i64) 3 w' w0.heap.size (fun k_ => (P0_2_ k_ ∨ w.heap.size≤k_)) u4 tB)∧aA (Kd.R (Kd.int .u8) 5 w' w0.heap.size (fun k_ => (P0_2_ k_ ∨ w.heap.size≤k_)) eY qC)∧aA (w'.heap[xV]? = some (.cells #[.int .i64 aQ,.int .i64 aK,eY] 24 (0,0)))∧aA (w'.heap[AA]? = some (.cells #[.int .i64 0,.int .i64 0,(.slice none 0 0)] 24 (0,0)))∧aA (Kept w w' (fun k_ => P0_2_ k_))∧aA (Below w0.heap.size w0 w'))
           case atStart => exact ⟨(0),(eF),(eY),rT,H',⟨Nat.le_refl _⟩,⟨cN mO.out⟩,⟨cN bP.out⟩,⟨hJ cJ.out⟩,⟨hJ fJ.out⟩,⟨by repeat (first | (with_reducible first | exact HK.out | apply Kept.alloc | apply Kept.drewN | apply Kept.drew | refine Kept.setCell ?_ (.inr pY.out) _ | refine Kept.setCell ?_ (.inr sG.out) _) | exact HK.out)⟩,⟨eA HB rS tA⟩⟩
           case round =>
            clear H';(try clear c1);(try clear c2);(try clear p2);(try clear q2);(try clear hx2);(try clear hf2);(try clear c3);(try clear p3);(try clear q3);(try clear hx3);(try clear hf3);(try clear c4);(try clear c5);(try clear IH);(try clear c6);(try clear p6);(try clear c8);(try clear c9);(try clear DS);(try clear CV);(try clear ME);(try clear aEm);(try clear yK);(try clear UK);(try clear EH);(try clear MD);(try clear c24);(try clear c25);(try clear aMt);(try clear c26);(try clear aHE);(try clear p27);(try clear q27);(try clear hx27);(try clear hf27);(try clear YD);(try clear TV);(try clear ZE);(try clear aHC);(try clear p32);(try clear q32);(try clear hx32);(try clear hf32);(try clear c33);(try clear c44);(try clear nQ);(try clear nP);(try clear nO);(try clear vG);(try clear vF);(try clear vE);(try clear BO);(try clear BN);(try clear BM);(try clear QP);(try clear QO);(try clear QN);(try clear QM);(try clear QL);(try clear QK);(try clear qZ);(try clear qY);(try clear qX);(try clear nN);(try clear nM);(try clear nL);(try clear vD);(try clear vC);(try clear vB);(try clear BB);(try clear BA);(try clear AZ);(try clear PX);(try clear PW);(try clear PV);(try clear PU);(try clear PT);(try clear PS);(try clear qW);(try clear qV);(try clear qU);(try clear hx27_0);(try clear hx32_0);(try clear p2)
            (try clear p27);(try clear p32);(try clear p6);(try clear q27);(try clear q32);obtain ⟨pW,qC,eY,rfl,HA,HK4,mO,bP,cJ,fJ,HK,HB⟩:=hrel
            cases gk with
            | zero => exact absurd HA.out (by simp [aJ.l3])
            | succ k4 =>
             have H:=HA.out;clear HA;simp only [aJ.l3] at H
             by_cases c46 : pW < aQ
             ·rw [if_pos c46] at H
              have aMn : decide (pW < aQ) = true:=decide_eq_true c46;clear c46;replace H:=Option.bind_eq_some_iff.mp H;obtain ⟨t201,aZu,H⟩:=H;replace H : (aJ.l4 k4 tB kM (lK.length : Int) pW t201 0 aQ aK qC) = some (r1,r2,r3,r4):=H;have A47:=aA.mk aZu;clear aZu;have H':=aA.mk H;clear H;have bGP:=oQ.out;have bGe:=oP.out;have VR:=bR cJ 0 (.int .i64 aQ) rfl;have VQ:=bR cJ 1 (.int .i64 aK) rfl;have VP:=bR cJ 2 eY rfl;have VF:=aD cJ.out 0;have VE:=aD cJ.out 1;have VD:=aD cJ.out 2;obtain ⟨aYY,aXG,eo50⟩:=Kd.cZ bP.out;subst eo50;go_wp2_with (first | ((with_reducible refine bN (f:=25) rfl ?_);refine eB (some 88) rfl rfl Try.func25 (by kernel_rfl) rfl #[.agg #[.int .i64 aQ,.int .i64 aK,.slice aYY qC.length aXG],.int .i64 pW,.int .i64 kM] rfl pX ?_;(with_reducible refine (cQ.calls aQ aK _ _ qC pW kM t201 _ ?side1 ?side2 A47.out).mono ?_);(case side1 => exact sW ((Kd.bM bP.out).2.2));(case side2 => exact (Kd.bM bP.out).2.1);rintro e w51 ⟨rfl,hb⟩;refine ⟨_,rfl,?_⟩;replace mO:=aA.mk (Kd.aY (cN mO.out) hb);replace bP:=aA.mk (Kd.aY (cN bP.out) hb);replace cJ:=aA.mk (aH (bT cJ) hb);replace fJ:=aA.mk (aH (bT fJ) hb);replace HK:=aA.mk (Kept.below (S:=(fun k_ => P0_2_ k_)) (by repeat (first | (with_reducible first | exact HK.out | apply Kept.alloc | apply Kept.drewN | apply Kept.drew | refine Kept.setCell ?_ (.inr pY.out) _ | refine Kept.setCell ?_ (.inr sG.out) _) | exact HK.out)) hb);replace HB:=aA.mk (aM (eA HB rS tA) hb);(try clear hb);(try clear hb2);(try clear hk);(try clear hi)))
              go_loopg [16] k4 (fun kq v16 w' => ∃ (rU : Int) (eI : List Int) (eY : Value),v16 = .int .i64 rU∧aA (aJ.l4 kq tB kM (lK.length : Int) pW t201 rU aQ aK eI = some (r1,r2,r3,r4))∧aA (kq≤k4)∧aA (Kd.R (Kd.int .i64) 3 w' w0.heap.size (fun k_ => (P0_2_ k_ ∨ w.heap.size≤k_)) u4 tB)∧aA (Kd.R (Kd.int .u8) 5 w' w0.heap.size (fun k_ => (P0_2_ k_ ∨ w.heap.size≤k_)) eY eI)∧aA (w'.heap[xV]? = some (.cells #[.int .i64 aQ,.int .i64 aK,eY] 24 (0,0)))∧aA (w'.heap[AA]? = some (.cells #[.int .i64 0,.int .i64 0,(.slice none 0 0)] 24 (0,0)))∧aA (Kept w w' (fun k_ => P0_2_ k_))∧aA (Below w0.heap.size w0 w'))
              case atStart => exact ⟨(0),(qC),(.slice aYY qC.length aXG),rT,H',⟨Nat.le_refl _⟩,⟨cN mO.out⟩,⟨cN bP.out⟩,⟨hJ cJ.out⟩,⟨hJ fJ.out⟩,⟨by repeat (first | (with_reducible first | exact HK.out | apply Kept.alloc | apply Kept.drewN | apply Kept.drew | refine Kept.setCell ?_ (.inr pY.out) _ | refine Kept.setCell ?_ (.inr sG.out) _) | exact HK.out)⟩,⟨eA HB rS tA⟩⟩
              case round =>
               clear H';(try clear c1);(try clear c2);(try clear p2);(try clear q2);(try clear hx2);(try clear hf2);(try clear c3);(try clear p3);(try clear q3);(try clear hx3);(try clear hf3);(try clear c4);(try clear c5);(try clear IH);(try clear c6);(try clear p6);(try clear c8);(try clear c9);(try clear DS);(try clear CV);(try clear ME);(try clear aEm);(try clear yK);(try clear UK);(try clear EH);(try clear MD);(try clear c24);(try clear c25);(try clear aMt);(try clear c26);(try clear aHE);(try clear p27);(try clear q27);(try clear hx27);(try clear hf27);(try clear YD);(try clear TV);(try clear ZE);(try clear aHC);(try clear p32);(try clear q32);(try clear hx32);(try clear hf32);(try clear c33);(try clear c44);(try clear c46);(try clear aMn);(try clear c48);(try clear nQ);(try clear nP);(try clear nO);(try clear vG);(try clear vF);(try clear vE);(try clear BO);(try clear BN);(try clear BM);(try clear QP);(try clear QO);(try clear QN);(try clear QM);(try clear QL);(try clear QK);(try clear VR);(try clear VQ);(try clear VP);(try clear qZ);(try clear qY);(try clear qX);(try clear nN);(try clear nM);(try clear nL);(try clear vD);(try clear vC);(try clear vB);(try clear BB);(try clear BA);(try clear AZ);(try clear PX);(try clear PW);(try clear PV);(try clear PU);(try clear PT);(try clear PS)
               (try clear VF);(try clear VE);(try clear VD);(try clear qW);(try clear qV);(try clear qU);(try clear hx27_0);(try clear hx32_0);(try clear p2);(try clear p27);(try clear p3);(try clear p32);(try clear p6);(try clear q2);(try clear q27);(try clear q3);(try clear q32);obtain ⟨rU,eI,eY,rfl,HA,HK5,mO,bP,cJ,fJ,HK,HB⟩:=hrel
               cases gk with
               | zero => exact absurd HA.out (by simp [aJ.l4])
               | succ k5 =>
                have H:=HA.out;clear HA;simp only [aJ.l4] at H;have aTF:=aA.mk H;clear H;go_upto_region 23 with (fail)
                go_cut [97] (fun v97 wc => ∃ (kq : Nat) (aBl : Bool),v97 = .bool aBl∧aA (aJ.j5 kq tB kM (lK.length : Int) pW t201 rU aBl aQ aK eI = some (r1,r2,r3,r4))∧aA (kq≤k5)∧aA (Kd.R (Kd.int .i64) 3 wc w0.heap.size (fun k_ => (P0_2_ k_ ∨ w.heap.size≤k_)) u4 tB)∧aA (Kd.R (Kd.int .u8) 5 wc w0.heap.size (fun k_ => (P0_2_ k_ ∨ w.heap.size≤k_)) eY eI)∧aA (wc.heap[xV]? = some (.cells #[.int .i64 aQ,.int .i64 aK,eY] 24 (0,0)))∧aA (wc.heap[AA]? = some (.cells #[.int .i64 0,.int .i64 0,(.slice none 0 0)] 24 (0,0)))∧aA (Kept w wc (fun k_ => P0_2_ k_))∧aA (Below w0.heap.size w0 wc))
                case first =>
                 have H:=aTF.out;clear aTF
                 by_cases SU : rU < aK
                 ·rw [if_pos SU] at H
                  have GA : decide (rU < aK) = true:=decide_eq_true SU;clear SU
                  (first | rw [GA] | (simp only [bG,bH];rw [GA]) | rw [aRB] | skip);have H':=aA.mk H;clear H;have aUZ:=oQ.out;have aUE:=oP.out;have aPE:=bR cJ 0 (.int .i64 aQ) rfl;have aPD:=bR cJ 1 (.int .i64 aK) rfl;have aPC:=bR cJ 2 eY rfl;have aOL:=aD cJ.out 0;have aOK:=aD cJ.out 1;have aOJ:=aD cJ.out 2
                  go_wp2
                  go_meet
                  case rel => exact ⟨_,((pW != (lK.length : Int))),rT,H',⟨by have:=FP.out;have:=yL.out;have:=UN.out;have:=HK4.out;have:=HK5.out;first | omega | exact Nat.le_refl _⟩,⟨cN mO.out⟩,⟨cN bP.out⟩,⟨hJ cJ.out⟩,⟨hJ fJ.out⟩,⟨by repeat (first | (with_reducible first | exact HK.out | apply Kept.alloc | apply Kept.drewN | apply Kept.drew | refine Kept.setCell ?_ (.inr pY.out) _ | refine Kept.setCell ?_ (.inr sG.out) _) | exact HK.out)⟩,⟨eA HB rS tA⟩⟩
                 ·rw [if_neg SU] at H
                  have GA : decide (rU < aK) = false:=decide_eq_false SU;clear SU
                  (first | rw [GA] | (simp only [bG,bH];rw [GA]) | rw [aRB] | skip);have H':=aA.mk H;clear H;have aRa:=oQ.out;have aQL:=oP.out;have QD:=bR cJ 0 (.int .i64 aQ) rfl;have QC:=bR cJ 1 (.int .i64 aK) rfl;have QB:=bR cJ 2 eY rfl;have PK:=aD cJ.out 0;have PJ:=aD cJ.out 1;have PI:=aD cJ.out 2
                  go_wp2
                  go_meet
                  case rel => exact ⟨_,(false),rT,H',⟨by have:=FP.out;have:=yL.out;have:=UN.out;have:=HK4.out;have:=HK5.out;first | omega | exact Nat.le_refl _⟩,⟨cN mO.out⟩,⟨cN bP.out⟩,⟨hJ cJ.out⟩,⟨hJ fJ.out⟩,⟨by repeat (first | (with_reducible first | exact HK.out | apply Kept.alloc | apply Kept.drewN | apply Kept.drew | refine Kept.setCell ?_ (.inr pY.out) _ | refine Kept.setCell ?_ (.inr sG.out) _) | exact HK.out)⟩,⟨eA HB rS tA⟩⟩
                case rest =>
                 clear aTF;(try clear c1);(try clear c2);(try clear p2);(try clear q2);(try clear hx2);(try clear hf2);(try clear c3);(try clear p3);(try clear q3);(try clear hx3);(try clear hf3);(try clear c4);(try clear c5);(try clear IH);(try clear c6);(try clear p6);(try clear c8);(try clear c9);(try clear DS);(try clear CV);(try clear ME);(try clear aEm);(try clear yK);(try clear UK);(try clear EH);(try clear MD);(try clear c24);(try clear c25);(try clear aMt);(try clear c26);(try clear aHE);(try clear p27);(try clear q27);(try clear hx27);(try clear hf27);(try clear YD);(try clear TV);(try clear ZE);(try clear aHC);(try clear p32);(try clear q32);(try clear hx32);(try clear hf32);(try clear c33);(try clear c44);(try clear c46);(try clear aMn);(try clear c48);(try clear SU);(try clear GA);(try clear aRB);(try clear c54);(try clear c56);(try clear nQ);(try clear nP);(try clear nO);(try clear vG);(try clear vF);(try clear vE);(try clear BO);(try clear BN);(try clear BM);(try clear QP);(try clear QO);(try clear QN);(try clear QM);(try clear QL);(try clear QK);(try clear VR);(try clear VQ);(try clear VP);(try clear aPE);(try clear aPD);(try clear aPC);(try clear QD);(try clear QC);(try clear QB);(try clear qZ);(try clear qY);(try clear qX);(try clear nN);(try clear nM);(try clear nL);(try clear vD)
                 (try clear vC);(try clear vB);(try clear BB);(try clear BA);(try clear AZ);(try clear PX);(try clear PW);(try clear PV);(try clear PU);(try clear PT);(try clear PS);(try clear VF);(try clear VE);(try clear VD);(try clear aOL);(try clear aOK);(try clear aOJ);(try clear PK);(try clear PJ);(try clear PI);(try clear qW);(try clear qV);(try clear qU);(try clear hx27_0);(try clear hx32_0);(try clear p2);(try clear p27);(try clear p3);(try clear p32);(try clear p6);(try clear q2);(try clear q27);(try clear q3);(try clear q32);obtain ⟨kq,aBl,rfl,HA,HJ51,mO,bP,cJ,fJ,HK,HB⟩:=hcut
                 cases kq with
                 | zero => exact absurd HA.out (by simp [aJ.j5])
                 | succ kj51 =>
                  have H:=HA.out;clear HA;simp only [aJ.j5] at H
                  by_cases c58 : aBl = true
                  ·subst c58
                   have H1 : (if 0≤(wrap64 ((wrap64 (pW * aK)) + rU)) then (if (wrap64 ((wrap64 (pW * aK)) + rU)) < (eI.length : Int) then ((cQ.f aQ aK eI (lK.length : Int) rU).bind fun t203 => ((dH.f t201 t203).bind fun t204 => (aJ.l4 kj51 tB kM (lK.length : Int) pW t201 (wrap64 (rU + 1)) aQ aK (eI.set ((wrap64 ((wrap64 (pW * aK)) + rU)) : Int).toNat (Go.bits .xor .u8 (rd eI (wrap64 ((wrap64 (pW * aK)) + rU))) t204))))) else (none)) else (none)) = some (r1,r2,r3,r4):=by rw [if_pos rfl] at H;exact H
                   clear H;have H:=H1;clear H1;obtain ⟨kG,XR⟩ : ∃ j_ : Int,(wrap64 ((wrap64 (pW * aK)) + rU)) = j_:=⟨_,rfl⟩
                   replace H : (if 0≤(kG) then (if (kG) < (eI.length : Int) then ((cQ.f aQ aK eI (lK.length : Int) rU).bind fun t203 => ((dH.f t201 t203).bind fun t204 => (aJ.l4 kj51 tB kM (lK.length : Int) pW t201 (wrap64 (rU + 1)) aQ aK (eI.set ((kG) : Int).toNat (Go.bits .xor .u8 (rd eI (kG)) t204))))) else (none)) else (none)) = some (r1,r2,r3,r4):=by first | (rw [XR] at H;exact H) | (simp only [XR] at H ⊢;exact H)
                   have aSZ : (IntKind.i64.wrap ((wrap64 (pW * aK)) + rU)) = kG:=(bG _).trans XR
                   by_cases c60 : 0≤(kG)
                   ·rw [if_pos c60] at H
                    have aRz : decide (0≤(kG)) = true:=decide_eq_true c60;clear c60
                    by_cases c61 : (kG) < (eI.length : Int)
                    ·rw [if_pos c61] at H
                     have aXQ : decide ((kG) < (eI.length : Int)) = true:=decide_eq_true c61;clear c61;replace H:=Option.bind_eq_some_iff.mp H;obtain ⟨t203,aNe,H⟩:=H;replace H : ((dH.f t201 t203).bind fun t204 => (aJ.l4 kj51 tB kM (lK.length : Int) pW t201 (wrap64 (rU + 1)) aQ aK (eI.set ((kG) : Int).toNat (Go.bits .xor .u8 (rd eI (kG)) t204)))) = some (r1,r2,r3,r4):=H;have A62:=aA.mk aNe;clear aNe;replace H:=Option.bind_eq_some_iff.mp H;obtain ⟨t204,aNd,H⟩:=H;replace H : (aJ.l4 kj51 tB kM (lK.length : Int) pW t201 (wrap64 (rU + 1)) aQ aK (eI.set ((kG) : Int).toNat (Go.bits .xor .u8 (rd eI (kG)) t204))) = some (r1,r2,r3,r4):=H;have A63:=aA.mk aNd;clear aNd;obtain ⟨y205,hy205⟩ : ∃ y_ : List Int,y_ = (eI.set ((kG) : Int).toNat (Go.bits .xor .u8 (rd eI (kG)) t204)):=⟨_,rfl⟩
                     replace H : (aJ.l4 kj51 tB kM (lK.length : Int) pW t201 (wrap64 (rU + 1)) aQ aK y205) = some (r1,r2,r3,r4):=by first | (rw [hy205];with_reducible exact H) | (have H2_:=(Option.bind_some _ _).symm.trans H;rw [hy205];with_reducible exact H2_) | (have H2_:=(Option.bind_some _ _).symm.trans H;with_reducible exact H2_) | with_reducible exact H | (rw [hy205];exact H) | exact H
                     have Ny205:=aA.mk hy205;clear hy205;have H':=aA.mk H;clear H
                     try go_wp2
                     replace mO:=aA.mk (Kd.bQ mO.out);replace bP:=aA.mk (Kd.bQ bP.out);replace cJ:=aA.mk (aG cJ.out);replace fJ:=aA.mk (aG fJ.out);replace HK:=aA.mk (Kept.drew HK.out);replace HB:=aA.mk (dO HB.out);obtain ⟨bJw,aTl,eo66⟩:=Kd.cZ bP.out
                     (first | subst eo66 | (injection eo66 with f1_ f2_ f3_;have f4_:=f1_.symm;have f5_:=f3_.symm;clear f1_ f2_ f3_;subst f4_;subst f5_));have aSP : 0≤((kG) : Int):=of_decide_eq_true pH;have q202 : (kG) < (eI.length : Int):=of_decide_eq_true pH;obtain ⟨ad202,e202,hx202_0⟩:=Kd.rG (Kd.bM bP.out).2.2 (kG) aSP q202
                     cases e202
                     replace aSP:=eq_true aSP;replace q202:=eq_true q202;refine qR (n:=19) (S:=fun w' => w'.cell? ⟨xV,0,none⟩ = some (.int .i64 aQ)∧w'.cell? ⟨xV,1,none⟩ = some (.int .i64 aK)∧w'.cell? ⟨xV,2,none⟩ = some (.slice (some ad202) eI.length aTl)∧w'.cell? (ad202.add ((kG)).toNat) = some (.int .u8 (rd eI (kG)))) (ds:=[18]) #[false,false,false,false,false,false,false,false,false,false,false,false,false,false,false,false,false,false,false] (by kernel_rfl) rfl rfl ⟨(aU cJ.out 0).trans rfl,(aU cJ.out 1).trans rfl,(aU cJ.out 2).trans rfl,hx202_0⟩ (fun hHeld => ?_);refine jO aJ.aUc aJ.aTt (fun HT_ HW_ => ?_);generalize wc.drew = w65 at mO bP cJ fJ HK HB hx202_0 hHeld ⊢;refine cB (i:=0) (N:=some 100) (v:=?_) (a':=?_) (eE 19 1) rfl rfl (bK HT_.out (by kernel_rfl)) (fun _ _ _ h => h) (Or.inl ⟨by rfl,?_⟩) ?_ ?_;rotate_left
                     ·intro w'
                      go_simp;(with_reducible rfl)
                     rotate_left
                     ·simp only [Act.put,cV,cT,cW,bG,bH]
                      rfl
                     refine cB (i:=2) (N:=some 102) (v:=?_) (a':=?_) (eE 19 5) rfl rfl (bK HT_.out (by kernel_rfl)) (fun _ _ _ h => h) (Or.inl ⟨by rfl,?_⟩) ?_ ?_;rotate_left
                     ·intro w'
                      go_simp;(with_reducible rfl)
                     rotate_left
                     ·simp only [Act.put,cV,cT,cW,bG,bH]
                      rfl
                     refine cB (i:=3) (N:=some 103) (v:=?_) (a':=?_) (eE 19 13) rfl rfl (bK HT_.out (by kernel_rfl)) (fun _ _ _ h => h) (Or.inl ⟨by rfl,?_⟩) ?_ ?_;rotate_left
                     ·intro w'
                      go_simp;(with_reducible rfl)
                     rotate_left
                     ·simp only [Act.put,cV,cT,cW,bG,bH]
                      rfl
                     refine cB (i:=6) (N:=some 106) (v:=?_) (a':=?_) (eE 19 77) rfl rfl (bK HT_.out (by kernel_rfl)) (fun _ _ _ h => h) (Or.inl ⟨by rfl,?_⟩) ?_ ?_;rotate_left
                     ·intro w'
                      go_simp;(with_reducible rfl)
                     rotate_left
                     ·simp only [Act.put,cV,cT,cW,bG,bH]
                      rfl
                     refine cB (i:=10) (N:=some 110) (v:=?_) (a':=?_) (eE 19 1101) rfl rfl (bK HT_.out (by kernel_rfl)) (fun _ _ _ h => h) (Or.inl ⟨by rfl,?_⟩) ?_ ?_;rotate_left
                     ·intro w'
                      go_simp;(with_reducible rfl)
                     rotate_left
                     ·simp only [Act.put,cV,cT,cW,bG,bH]
                      rfl
                     refine cB (i:=12) (N:=some 112) (v:=?_) (a':=?_) (eE 19 5197) rfl rfl (bK HT_.out (by kernel_rfl)) (fun _ _ _ h => h) (Or.inl ⟨by rfl,?_⟩) ?_ ?_;rotate_left
                     ·intro w'
                      go_simp;(with_reducible rfl)
                     rotate_left
                     ·simp only [Act.put,cV,cT,cW,bG,bH]
                      rfl
                     refine cB (i:=13) (N:=some 113) (v:=?_) (a':=?_) (eE 19 13389) rfl rfl (bK HT_.out (by kernel_rfl)) (fun _ _ _ h => h) (Or.inl ⟨by rfl,?_⟩) ?_ ?_;rotate_left
                     ·intro w'
                      go_simp;(with_reducible rfl)
                     rotate_left
                     ·simp only [Act.put,cV,cT,cW,bG,bH]
                      rfl
                     refine hY (i:=1) (N:=some 101) (v:=?_) (a':=?_) (eE 19 13391) rfl rfl (dZ HT_.out HW_.out (by kernel_rfl)) (fun _ _ _ h => h) (Or.inl ⟨by rfl,?_⟩) hHeld ?_ ?_;rotate_left
                     ·rintro w' ⟨s0,s1,s2,s3⟩
                      go_simp;(with_reducible rfl)
                     rotate_left
                     ·simp only [Act.put,cV,cT,cW,bG,bH]
                      rfl
                     refine hY (i:=4) (N:=some 104) (v:=?_) (a':=?_) (eE 19 13407) rfl rfl (dZ HT_.out HW_.out (by kernel_rfl)) (fun _ _ _ h => h) (Or.inl ⟨by rfl,?_⟩) hHeld ?_ ?_;rotate_left
                     ·rintro w' ⟨s0,s1,s2,s3⟩
                      go_simp;(with_reducible rfl)
                     rotate_left
                     ·simp only [Act.put,cV,cT,cW,bG,bH]
                      rfl
                     refine cB (i:=5) (N:=some 105) (v:=?_) (a':=?_) (eE 19 13439) rfl rfl (bK HT_.out (by kernel_rfl)) (fun _ _ _ h => h) (Or.inl ⟨by rfl,?_⟩) ?_ ?_;rotate_left
                     ·intro w'
                      go_simp;(with_reducible rfl)
                     rotate_left
                     ·simp only [Act.put,cV,cT,cW,bG,bH]
                      rfl
                     refine cB (i:=7) (N:=some 107) (v:=?_) (a':=?_) (eE 19 13567) rfl rfl (bK HT_.out (by kernel_rfl)) (fun _ _ _ h => h) (Or.inl ⟨by rfl,?_⟩) ?_ ?_;rotate_left
                     ·intro w'
                      go_simp;(with_reducible rfl)
                     rotate_left
                     ·simp only [Act.put,cV,cT,cW,bG,bH]
                      rfl
                     refine cB (i:=8) (N:=some 108) (v:=?_) (a':=?_) (eE 19 13823) rfl rfl (bK HT_.out (by kernel_rfl)) (fun _ _ _ h => h) (Or.inl ⟨by rfl,?_⟩) ?_ ?_;rotate_left
                     ·intro w'
                      go_simp;(with_reducible rfl)
                     rotate_left
                     ·simp only [Act.put,cV,cT,cW,bG,bH]
                      rfl
                     refine hY (i:=9) (N:=some 109) (v:=?_) (a':=?_) (eE 19 14335) rfl rfl (dZ HT_.out HW_.out (by kernel_rfl)) (fun _ _ _ h => h) (Or.inl ⟨by rfl,?_⟩) hHeld ?_ ?_;rotate_left
                     ·rintro w' ⟨s0,s1,s2,s3⟩
                      go_simp;(with_reducible rfl)
                     rotate_left
                     ·simp only [Act.put,cV,cT,cW,bG,bH]
                      rfl
                     refine hY (i:=11) (N:=some 111) (v:=?_) (a':=?_) (eE 19 16383) rfl rfl (dZ HT_.out HW_.out (by kernel_rfl)) (fun _ _ _ h => h) (Or.inl ⟨by rfl,?_⟩) hHeld ?_ ?_;rotate_left
                     ·rintro w' ⟨s0,s1,s2,s3⟩
                      go_simp;(with_reducible rfl)
                     rotate_left
                     ·simp only [Act.put,cV,cT,cW,bG,bH]
                      rfl
                     refine yR (i:=14) (N:=some 114) (eE 19 32767) rfl rfl (iU HT_.out (by kernel_rfl)) (by decide) (fun K hK => ?_);refine xS Try.func25 (by kernel_rfl) rfl #[.agg #[.int .i64 aQ,.int .i64 aK,.slice (some ad202) eI.length aTl],.int .i64 (lK.length : Int),.int .i64 rU] (by rfl) rfl rfl pX ?_
                     with_reducible refine (cQ.calls aQ aK _ _ eI (lK.length : Int) rU t203 _ ?side1 ?side2 A62.out).mono ?_
                     (case side1 => exact sW ((Kd.bM bP.out).2.2))
                     (case side2 => exact (Kd.bM bP.out).2.1);rintro e w67 ⟨rfl,hb⟩;have HS3_:=(hb.cell (World.block_lt_of_cell? _ _ (hHeld.2.2.2))).trans (hHeld.2.2.2);refine ⟨_,rfl,?_⟩;replace mO:=aA.mk (Kd.aY (cN mO.out) hb);replace bP:=aA.mk (Kd.aY (cN bP.out) hb);replace cJ:=aA.mk (aH (bT cJ) hb);replace fJ:=aA.mk (aH (bT fJ) hb);replace HK:=aA.mk (Kept.below (S:=(fun k_ => P0_2_ k_)) (by repeat (first | (with_reducible first | exact HK.out | apply Kept.alloc | apply Kept.drewN | apply Kept.drew | refine Kept.setCell ?_ (.inr pY.out) _ | refine Kept.setCell ?_ (.inr sG.out) _) | exact HK.out)) hb);replace HB:=aA.mk (aM (eA HB rS tA) hb);(try clear hb);(try clear hb2);(try clear hk);(try clear hi);refine hK.out _ _ ⟨(aU cJ.out 0).trans rfl,(aU cJ.out 1).trans rfl,(aU cJ.out 2).trans rfl,HS3_⟩ (fun hHeld => ?_);clear hK K;refine kY (a':=?_) ?_ ?_;rotate_left
                     ·show Act.put _ (some 114) _ = _
                      simp only [Act.put,cV,cT,cW,bG,bH];rfl
                     refine yR (i:=15) (N:=some 115) (eE 19 65535) rfl rfl (iU HT_.out (by kernel_rfl)) (by decide) (fun K hK => ?_);refine xS Try.func24 (by kernel_rfl) rfl #[.int .u8 t201,.int .u8 t203] (by rfl) rfl rfl pX ?_
                     with_reducible refine (dH.calls t201 t203 t204 _ A63.out).mono ?_
                     rintro e w' ⟨rfl,⟨nd,rfl⟩⟩;refine ⟨_,rfl,?_⟩;have p64 : 0≤((kG) : Int):=of_decide_eq_true pH;have q64 : ((kG) : Int) < ((eI.length : Int) : Int):=of_decide_eq_true pH;obtain ⟨go64,bJa,eo64,aXp,gl64,cl64,HG64⟩:=Kd.CT bP.out (by omega)
                     (first | cases eo64 | (injection eo64 with ea_ en_ ec_;(first | subst ea_ | (injection ea_ with ea_;subst ea_));subst ec_;clear en_));have GB64:=aA.mk aXp;have GG64:=aA.mk HG64;clear aXp gl64 HG64;have HMgo64:=aA.mk (show (P0_2_ go64 ∨ w.heap.size≤go64) from (bP.out.1 _ rfl))
                     (first | simp only [add_plain] at hx202_0 | skip);obtain ⟨hx64_0,hf64_0⟩:=Kd.rQ 0 bP.out ((kG) : Int) p64 q64;replace p64:=eq_true p64;replace q64:=eq_true q64;have HP68:=Kd.NH bP.out ((kG) : Int) (Go.bits .xor .u8 (rd eI (kG)) t204);rw [← Ny205.out] at HP68;have HQ68:=aA.mk HP68;clear HP68;refine hK.out _ _ ⟨(aU cJ.out 0).trans rfl,(aU cJ.out 1).trans rfl,(aU cJ.out 2).trans rfl,hHeld.2.2.2⟩ (fun hHeld => ?_);clear hK K;refine kY (a':=?_) ?_ ?_;rotate_left
                     ·show Act.put _ (some 115) _ = _
                      simp only [Act.put,cV,cT,cW,bG,bH];rfl
                     refine cB (i:=16) (N:=some 116) (v:=?_) (a':=?_) (eE 19 131071) rfl rfl (bK HT_.out (by kernel_rfl)) (fun _ _ _ h => h) (Or.inl ⟨by rfl,?_⟩) ?_ ?_;rotate_left
                     ·intro w'
                      go_simp;(with_reducible rfl)
                     rotate_left
                     ·simp only [Act.put,cV,cT,cW,bG,bH]
                      rfl
                     refine cB (i:=17) (N:=some 117) (v:=?_) (a':=?_) (eE 19 262143) rfl rfl (bK HT_.out (by kernel_rfl)) (fun _ _ _ h => h) (Or.inl ⟨by rfl,?_⟩) ?_ ?_;rotate_left
                     ·intro w'
                      go_simp;(with_reducible rfl)
                     rotate_left
                     ·simp only [Act.put,cV,cT,cW,bG,bH]
                      rfl
                     refine OZ (i:=18) (N:=none) (eE 19 524287) rfl rfl (iU HT_.out (by kernel_rfl)) (by decide) (fun K hK => ?_);refine GN (w1:=?_) (by rfl) rfl ?_ ?_;rotate_left
                     ·go_simp
                      rfl
                     refine hK.out _ _ ?_;clear hK K;refine vY (oG HT_.out (by kernel_rfl)) ?_
                     try go_wp2
                     go_roundg kj51
                     case measure => have:=FP.out;have:=yL.out;have:=UN.out;have:=HK4.out;have:=HK5.out;have:=HJ51.out;omega
                     case rel => exact ⟨(wrap64 (rU + 1)),(y205),(.slice (some ⟨go64,0,none⟩) eI.length aTl),rT,H',⟨by have:=FP.out;have:=yL.out;have:=UN.out;have:=HK4.out;have:=HK5.out;have:=HJ51.out;omega⟩,⟨by (with_reducible repeat first | apply Kd.bX | apply Kd.bW | apply Kd.bQ);exact Kd.cE (Kd.cU (p:=⟨go64,((kG) : Int).toNat,none⟩) (Kd.eM mO.out GG64.out (by decide)) (fun _ hk => hk.2) (.int .u8 (Go.bits .xor .u8 (rd eI (kG)) t204))) (fun _ hk => hk.1)⟩,⟨cN HQ68.out⟩,⟨by (with_reducible repeat first | apply aE | apply aG | apply aC);refine aN ?_ (by have h_:=Kd.oY bP.out cJ.out (by decide);intro e_;exact h_ (by rw [e_];rfl)) _;(with_reducible repeat first | apply aE | apply aG | apply aC);exact cJ.out⟩,⟨by (with_reducible repeat first | apply aE | apply aG | apply aC);refine aN ?_ (by have h_:=Kd.oY bP.out fJ.out (by decide);intro e_;exact h_ (by rw [e_];rfl)) _;(with_reducible repeat first | apply aE | apply aG | apply aC);exact fJ.out⟩,⟨by repeat (first | (with_reducible first | exact HK.out | apply Kept.alloc | apply Kept.drewN | apply Kept.drew | refine Kept.setCell ?_ HMgo64.out _ | refine Kept.setCell ?_ (.inr pY.out) _ | refine Kept.setCell ?_ (.inr sG.out) _) | exact HK.out)⟩,⟨jU HB GB64 rS tA⟩⟩
                    ·rw [if_neg c61] at H
                     exact absurd H (by simp)
                   ·rw [if_neg c60] at H
                    exact absurd H (by simp)
                  ·replace c58:=Bool.eq_false_iff.mpr c58
                   subst c58;have H1 : (aJ.l3 kj51 tB kM (lK.length : Int) (wrap64 (pW + 1)) aQ aK eI) = some (r1,r2,r3,r4):=by rw [if_neg (show ¬ (false = true) by decide)] at H;exact H
                   clear H;have H:=H1;clear H1;have H':=aA.mk H;clear H
                   go_wp2
                   go_roundg kj51
                   case measure => have:=FP.out;have:=yL.out;have:=UN.out;have:=HK4.out;have:=HK5.out;have:=HJ51.out;omega
                   case rel => exact ⟨(wrap64 (pW + 1)),(eI),(eY),rT,H',⟨by have:=FP.out;have:=yL.out;have:=UN.out;have:=HK4.out;have:=HK5.out;have:=HJ51.out;omega⟩,⟨cN mO.out⟩,⟨cN bP.out⟩,⟨hJ cJ.out⟩,⟨hJ fJ.out⟩,⟨by repeat (first | (with_reducible first | exact HK.out | apply Kept.alloc | apply Kept.drewN | apply Kept.drew | refine Kept.setCell ?_ (.inr pY.out) _ | refine Kept.setCell ?_ (.inr sG.out) _) | exact HK.out)⟩,⟨eA HB rS tA⟩⟩
             ·rw [if_neg c46] at H
              have aMn : decide (pW < aQ) = false:=decide_eq_false c46;clear c46
              by_cases c69 : tB.length < 17592186044416
              ·rw [if_pos c69] at H
               have LMc69:=aA.mk c69;clear c69;obtain ⟨y198,hy198⟩ : ∃ y_ : List Int,y_ = (tB ++ [kM]):=⟨_,rfl⟩
               replace H : (aJ.l0 k4 y198 (wrap64 (kM + 1)) aQ aK qC) = some (r1,r2,r3,r4):=by first | (rw [hy198];with_reducible exact H) | (have H2_:=(Option.bind_some _ _).symm.trans H;rw [hy198];with_reducible exact H2_) | (have H2_:=(Option.bind_some _ _).symm.trans H;with_reducible exact H2_) | with_reducible exact H | (rw [hy198];exact H) | exact H
               have Ny198:=aA.mk hy198;clear hy198;have H':=aA.mk H;clear H;have aUU:=oQ.out;have aUz:=oP.out;have aPj:=bR cJ 0 (.int .i64 aQ) rfl;have aPi:=bR cJ 1 (.int .i64 aK) rfl;have aPh:=bR cJ 2 eY rfl;have aOq:=aD cJ.out 0;have aOp:=aD cJ.out 1;have aOo:=aD cJ.out 2;go_wp2_with (first | ((with_reducible refine yT (b:=.append) (xs:=#[.tmp 118,.tmp 120]) rfl ?_);at_builtin;refine Kd.aEC (Kd.int .i64) (w0:=w0) w0.heap.size rfl (.tmp 118) (.tmp 120) 37 3 (.int .i64 0) 8 rfl Try.underlying37 aLH rfl (by decide) (by omega) u4 tB kM [.int .i64 kM] (fun k_ => (P0_2_ k_ ∨ w.heap.size≤k_)) (fun _ => False) rfl rfl ?aP (fun _ hk => hk.elim) ?aF ?aO ?aB ?aS ?aL ?_;(case aP => exact rfl);(case aB => exact (eA HB rS tA));(case aF => exact (fun k_ hk => (.inr (Nat.le_trans (by first | exact HK.out.1 | exact (show Kept w _ (fun k_ => P0_2_ k_) from by repeat (first | (with_reducible first | exact HK.out | apply Kept.alloc | apply Kept.drewN | apply Kept.drew | refine Kept.setCell ?_ (.inr pY.out) _ | refine Kept.setCell ?_ (.inr sG.out) _) | exact HK.out)).1) hk))));(case aO => exact (cN mO.out));(case aS => exact (cD (eA HB rS tA)));(case aL => have:=LMc69.out;omega);intro bIH w72 ho hb hg hat;rw [← Ny198.out] at ho;have mT:=aA.mk (Kd.aHR (cN bP.out) (Kd.aDa (cN mO.out)) (by decide) hg);have mS:=aA.mk (fL (bT cJ) hg (Kd.oY mO.out cJ.out (by decide)));have tD:=aA.mk (fL (bT fJ) hg (Kd.oY mO.out fJ.out (by decide)));have uE:=aA.mk (hb);have uD:=aA.mk (Kept.aDG (S:=(fun k_ => P0_2_ k_)) hg (by repeat (first | (with_reducible first | exact HK.out | apply Kept.alloc | apply Kept.drewN | apply Kept.drew | refine Kept.setCell ?_ (.inr pY.out) _ | refine Kept.setCell ?_ (.inr sG.out) _) | exact HK.out)) (fun k_ e_ => (mO.out.1 k_ e_)));have xE:=aA.mk (ho);clear bP cJ;clear fJ HB;clear HK mO;have bP:=mT;have cJ:=mS;have fJ:=tD;have HB:=uE;have HK:=uD;have aYB:=xE;clear mT mS tD uE uD xE;clear ho hb hg hat))
               go_roundg k4
               case measure => have:=FP.out;have:=yL.out;have:=UN.out;have:=HK4.out;omega
               case rel => exact ⟨(y198),(wrap64 (kM + 1)),(qC),(eY),rT,H',⟨by have:=FP.out;have:=yL.out;have:=UN.out;have:=HK4.out;omega⟩,⟨cN aYB.out⟩,⟨cN bP.out⟩,⟨hJ cJ.out⟩,⟨hJ fJ.out⟩,⟨by repeat (first | (with_reducible first | exact HK.out | apply Kept.alloc | apply Kept.drewN | apply Kept.drew | refine Kept.setCell ?_ (.inr pY.out) _ | refine Kept.setCell ?_ (.inr sG.out) _) | exact HK.out)⟩,⟨eA HB rS tA⟩⟩
              ·rw [if_neg c69] at H
               exact absurd H (by simp)
      ·rw [if_neg c9] at H
       have DS : decide (dD < aQ) = false:=decide_eq_false c9;clear c9;have H':=aA.mk H;clear H;have aUT:=oQ.out;have aUy:=oP.out;have bBm:=bR cJ 0 (.int .i64 aQ) rfl;have bBl:=bR cJ 1 (.int .i64 aK) rfl;have bBk:=bR cJ 2 eY rfl;have bAn:=aD cJ.out 0;have bAm:=aD cJ.out 1;have bAl:=aD cJ.out 2
       go_wp2
       go_roundg k2
       case measure => have:=FP.out;have:=yL.out;omega
       case rel => exact ⟨(tB),(wrap64 (kM + 1)),(kB),(eY),rT,H',⟨by have:=FP.out;have:=yL.out;omega⟩,⟨cN mO.out⟩,⟨cN bP.out⟩,⟨hJ cJ.out⟩,⟨hJ fJ.out⟩,⟨by repeat (first | (with_reducible first | exact HK.out | apply Kept.alloc | apply Kept.drewN | apply Kept.drew | refine Kept.setCell ?_ (.inr pY.out) _ | refine Kept.setCell ?_ (.inr sG.out) _) | exact HK.out)⟩,⟨eA HB rS tA⟩⟩
   ·rw [if_neg c5] at H
    have IH : decide (kM < aK) = false:=decide_eq_false c5;clear c5;simp only [Option.some.injEq,Prod.mk.injEq] at H;obtain ⟨rfl,rfl,rfl,rfl⟩:=H;have aUS:=oQ.out;have aUx:=oP.out;have bBj:=bR cJ 0 (.int .i64 aQ) rfl;have bBi:=bR cJ 1 (.int .i64 aK) rfl;have bBh:=bR cJ 2 eY rfl;have bAk:=aD cJ.out 0;have bAj:=aD cJ.out 1;have bAi:=aD cJ.out 2;have bBg:=bR fJ 0 (.int .i64 0) rfl;have bBf:=bR fJ 1 (.int .i64 0) rfl;have bBe:=bR fJ 2 (.slice none 0 0) rfl;have bAh:=aD fJ.out 0;have bAg:=aD fJ.out 1;have bAf:=aD fJ.out 2;obtain ⟨aTJ,aTk,eo78⟩:=Kd.cZ bP.out;subst eo78
    go_wp2
    refine bodyPost_ret (dX rfl _ _ AA 24 #[.int .i64 aQ,.int .i64 aK,.slice aTJ wE.length aTk] (0,0) _ rfl (by (with_reducible repeat first | apply aE | apply aG | apply aC);refine bC (cs:=#[.int .i64 aQ,.int .i64 aK,.slice none 0 0]) ?_ 2 _ rfl;(with_reducible repeat first | apply aE | apply aG | apply aC);refine bC (cs:=#[.int .i64 aQ,.int .i64 0,.slice none 0 0]) ?_ 1 _ rfl;(with_reducible repeat first | apply aE | apply aG | apply aC);refine bC (cs:=#[.int .i64 0,.int .i64 0,.slice none 0 0]) ?_ 0 _ rfl;(with_reducible repeat first | apply aE | apply aG | apply aC);exact fJ.out) Try.underlying24 rfl (by kernel_rfl)) rfl ?_;exact ⟨_,_,yE,by (with_reducible repeat first | apply Kd.bX | apply Kd.bW | apply Kd.bQ);exact Kd.cE (Kd.cU (p:=⟨AA,2,none⟩) (Kd.cU (p:=⟨AA,1,none⟩) (Kd.cU (p:=⟨AA,0,none⟩) (Kd.eM bP.out fJ.out (by decide)) (fun _ hk => hk.2) (.int .i64 aQ)) (fun _ hk => hk.2) (.int .i64 aK)) (fun _ hk => hk.2) (.slice aTJ wE.length aTk)) (fun _ hk => hk.1),by (with_reducible repeat first | apply Kd.bX | apply Kd.bW | apply Kd.bQ);exact Kd.cE (Kd.cU (p:=⟨AA,2,none⟩) (Kd.cU (p:=⟨AA,1,none⟩) (Kd.cU (p:=⟨AA,0,none⟩) (Kd.eM mO.out fJ.out (by decide)) (fun _ hk => hk.2) (.int .i64 aQ)) (fun _ hk => hk.2) (.int .i64 aK)) (fun _ hk => hk.2) (.slice aTJ wE.length aTk)) (fun _ hk => hk.1),eA HB rS tA,by repeat (first | (with_reducible first | exact HK.out | apply Kept.alloc | apply Kept.drewN | apply Kept.drew | refine Kept.setCell ?_ (.inr pY.out) _ | refine Kept.setCell ?_ (.inr sG.out) _) | exact HK.out)⟩
end Go.Proofs.Yteofcbkjhdadpaa.Pr
