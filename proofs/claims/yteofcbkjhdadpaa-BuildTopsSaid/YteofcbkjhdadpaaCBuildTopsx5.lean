import Derived.Test.YteofcbkjhdadpaaCBuildTopsx0
import Derived.Test.YteofcbkjhdadpaaCBuildTopsx2
import Derived.Test.YteofcbkjhdadpaaCBuildTopsx3
import Derived.Test.YteofcbkjhdadpaaCBuildTopsx4
import Derived.Test.YteofcbkjhdadpaaCBuildTopsq
set_option maxHeartbeats 8000000
set_option maxRecDepth 100000
set_option linter.unusedSimpArgs false
set_option linter.unusedVariables false
namespace Go.Proofs.Yteofcbkjhdadpaa.Pr
open Go.RowKit Go.Proofs.aI.bE Go.Proofs.aI.fB Go.Proofs.aI.iS
attribute [local go_sem] kQ kO nK nJ jD jC kP kN   -- for this text's walks alone
mutual
def aZ.j0 : Nat→List Int→Bool→Int→Int→List Int→Option (List Int×Bool×Int)
 | 0,_,_,_,_,_ => none
 | k + 1,x1,x24,yM,sL,EM => if x24 = true then (some (([] : List Int),false,3)) else (aZ.l0 k x1 0 yM sL EM yM (wrap64 (sL + 1)) ([] : List Int))
def aZ.l0 : Nat→List Int→Int→Int→Int→List Int→Int→Int→List Int→Option (List Int×Bool×Int)
 | 0,_,_,_,_,_,_,_,_ => none
 | k + 1,x1,x8,yM,sL,EM,aGz,aGy,aBr => if x8 < yM then ((cH.f k yM sL EM x8).bind fun aRI => (if aBr.length + aRI.1.length < 140737488355328 then ((some (aBr ++ aRI.1 : List Int)).bind fun y213 => (if 0≤x8 then (if x8 < (x1.length : Int) then ((some (([rd x1 x8] : List Int) : List Int)).bind fun y217 => (if y213.length + y217.length < 140737488355328 then (aZ.l0 k x1 (wrap64 (x8 + 1)) yM sL EM aGz aGy (y213 ++ y217)) else (none))) else (none)) else (none))) else (none))) else ((aJ.f k aGz aGy aBr).bind fun RD => (if 0≤sL then (if (sL : Int).toNat≤281474976710656 then (aZ.l1 k RD.2.2.2 (List.replicate (sL : Int).toNat 0) 0 yM sL EM RD.1 RD.2.1 RD.2.2.1) else (none)) else (none)))
def aZ.l1 : Nat→List Int→List Int→Int→Int→Int→List Int→Int→Int→List Int→Option (List Int×Bool×Int)
 | 0,_,_,_,_,_,_,_,_,_ => none
 | k + 1,x12,x13,WE,yM,sL,EM,aGx,aGw,aGv => if WE < (x12.length : Int) then (if 0≤WE then (if (rd x12 WE) = sL then (some (([] : List Int),false,0)) else ((cQ.f aGx aGw aGv WE sL).bind fun t237 => (if 0≤(rd x12 WE) then (if (rd x12 WE) < (x13.length : Int) then (aZ.l1 k x12 (x13.set ((rd x12 WE) : Int).toNat t237) (wrap64 (WE + 1)) yM sL EM aGx aGw aGv) else (none)) else (none)))) else (none)) else (some (x13,true,0))
end
def aZ.f (k : Nat) (aQ : Int) (aK : Int) (aV : List Int) (l1 : List Int) : Option (List Int×Bool×Int):=(bF.f aQ aK aV).bind fun t207 => (if t207 = true then (aZ.j0 k l1 ((l1.length : Int) != aQ) aQ aK aV) else (aZ.j0 k l1 true aQ aK aV))
def aZ.T8 : Bool×List (List Nat×List Nat):=(true,[([],[]),([0],[0]),([],[]),([1,2],[1,2]),([],[]),([],[]),([4,5],[4,5]),([6],[6]),([7],[7]),([3,8,3],[3,8]),([0,1,2,3,4,5,6,7,8,9],[]),([10,9,9,0,1,2,3,4,5,6,7,8,9],[9,10])])
def aZ.B8 : List Nat:=[0,1,0,7,0,0,48,112,240,511,1023,2047]
theorem aZ.bCn : rV .any (opsOf Try.f62 8) = aZ.T8:=by kernel_rfl
theorem aZ.aYj : mQ aZ.T8.2 aZ.B8 = true:=by kernel_rfl
def aZ.T16 : Bool×List (List Nat×List Nat):=(true,[([],[]),([],[]),([],[]),([1,2],[1,2]),([3],[3]),([],[]),([],[]),([],[]),([7],[7]),([5,6,8],[5,6,8]),([0,4,0,1,2,3,4,5,6,7,8,9],[0,4]),([10,9,9,0,1,2,3,4,5,6,7,8,9],[9,10])])
def aZ.B16 : List Nat:=[0,0,0,6,14,0,0,0,128,480,1023,2047]
theorem aZ.aKC : rV .any (opsOf Try.f62 16) = aZ.T16:=by kernel_rfl
theorem aZ.aFX : mQ aZ.T16.2 aZ.B16 = true:=by kernel_rfl
theorem aZ.calls (k : Nat) (aQ : Int) (aK : Int) (cG : Option Addr) (cF : Nat) (aV : List Int) (A1 : Option Addr) (c1 : Nat) (l1 : List Int) (r1 : List Int) (r2 : Bool) (r3 : Int) (w : World) (hr0_2 : Kd.C (Kd.int .u8) w cG aV.length aV) (hc0_2 : aV.length≤cF) (hr1 : Kd.C (Kd.int .u8) w A1 l1.length l1) (hc1 : l1.length≤c1) (h : aZ.f k aQ aK aV l1 = some (r1,r2,r3)) :
  Calls Try.prog 62 #[.agg #[.int .i64 aQ,.int .i64 aK,.slice cG aV.length cF],.slice A1 l1.length c1] w fun e w' => ∃ v0_ : Value,e = .returned (.tuple #[v0_,.bool r2,.int .i64 r3])∧Kd.R (Kd.int .u8) 5 w' w.heap.size (fun _ => True) v0_ r1∧Below w.heap.size w w':=by
 have CQ:=Try.underlying24;have iH:=aA.mk hr0_2;have iN:=aA.mk hc0_2;clear hr0_2 hc0_2;have tY:=aA.mk hr1;have HC1:=aA.mk hc1;clear hr1 hc1;have HB:=aA.mk (Below.refl w.heap.size w);have H : ((bF.f aQ aK aV).bind fun t207 => (if t207 = true then (aZ.j0 k l1 ((l1.length : Int) != aQ) aQ aK aV) else (aZ.j0 k l1 true aQ aK aV))) = some (r1,r2,r3):=h;clear h;have HC3:=aA.mk H;clear H;go_enter Try.func62,Try.ntmps62;go_upto_region 1 with (first | ((with_reducible refine bU (N:=2) rfl ?_);(try (refine lP (by rfl) ?_;dsimp only));refine pG (N:=2) (cs:=#[.int .i64 aQ,.int .i64 aK,.slice cG aV.length cF]) (t:=24) ?_;intro xU hg w4 hbox hb;have cY:=aA.mk (hbox);have bHW:=aA.mk (gE hg (dN HB) : w.heap.size≤xU);have kW:=aA.mk (gE hg (dN HB) : w.heap.size≤xU);replace HB:=aA.mk (aM (dN HB) hb);clear hb hbox hg))
 (try simp only [Act.put,cV,cT,cW])
 go_cut [24] (fun v24 wc => ∃ (kq : Nat) (NY : Bool),v24 = .bool NY∧aA (aZ.j0 kq l1 NY aQ aK aV = some (r1,r2,r3))∧aA (kq≤k)∧aA (wc.heap[xU]? = some (.cells #[.int .i64 aQ,.int .i64 aK,(.slice cG aV.length cF)] 24 (0,0)))∧aA (Below w.heap.size w wc))
 case first =>
  have H:=HC3.out;clear HC3;replace H:=Option.bind_eq_some_iff.mp H;obtain ⟨t207,A50,H⟩:=H;replace H : (if t207 = true then (aZ.j0 k l1 ((l1.length : Int) != aQ) aQ aK aV) else (aZ.j0 k l1 true aQ aK aV)) = some (r1,r2,r3):=H;have A5:=aA.mk A50;clear A50
  by_cases c6 : t207 = true
  ·subst c6
   have H1 : (aZ.j0 k l1 ((l1.length : Int) != aQ) aQ aK aV) = some (r1,r2,r3):=by rw [if_pos rfl] at H;exact H
   clear H;have H:=H1;clear H1;have H':=aA.mk H;clear H;have qZ:=bR cY 0 (.int .i64 aQ) rfl;have qY:=bR cY 1 (.int .i64 aK) rfl;have qX:=bR cY 2 (.slice cG aV.length cF) rfl;have qW:=aD cY.out 0;have qV:=aD cY.out 1;have qU:=aD cY.out 2;go_wp2_with (first | ((with_reducible refine bN (f:=17) rfl ?_);refine eB (some 16) rfl rfl Try.func17 (by kernel_rfl) rfl #[.agg #[.int .i64 aQ,.int .i64 aK,.slice cG aV.length cF]] rfl pX ?_;(with_reducible refine (bF.calls aQ aK _ _ aV true _ ?side1 ?side2 A5.out).mono ?_);(case side1 => exact sW (Kd.eN iH.out HB.out));(case side2 => exact iN.out);rintro e w8 ⟨rfl,hb⟩;refine ⟨_,rfl,?_⟩;replace cY:=aA.mk (aH (bT cY) hb);replace HB:=aA.mk (aM (dR HB kW) hb);(try clear hb);(try clear hb2);(try clear hk);(try clear hi);have zW:=bR cY 0 (.int .i64 aQ) rfl;have zV:=bR cY 1 (.int .i64 aK) rfl;have zU:=bR cY 2 (.slice cG aV.length cF) rfl;have zT:=aD cY.out 0;have zS:=aD cY.out 1;have zR:=aD cY.out 2))
   go_meet
   case rel => exact ⟨_,(((l1.length : Int) != aQ)),rT,H',⟨q_o⟩,⟨hJ cY.out⟩,⟨dR HB kW⟩⟩
  ·replace c6:=Bool.eq_false_iff.mpr c6
   subst c6;have H1 : (aZ.j0 k l1 true aQ aK aV) = some (r1,r2,r3):=by rw [if_neg (show ¬ (false = true) by decide)] at H;exact H
   clear H;have H:=H1;clear H1;have H':=aA.mk H;clear H;have oF:=bR cY 0 (.int .i64 aQ) rfl;have oE:=bR cY 1 (.int .i64 aK) rfl;have oD:=bR cY 2 (.slice cG aV.length cF) rfl;have oC:=aD cY.out 0;have oB:=aD cY.out 1;have oA:=aD cY.out 2;go_wp2_with (first | ((with_reducible refine bN (f:=17) rfl ?_);refine eB (some 16) rfl rfl Try.func17 (by kernel_rfl) rfl #[.agg #[.int .i64 aQ,.int .i64 aK,.slice cG aV.length cF]] rfl pX ?_;(with_reducible refine (bF.calls aQ aK _ _ aV false _ ?side1 ?side2 A5.out).mono ?_);(case side1 => exact sW (Kd.eN iH.out HB.out));(case side2 => exact iN.out);rintro e w11 ⟨rfl,hb⟩;refine ⟨_,rfl,?_⟩;replace cY:=aA.mk (aH (bT cY) hb);replace HB:=aA.mk (aM (dR HB kW) hb);(try clear hb);(try clear hb2);(try clear hk);(try clear hi)))
   go_meet
   case rel => exact ⟨_,(true),rT,H',⟨q_o⟩,⟨hJ cY.out⟩,⟨dR HB kW⟩⟩
 case rest =>
  clear HC3;(try clear c1);(try clear p2);(try clear c6);(try clear oF);(try clear oE);(try clear oD);(try clear qZ);(try clear qY);(try clear qX);(try clear zW);(try clear zV);(try clear zU);(try clear oC);(try clear oB);(try clear oA);(try clear qW);(try clear qV);(try clear qU);(try clear zT);(try clear zS);(try clear zR);obtain ⟨kq,NY,rfl,HA,HJ2,cY,HB⟩:=hcut
  cases kq with
  | zero => exact absurd HA.out (by simp [aZ.j0])
  | succ kj2 =>
   have H:=HA.out;clear HA;simp only [aZ.j0] at H
   by_cases yK : NY = true
   ·subst yK
    have H1 : (some (([] : List Int),false,3)) = some (r1,r2,r3):=by rw [if_pos rfl] at H;exact H
    clear H;have H:=H1;clear H1;simp only [Option.some.injEq,Prod.mk.injEq] at H;obtain ⟨rfl,rfl,rfl⟩:=H
    go_wp2
    go_ret3
    exact ⟨_,yE,RP,dR HB kW⟩
   ·replace yK:=Bool.eq_false_iff.mpr yK
    subst yK;have H1 : (aZ.l0 kj2 l1 0 aQ aK aV aQ (wrap64 (aK + 1)) ([] : List Int)) = some (r1,r2,r3):=by rw [if_neg (show ¬ (false = true) by decide)] at H;exact H
    clear H;have H:=H1;clear H1;have H':=aA.mk H;clear H;have nQ:=bR cY 0 (.int .i64 aQ) rfl;have nP:=bR cY 1 (.int .i64 aK) rfl;have nO:=bR cY 2 (.slice cG aV.length cF) rfl;have nN:=aD cY.out 0;have nM:=aD cY.out 1;have nL:=aD cY.out 2;go_wp2_with (first | ((with_reducible refine bU (N:=7) rfl ?_);(try (refine lP (by rfl) ?_;dsimp only));refine pG (N:=7) (cs:=#[.int .i64 0,.int .i64 0,.slice none 0 0]) (t:=24) ?_;intro xT hg w14 hbox hb;have dW:=aA.mk (hbox);have bHV:=aA.mk (gE hg (dR HB kW) : w.heap.size≤xT);have oX:=aA.mk (gE hg (dR HB kW) : w.heap.size≤xT);replace HB:=aA.mk (aM (dR HB kW) hb);have uQ:=aA.mk (lQ hg (bT cY));have LM:=aA.mk (lR hg (bT cY));replace cY:=aA.mk (aH (bT cY) hb);clear hb hbox hg;have aDR:=LM.out;have aDP:=uQ.out;have tW:=bR dW 0 (.int .i64 0) rfl;have tV:=bR dW 1 (.int .i64 0) rfl;have tU:=bR dW 2 (.slice none 0 0) rfl;have tT:=aD dW.out 0;have tS:=aD dW.out 1;have tR:=aD dW.out 2))
    go_loopg [8] kj2 (fun kq v8 w' => ∃ (jI : Int) (fK : List Int) (UW : Value),v8 = .int .i64 jI∧aA (aZ.l0 kq l1 jI aQ aK aV aQ (wrap64 (aK + 1)) fK = some (r1,r2,r3))∧aA (kq≤kj2)∧aA (Kd.R (Kd.int .u8) 5 w' w.heap.size (fun _ => True) UW fK)∧aA (w'.heap[xU]? = some (.cells #[.int .i64 aQ,.int .i64 aK,(.slice cG aV.length cF)] 24 (0,0)))∧aA (w'.heap[xT]? = some (.cells #[.int .i64 aQ,.int .i64 (wrap64 (aK + 1)),UW] 24 (0,0)))∧aA (Below w.heap.size w w'))
    case atStart => exact ⟨(0),(([] : List Int)),(.slice none 0 0),rT,H',⟨Nat.le_refl _⟩,⟨RP⟩,⟨by (with_reducible repeat first | apply aE | apply aG | apply aC);refine aN ?_ uQ.out _;(with_reducible repeat first | apply aE | apply aG | apply aC);refine aN ?_ uQ.out _;(with_reducible repeat first | apply aE | apply aG | apply aC);refine aN ?_ uQ.out _;(with_reducible repeat first | apply aE | apply aG | apply aC);exact cY.out⟩,⟨by (with_reducible repeat first | apply aE | apply aG | apply aC);refine bC (cs:=#[.int .i64 aQ,.int .i64 (wrap64 (aK + 1)),.slice none 0 0]) ?_ 2 _ rfl;(with_reducible repeat first | apply aE | apply aG | apply aC);refine bC (cs:=#[.int .i64 aQ,.int .i64 0,.slice none 0 0]) ?_ 1 _ rfl;(with_reducible repeat first | apply aE | apply aG | apply aC);refine bC (cs:=#[.int .i64 0,.int .i64 0,.slice none 0 0]) ?_ 0 _ rfl;(with_reducible repeat first | apply aE | apply aG | apply aC);exact dW.out⟩,⟨eA HB kW oX⟩⟩
    case round =>
     clear H';(try clear c1);(try clear p2);(try clear c6);(try clear p6);(try clear yK);(try clear c15);(try clear oF);(try clear oE);(try clear oD);(try clear nQ);(try clear nP);(try clear nO);(try clear tW);(try clear tV);(try clear tU);(try clear qZ);(try clear qY);(try clear qX);(try clear zW);(try clear zV);(try clear zU);(try clear oC);(try clear oB);(try clear oA);(try clear nN);(try clear nM);(try clear nL);(try clear tT);(try clear tS);(try clear tR);(try clear qW);(try clear qV);(try clear qU);(try clear zT);(try clear zS);(try clear zR);(try clear p2);obtain ⟨jI,fK,UW,rfl,HA,yL,fO,cY,dW,HB⟩:=hrel
     cases gk with
     | zero => exact absurd HA.out (by simp [aZ.l0])
     | succ k2 =>
      have H:=HA.out;clear HA;simp only [aZ.l0] at H
      by_cases UK : jI < aQ
      ·rw [if_pos UK] at H
       have aMu : decide (jI < aQ) = true:=decide_eq_true UK;clear UK;replace H:=Option.bind_eq_some_iff.mp H;obtain ⟨⟨t209,t212⟩,aNf,H⟩:=H;replace H : (if fK.length + t209.length < 140737488355328 then ((some (fK ++ t209 : List Int)).bind fun y213 => (if 0≤jI then (if jI < (l1.length : Int) then ((some (([rd l1 jI] : List Int) : List Int)).bind fun y217 => (if y213.length + y217.length < 140737488355328 then (aZ.l0 k2 l1 (wrap64 (jI + 1)) aQ aK aV aQ (wrap64 (aK + 1)) (y213 ++ y217)) else (none))) else (none)) else (none))) else (none)) = some (r1,r2,r3):=H;have A18:=aA.mk aNf;clear aNf
       by_cases c19 : fK.length + t209.length < 140737488355328
       ·rw [if_pos c19] at H
        have LMc19:=aA.mk c19;clear c19;obtain ⟨y213,hy213⟩ : ∃ y_ : List Int,y_ = (fK ++ t209):=⟨_,rfl⟩
        replace H : (if 0≤jI then (if jI < (l1.length : Int) then ((some (([rd l1 jI] : List Int) : List Int)).bind fun y217 => (if y213.length + y217.length < 140737488355328 then (aZ.l0 k2 l1 (wrap64 (jI + 1)) aQ aK aV aQ (wrap64 (aK + 1)) (y213 ++ y217)) else (none))) else (none)) else (none)) = some (r1,r2,r3):=by first | (rw [hy213];with_reducible exact H) | (have H2_:=(Option.bind_some _ _).symm.trans H;rw [hy213];with_reducible exact H2_) | (have H2_:=(Option.bind_some _ _).symm.trans H;with_reducible exact H2_) | with_reducible exact H | (rw [hy213];exact H) | exact H
        have Ny213:=aA.mk hy213;clear hy213
        by_cases ZF : 0≤jI
        ·rw [if_pos ZF] at H
         have aYc : decide (0≤jI) = true:=decide_eq_true ZF;clear ZF
         by_cases EH : jI < (l1.length : Int)
         ·rw [if_pos EH] at H
          have MD : decide (jI < (l1.length : Int)) = true:=decide_eq_true EH;clear EH;obtain ⟨y217,hy217⟩ : ∃ y_ : List Int,y_ = (([rd l1 jI] : List Int)):=⟨_,rfl⟩
          replace H : (if y213.length + y217.length < 140737488355328 then (aZ.l0 k2 l1 (wrap64 (jI + 1)) aQ aK aV aQ (wrap64 (aK + 1)) (y213 ++ y217)) else (none)) = some (r1,r2,r3):=by first | (rw [hy217];with_reducible exact H) | (have H2_:=(Option.bind_some _ _).symm.trans H;rw [hy217];with_reducible exact H2_) | (have H2_:=(Option.bind_some _ _).symm.trans H;with_reducible exact H2_) | with_reducible exact H | (rw [hy217];exact H) | exact H
          have Ny217:=aA.mk hy217;clear hy217
          by_cases c22 : y213.length + y217.length < 140737488355328
          ·rw [if_pos c22] at H
           have LMc22:=aA.mk c22;clear c22;obtain ⟨y220,hy220⟩ : ∃ y_ : List Int,y_ = (y213 ++ y217):=⟨_,rfl⟩
           replace H : (aZ.l0 k2 l1 (wrap64 (jI + 1)) aQ aK aV aQ (wrap64 (aK + 1)) y220) = some (r1,r2,r3):=by first | (rw [hy220];with_reducible exact H) | (have H2_:=(Option.bind_some _ _).symm.trans H;rw [hy220];with_reducible exact H2_) | (have H2_:=(Option.bind_some _ _).symm.trans H;with_reducible exact H2_) | with_reducible exact H | (rw [hy220];exact H) | exact H
           have Ny220:=aA.mk hy220;clear hy220;have H':=aA.mk H;clear H;have aVi:=uQ.out;have aUN:=LM.out;have aCL:=bR cY 0 (.int .i64 aQ) rfl;have aCK:=bR cY 1 (.int .i64 aK) rfl;have aCJ:=bR cY 2 (.slice cG aV.length cF) rfl;have aCq:=aD cY.out 0;have aCp:=aD cY.out 1;have aCo:=aD cY.out 2
           try go_wp2_with (first | ((with_reducible refine bN (f:=54) rfl ?_);refine eB (some 40) rfl rfl Try.func54 (by kernel_rfl) rfl #[.agg #[.int .i64 aQ,.int .i64 aK,.slice cG aV.length cF],.int .i64 jI] rfl pX ?_;(with_reducible refine (cH.calls k2 aQ aK _ _ aV jI t209 t212 _ ?side1 ?side2 A18.out).mono ?_);(case side1 => exact sW (Kd.eN iH.out HB.out));(case side2 => exact iN.out);rintro e w25 ⟨v210,rfl,ho0,hb⟩;refine ⟨_,rfl,?_⟩;have nW:=aA.mk (Kd.dY (Kd.dF ho0 (Kd.gH (cN fO.out))) (cD (eA HB kW oX)));replace fO:=aA.mk (Kd.cI (cN fO.out) (Kd.dG ho0) hb);replace cY:=aA.mk (aH (bT cY) hb);replace dW:=aA.mk (aH (bT dW) hb);replace HB:=aA.mk (aM (eA HB kW oX) hb);(try clear hb);(try clear hb2);(try clear hk);(try clear hi);(try clear ho0);obtain ⟨UO,UJ,eo26⟩:=Kd.cZ fO.out;subst eo26;obtain ⟨RO,NB,eo27⟩:=Kd.cZ nW.out;subst eo27))
           replace fO:=aA.mk (Kd.bQ fO.out);replace nW:=aA.mk (Kd.bQ nW.out);replace cY:=aA.mk (aG cY.out);replace dW:=aA.mk (aG dW.out);replace HB:=aA.mk (dO HB.out);have aNU : 0≤(jI : Int):=of_decide_eq_true pH;have q216 : jI < (l1.length : Int):=of_decide_eq_true pH;obtain ⟨ad216,e216,hx216_0⟩:=Kd.rG tY.out jI aNU q216;have tQ:=hx216_0
           cases e216
           replace hx216_0:=(HB.out.cell (World.block_lt_of_cell? w _ hx216_0)).trans hx216_0;replace aNU:=eq_true aNU;replace q216:=eq_true q216;refine qR (n:=12) (S:=fun w' => w'.cell? ⟨xT,0,none⟩ = some (.int .i64 aQ)∧w'.cell? ⟨xT,1,none⟩ = some (.int .i64 (wrap64 (aK + 1)))∧w'.cell? ⟨xT,2,none⟩ = some (.slice UO fK.length UJ)∧w'.cell? (ad216.add (jI).toNat) = some (.int .u8 (rd l1 jI))) (ds:=[11]) #[false,false,false,false,false,false,false,false,false,false,false,false] (by kernel_rfl) rfl rfl ⟨(aU dW.out 0).trans rfl,(aU dW.out 1).trans rfl,(aU dW.out 2).trans rfl,((HB.out.cell (World.block_lt_of_cell? w _ tQ)).trans tQ)⟩ (fun hHeld => ?_);refine jO aZ.bCn aZ.aYj (fun HT_ HW_ => ?_);generalize w25.drew = w28 at fO nW cY dW HB hx216_0 hHeld ⊢;refine cB (i:=0) (N:=some 43) (v:=?_) (a':=?_) (eE 12 1) rfl rfl (bK HT_.out (by kernel_rfl)) (fun _ _ _ h => h) (Or.inl ⟨by rfl,?_⟩) ?_ ?_;rotate_left
           ·intro w'
            go_simp;(with_reducible rfl)
           rotate_left
           ·simp only [Act.put,cV,cT,cW,bG,bH]
            rfl
           refine cB (i:=2) (N:=some 45) (v:=?_) (a':=?_) (eE 12 5) rfl rfl (bK HT_.out (by kernel_rfl)) (fun _ _ _ h => h) (Or.inl ⟨by rfl,?_⟩) ?_ ?_;rotate_left
           ·intro w'
            go_simp;(with_reducible rfl)
           rotate_left
           ·simp only [Act.put,cV,cT,cW,bG,bH]
            rfl
           refine cB (i:=4) (N:=some 47) (v:=?_) (a':=?_) (eE 12 21) rfl rfl (bK HT_.out (by kernel_rfl)) (fun _ _ _ h => h) (Or.inl ⟨by rfl,?_⟩) ?_ ?_;rotate_left
           ·intro w'
            go_simp;(with_reducible rfl)
           rotate_left
           ·simp only [Act.put,cV,cT,cW,bG,bH]
            rfl
           refine cB (i:=5) (N:=some 48) (v:=?_) (a':=?_) (eE 12 53) rfl rfl (bK HT_.out (by kernel_rfl)) (fun _ _ _ h => h) (Or.inl ⟨by rfl,?_⟩) ?_ ?_;rotate_left
           ·intro w'
            go_simp;(with_reducible rfl)
           rotate_left
           ·simp only [Act.put,cV,cT,cW,bG,bH]
            rfl
           refine cB (i:=6) (N:=some 49) (v:=?_) (a':=?_) (eE 12 117) rfl rfl (bK HT_.out (by kernel_rfl)) (fun _ _ _ h => h) (Or.inl ⟨by rfl,?_⟩) ?_ ?_;rotate_left
           ·intro w'
            go_simp;(with_reducible rfl)
           rotate_left
           ·simp only [Act.put,cV,cT,cW,bG,bH]
            rfl
           refine hY (i:=1) (N:=some 44) (v:=?_) (a':=?_) (eE 12 119) rfl rfl (dZ HT_.out HW_.out (by kernel_rfl)) (fun _ _ _ h => h) (Or.inl ⟨by rfl,?_⟩) hHeld ?_ ?_;rotate_left
           ·rintro w' ⟨s0,s1,s2,s3⟩
            go_simp;(with_reducible rfl)
           rotate_left
           ·simp only [Act.put,cV,cT,cW,bG,bH]
            rfl
           refine hY (i:=7) (N:=some 50) (v:=?_) (a':=?_) (eE 12 247) rfl rfl (dZ HT_.out HW_.out (by kernel_rfl)) (fun _ _ _ h => h) (Or.inl ⟨by rfl,?_⟩) hHeld ?_ ?_;rotate_left
           ·rintro w' ⟨s0,s1,s2,s3⟩
            go_simp;(with_reducible rfl)
           rotate_left
           ·simp only [Act.put,cV,cT,cW,bG,bH]
            rfl
           refine aLD (σ:=Value×Value) 3 #[true,true,true,true,true,true,true,true,true,false,false,false] (fun s_ => [(46,s_.1),(51,s_.2)]) (fun s_ w' => (w'.cell? ⟨xT,0,none⟩ = some (.int .i64 aQ)∧w'.cell? ⟨xT,1,none⟩ = some (.int .i64 (wrap64 (aK + 1)))∧w'.cell? ⟨xT,2,none⟩ = some (.slice UO fK.length UJ)∧w'.cell? (ad216.add (jI).toNat) = some (.int .u8 (rd l1 jI)))∧(Kd.R (Kd.int .u8) 5 w' w.heap.size (fun k_ => some k_≠(s_.1 : Value).ownBlock∧some k_≠(s_.2 : Value).ownBlock) (.slice RO t209.length NB) t209)∧(Kd.R (Kd.int .u8) 5 w' w.heap.size (fun k_ => some k_≠(.slice RO t209.length NB : Value).ownBlock∧some k_≠(s_.2 : Value).ownBlock) s_.1 y213)∧(Kd.R (Kd.int .u8) 5 w' w.heap.size (fun k_ => some k_≠(.slice RO t209.length NB : Value).ownBlock∧some k_≠(s_.1 : Value).ownBlock) s_.2 y217)∧(w'.heap[xU]? = some (.cells #[.int .i64 aQ,.int .i64 aK,.slice cG aV.length cF] 24 (0,0)))∧(w'.heap[xT]? = some (.cells #[.int .i64 aQ,.int .i64 (wrap64 (aK + 1)),.slice UO fK.length UJ] 24 (0,0)))∧(Below w.heap.size w w')) ?_ ?_;rotate_left
           ·intro hCont
            refine aNz (i:=3) (j:=8) (Ni:=some 46) (Nj:=some 51) #[true,true,true,true,true,true,true,true,false,false,false,false] #[true,true,true,false,true,true,true,true,true,false,false,false] rfl rfl rfl rfl (aEU HT_.out (by kernel_rfl)) (by decide) (by decide) (fun K hK => ?_) (fun K hK => ?_)
            ·skip
             refine Kd.uG (Kd.int .u8) (w0:=w) w.heap.size (by rfl) (.tmp 44) (.tmp 45) 22 5 (.int .u8 0) 1 rfl Try.underlying22 FV rfl (by decide) (by omega) (.slice UO fK.length UJ) fK t209 _ _ _ (fun k_ => some k_≠(.slice RO t209.length NB : Value).ownBlock) (fun _ => False) rfl rfl ?aO ?aR (fun _ _ h => h) (fun _ h => h.elim) ?aF ?aB ?aS ?aL ?_
             (case aR => exact sW ((Kd.bM nW.out).2.2))
             (case aB => exact (eA HB kW oX))
             (case aF => exact (fun k_ hk => Kd.SL (Kd.gH (cN nW.out)) k_ hk))
             (case aO => exact (by (with_reducible repeat first | apply Kd.bX | apply Kd.bW | apply Kd.bQ);exact Kd.cE fO.out (fun _ hk => hk.2)))
             (case aS => exact (cD (eA HB kW oX)))
             (case aL => have:=LMc19.out;omega);intro aDh w29 ho hb hg hat;rw [← Ny213.out] at ho;have mT:=aA.mk (fL (bT cY) hg (Kd.oY fO.out cY.out (by decide)));have mS:=aA.mk (fL (bT dW) hg (Kd.oY fO.out dW.out (by decide)));have tD:=aA.mk (Kd.FO (ok:=(fun _ => True)) (cN nW.out) hg hat);have uE:=aA.mk (hb);have uD:=aA.mk (ho);clear cY;clear dW;clear nW;clear HB;clear fO;have cY:=mT;have dW:=mS;have nW:=tD;have HB:=uE;have IT:=uD;clear mT mS tD uE uD;clear ho hb hg hat;refine hK.out _ _ ⟨(aU dW.out 0).trans rfl,(aU dW.out 1).trans rfl,(aU dW.out 2).trans rfl,((HB.out.cell (World.block_lt_of_cell? w _ tQ)).trans tQ)⟩ (fun hHeld => ?_);clear hK K;refine kY (a':=?_) ?_ ?_;rotate_left
             ·show Act.put _ (some 46) _ = _
              simp only [Act.put,cV,cT,cW,bG,bH];rfl
             refine yR (i:=8) (N:=some 51) (eE 12 511) rfl rfl (iU HT_.out (by kernel_rfl)) (by decide) (fun K hK => ?_);refine Kd.YR (Kd.int .u8) _ 5 ?hg (N:=51) ?hd (xs:=([rd l1 jI] : List Int)) (inner:=[.int .u8 (rd l1 jI)]) (ok:=fun _ => True) (okp:=fun _ => True) ?hr ?hp (fun _ hk => hk) trivial (Below.refl _ _) (Nat.le_refl _) (by simp) ?_;(case hd => rfl);(case hg => rfl);(case hr => first | (go_simp;done) | (go_simp;rfl));(case hp => exact (fP.one (show Kd.M (Kd.int .u8) _ _ _ (rd l1 jI) [.int .u8 (rd l1 jI)] from rfl) (fP.none _ _)));intro v218 w30 ho31 hb hg_ hnew_;clear hg_ hnew_
             (first | rw [← Ny217.out] at ho31 | (simp only [Int.reduceToNat] at ho31;rw [← Ny217.out] at ho31));have CH:=aA.mk (Kd.dY (Kd.dF (Kd.dF ho31 (Kd.gH (cN nW.out))) (Kd.gH (cN IT.out))) (cD (eA HB kW oX)));replace nW:=aA.mk (Kd.cI (cN nW.out) (Kd.dG ho31) hb);replace IT:=aA.mk (Kd.cI (cN IT.out) (Kd.dG ho31) hb);replace cY:=aA.mk (aH (bT cY) hb);replace dW:=aA.mk (aH (bT dW) hb);replace HB:=aA.mk (aM (eA HB kW oX) hb);clear hb ho31;refine hK.out _ _ ⟨(aU dW.out 0).trans rfl,(aU dW.out 1).trans rfl,(aU dW.out 2).trans rfl,((HB.out.cell (World.block_lt_of_cell? w _ tQ)).trans tQ)⟩ (fun hHeld => ?_);clear hK K;refine kY (a':=?_) ?_ ?_;rotate_left
             ·show Act.put _ (some 51) _ = _
              simp only [Act.put,cV,cT,cW,bG,bH];rfl
             exact kY (by simp only [CN,Act.put,cV,cT,cW]) (hCont (aDh,v218) _ ⟨hHeld,(by (with_reducible repeat first | apply Kd.bX | apply Kd.bW | apply Kd.bQ);exact Kd.cE nW.out (fun _ hk => ⟨hk.1.2,hk.2⟩)),(cN IT.out),(by (with_reducible repeat first | apply Kd.bX | apply Kd.bW | apply Kd.bQ);exact Kd.cE CH.out (fun _ hk => ⟨hk.1.2,hk.2⟩)),(hJ cY.out),(hJ dW.out),(eA HB kW oX)⟩)
            ·skip
             refine Kd.YR (Kd.int .u8) _ 5 ?hg (N:=51) ?hd (xs:=([rd l1 jI] : List Int)) (inner:=[.int .u8 (rd l1 jI)]) (ok:=fun _ => True) (okp:=fun _ => True) ?hr ?hp (fun _ hk => hk) trivial (Below.refl _ _) (Nat.le_refl _) (by simp) ?_;(case hd => rfl);(case hg => rfl);(case hr => first | (go_simp;done) | (go_simp;rfl));(case hp => exact (fP.one (show Kd.M (Kd.int .u8) _ _ _ (rd l1 jI) [.int .u8 (rd l1 jI)] from rfl) (fP.none _ _)));intro v218 w29 ho30 hb hg_ hnew_;clear hg_ hnew_
             (first | rw [← Ny217.out] at ho30 | (simp only [Int.reduceToNat] at ho30;rw [← Ny217.out] at ho30));have CH:=aA.mk (Kd.dY (Kd.dF (Kd.dF ho30 (Kd.gH (cN fO.out))) (Kd.gH (cN nW.out))) (cD (eA HB kW oX)));replace fO:=aA.mk (Kd.cI (cN fO.out) (Kd.dG ho30) hb);replace nW:=aA.mk (Kd.cI (cN nW.out) (Kd.dG ho30) hb);replace cY:=aA.mk (aH (bT cY) hb);replace dW:=aA.mk (aH (bT dW) hb);replace HB:=aA.mk (aM (eA HB kW oX) hb);clear hb ho30;refine hK.out _ _ ⟨(aU dW.out 0).trans rfl,(aU dW.out 1).trans rfl,(aU dW.out 2).trans rfl,((HB.out.cell (World.block_lt_of_cell? w _ tQ)).trans tQ)⟩ (fun hHeld => ?_);clear hK K;refine kY (a':=?_) ?_ ?_;rotate_left
             ·show Act.put _ (some 51) _ = _
              simp only [Act.put,cV,cT,cW,bG,bH];rfl
             refine yR (i:=3) (N:=some 46) (eE 12 511) rfl rfl (iU HT_.out (by kernel_rfl)) (by decide) (fun K hK => ?_);refine Kd.uG (Kd.int .u8) (w0:=w) w.heap.size (by rfl) (.tmp 44) (.tmp 45) 22 5 (.int .u8 0) 1 rfl Try.underlying22 FV rfl (by decide) (by omega) (.slice UO fK.length UJ) fK t209 _ _ _ (fun k_ => some k_≠(.slice RO t209.length NB : Value).ownBlock∧some k_≠(v218 : Value).ownBlock) (fun _ => False) rfl rfl ?aO ?aR (fun _ _ h => h) (fun _ h => h.elim) ?aF ?aB ?aS ?aL ?_
             (case aR => exact sW ((Kd.bM nW.out).2.2))
             (case aB => exact (eA HB kW oX))
             (case aF => exact (fun k_ hk => ⟨Kd.SL (Kd.gH (cN nW.out)) k_ hk,Kd.SL (Kd.gH (cN CH.out)) k_ hk⟩))
             (case aO => exact (by (with_reducible repeat first | apply Kd.bX | apply Kd.bW | apply Kd.bQ);exact Kd.cE fO.out (fun _ hk => ⟨hk.1.2,hk.2⟩)))
             (case aS => exact (cD (eA HB kW oX)))
             (case aL => have:=LMc19.out;omega);intro aDh w31 ho hb hg hat;rw [← Ny213.out] at ho;have mT:=aA.mk (fL (bT cY) hg (Kd.oY fO.out cY.out (by decide)));have mS:=aA.mk (fL (bT dW) hg (Kd.oY fO.out dW.out (by decide)));have tD:=aA.mk (Kd.FO (ok:=(fun k_ => some k_≠(v218 : Value).ownBlock)) (by (with_reducible repeat first | apply Kd.bX | apply Kd.bW | apply Kd.bQ);exact Kd.cE nW.out (fun _ hk => ⟨hk.2,hk.1.2⟩)) hg hat);have uE:=aA.mk (Kd.FO (ok:=(fun k_ => some k_≠(.slice RO t209.length NB : Value).ownBlock)) (by (with_reducible repeat first | apply Kd.bX | apply Kd.bW | apply Kd.bQ);exact Kd.cE CH.out (fun _ hk => ⟨hk.2,hk.1.2⟩)) hg hat);have uD:=aA.mk (hb);have xE:=aA.mk (ho);clear cY;clear dW;clear nW;clear CH;clear HB;clear fO;have cY:=mT;have dW:=mS;have nW:=tD;have CH:=uE;have HB:=uD;have IT:=xE;clear mT mS tD uE uD xE;clear ho hb hg hat;refine hK.out _ _ ⟨(aU dW.out 0).trans rfl,(aU dW.out 1).trans rfl,(aU dW.out 2).trans rfl,((HB.out.cell (World.block_lt_of_cell? w _ tQ)).trans tQ)⟩ (fun hHeld => ?_);clear hK K;refine kY (a':=?_) ?_ ?_;rotate_left
             ·show Act.put _ (some 46) _ = _
              simp only [Act.put,cV,cT,cW,bG,bH];rfl
             exact kY (by simp only [CN,Act.put,cV,cT,cW]) (hCont (aDh,v218) _ ⟨hHeld,(by (with_reducible repeat first | apply Kd.bX | apply Kd.bW | apply Kd.bQ);exact Kd.cE nW.out (fun _ hk => ⟨hk.2,hk.1⟩)),(cN IT.out),(cN CH.out),(hJ cY.out),(hJ dW.out),(eA HB kW oX)⟩)
           rintro ⟨aDh,v218⟩ w32 ⟨hS_,h0_,h1_,h2_,h3_,h4_,h5_⟩;have mT : aA (Kd.R (Kd.int .u8) 5 w32 w.heap.size (fun k_ => some k_≠(aDh : Value).ownBlock∧some k_≠(v218 : Value).ownBlock) (.slice RO t209.length NB) t209):=⟨h0_⟩
           have mS : aA (Kd.R (Kd.int .u8) 5 w32 w.heap.size (fun k_ => some k_≠(.slice RO t209.length NB : Value).ownBlock∧some k_≠(v218 : Value).ownBlock) aDh y213):=⟨h1_⟩
           have tD : aA (Kd.R (Kd.int .u8) 5 w32 w.heap.size (fun k_ => some k_≠(.slice RO t209.length NB : Value).ownBlock∧some k_≠(aDh : Value).ownBlock) v218 y217):=⟨h2_⟩
           have uE : aA (w32.heap[xU]? = some (.cells #[.int .i64 aQ,.int .i64 aK,.slice cG aV.length cF] 24 (0,0))):=⟨h3_⟩
           have uD : aA (w32.heap[xT]? = some (.cells #[.int .i64 aQ,.int .i64 (wrap64 (aK + 1)),.slice UO fK.length UJ] 24 (0,0))):=⟨h4_⟩
           have xE : aA (Below w.heap.size w w32):=⟨h5_⟩
           clear fO;clear nW;clear cY;clear dW;clear HB;clear h0_ h1_ h2_ h3_ h4_ h5_;have nW:=mT;have IT:=mS;have CH:=tD;have cY:=uE;have dW:=uD;have HB:=xE;clear mT mS tD uE uD xE;have hHeld : w32.cell? ⟨xT,0,none⟩ = some (.int .i64 aQ)∧w32.cell? ⟨xT,1,none⟩ = some (.int .i64 (wrap64 (aK + 1)))∧w32.cell? ⟨xT,2,none⟩ = some (.slice UO fK.length UJ)∧w32.cell? (ad216.add (jI).toNat) = some (.int .u8 (rd l1 jI)):=hS_;obtain ⟨aEK,aEf,eo34⟩:=Kd.cZ CH.out
           (first | subst eo34 | (injection eo34 with f1_ f2_ f3_;have f4_:=f1_.symm;have f5_:=f3_.symm;clear f1_ f2_ f3_;subst f4_;subst f5_));refine kY (a':=?_) ?_ ?_;rotate_left
           ·simp only [CN,Act.put,cV,cT,cW]
            rfl
           refine yR (i:=9) (N:=some 52) (eE 12 1023) rfl rfl (iU HT_.out (by kernel_rfl)) (by decide) (fun K hK => ?_);refine Kd.uG (Kd.int .u8) (w0:=w) w.heap.size (by rfl) (.tmp 46) (.tmp 51) 22 5 (.int .u8 0) 1 rfl Try.underlying22 FV rfl (by decide) (by omega) aDh y213 y217 _ _ _ (fun k_ => some k_≠(.slice RO t209.length NB : Value).ownBlock∧some k_≠(.slice aEK y217.length aEf : Value).ownBlock) (fun _ => False) rfl rfl ?aO ?aR (fun _ _ h => h) (fun _ h => h.elim) ?aF ?aB ?aS ?aL ?_
           (case aR => exact sW ((Kd.bM CH.out).2.2))
           (case aB => exact (eA HB kW oX))
           (case aF => exact (fun k_ hk => ⟨Kd.SL (Kd.gH (cN nW.out)) k_ hk,Kd.SL (Kd.gH (cN CH.out)) k_ hk⟩))
           (case aO => exact (cN IT.out))
           (case aS => exact (cD (eA HB kW oX)))
           (case aL => have:=LMc22.out;omega);intro bIG w33 ho hb hg hat;rw [← Ny220.out] at ho;have mT:=aA.mk (fL (bT cY) hg (Kd.oY IT.out cY.out (by decide)));have mS:=aA.mk (fL (bT dW) hg (Kd.oY IT.out dW.out (by decide)));have tD:=aA.mk (Kd.FO (ok:=(fun k_ => some k_≠(.slice aEK y217.length aEf : Value).ownBlock)) (by (with_reducible repeat first | apply Kd.bX | apply Kd.bW | apply Kd.bQ);exact Kd.cE nW.out (fun _ hk => ⟨hk.2,hk.1⟩)) hg hat);have uE:=aA.mk (Kd.FO (ok:=(fun k_ => some k_≠(.slice RO t209.length NB : Value).ownBlock)) (cN CH.out) hg hat);have uD:=aA.mk (hb);have xE:=aA.mk (ho);clear cY;clear dW;clear nW;clear CH;clear HB;clear IT;have cY:=mT;have dW:=mS;have nW:=tD;have CH:=uE;have HB:=uD;have aRS:=xE;clear mT mS tD uE uD xE;clear ho hb hg hat;obtain ⟨aZc,aXK,eo35⟩:=Kd.cZ aRS.out
           (first | subst eo35 | (injection eo35 with f1_ f2_ f3_;have f4_:=f1_.symm;have f5_:=f3_.symm;clear f1_ f2_ f3_;subst f4_;subst f5_));refine hK.out _ _ ⟨(aU dW.out 0).trans rfl,(aU dW.out 1).trans rfl,(aU dW.out 2).trans rfl,((HB.out.cell (World.block_lt_of_cell? w _ tQ)).trans tQ)⟩ (fun hHeld => ?_);clear hK K;refine kY (a':=?_) ?_ ?_;rotate_left
           ·show Act.put _ (some 52) _ = _
            simp only [Act.put,cV,cT,cW,bG,bH];rfl
           refine cB (i:=10) (N:=some 53) (v:=?_) (a':=?_) (eE 12 2047) rfl rfl (bK HT_.out (by kernel_rfl)) (fun _ _ _ h => h) (Or.inl ⟨by rfl,?_⟩) ?_ ?_;rotate_left
           ·intro w'
            go_simp;(with_reducible rfl)
           rotate_left
           ·simp only [Act.put,cV,cT,cW,bG,bH]
            rfl
           refine OZ (i:=11) (N:=none) (eE 12 4095) rfl rfl (iU HT_.out (by kernel_rfl)) (by decide) (fun K hK => ?_);have hs36:=bR dW 2 (.slice UO fK.length UJ) rfl;have hfs36:=aD dW.out 2;have hns36_0:=uQ.out;have hms36_0:=LM.out;refine GN (w1:=?_) (by rfl) rfl ?_ ?_;rotate_left
           ·go_simp
            rfl
           refine hK.out _ _ ?_;clear hK K;refine vY (oG HT_.out (by kernel_rfl)) ?_
           try go_wp2
           go_roundg k2
           case measure => have:=HJ2.out;have:=yL.out;omega
           case rel => exact ⟨(wrap64 (jI + 1)),(y220),(.slice aZc y220.length aXK),rT,H',⟨by have:=HJ2.out;have:=yL.out;omega⟩,⟨by (with_reducible repeat first | apply Kd.bX | apply Kd.bW | apply Kd.bQ);exact Kd.cE (Kd.cU (p:=⟨xT,2,none⟩) (Kd.eM aRS.out dW.out (by decide)) (fun _ hk => hk.2) (.slice aZc y220.length aXK)) (fun _ hk => trivial)⟩,⟨by (with_reducible repeat first | apply aE | apply aG | apply aC);refine aN ?_ uQ.out _;(with_reducible repeat first | apply aE | apply aG | apply aC);exact cY.out⟩,⟨by (with_reducible repeat first | apply aE | apply aG | apply aC);refine bC (cs:=#[.int .i64 aQ,.int .i64 (wrap64 (aK + 1)),.slice UO fK.length UJ]) ?_ 2 _ rfl;(with_reducible repeat first | apply aE | apply aG | apply aC);exact dW.out⟩,⟨eA HB kW oX⟩⟩
          ·rw [if_neg c22] at H
           exact absurd H (by simp)
         ·rw [if_neg EH] at H
          exact absurd H (by simp)
        ·rw [if_neg ZF] at H
         exact absurd H (by simp)
       ·rw [if_neg c19] at H
        exact absurd H (by simp)
      ·rw [if_neg UK] at H
       have aMu : decide (jI < aQ) = false:=decide_eq_false UK;clear UK;replace H:=Option.bind_eq_some_iff.mp H;obtain ⟨⟨t223,t224,t225,t228⟩,aZw,H⟩:=H;replace H : (if 0≤aK then (if (aK : Int).toNat≤281474976710656 then (aZ.l1 k2 t228 (List.replicate (aK : Int).toNat 0) 0 aQ aK aV t223 t224 t225) else (none)) else (none)) = some (r1,r2,r3):=H;have A37:=aA.mk aZw;clear aZw
       by_cases c38 : 0≤aK
       ·rw [if_pos c38] at H
        have aMp:=eq_true c38;have aXW : decide (0≤aK) = true:=decide_eq_true c38;clear c38
        by_cases c39 : (aK : Int).toNat≤281474976710656
        ·rw [if_pos c39] at H
         have aMo:=eq_true c39;have aXV : decide ((aK : Int).toNat≤281474976710656) = true:=decide_eq_true c39;clear c39;obtain ⟨y232,hy232⟩ : ∃ y_ : List Int,y_ = (List.replicate (aK : Int).toNat 0):=⟨_,rfl⟩
         replace H : (aZ.l1 k2 t228 y232 0 aQ aK aV t223 t224 t225) = some (r1,r2,r3):=by first | (rw [hy232];with_reducible exact H) | (have H2_:=(Option.bind_some _ _).symm.trans H;rw [hy232];with_reducible exact H2_) | (have H2_:=(Option.bind_some _ _).symm.trans H;with_reducible exact H2_) | with_reducible exact H | (rw [hy232];exact H) | exact H
         have Ny232:=aA.mk hy232;clear hy232;have H':=aA.mk H;clear H;have bGR:=uQ.out;have bGg:=LM.out;have aCC:=bR cY 0 (.int .i64 aQ) rfl;have aCB:=bR cY 1 (.int .i64 aK) rfl;have aCA:=bR cY 2 (.slice cG aV.length cF) rfl;have aCh:=aD cY.out 0;have aCg:=aD cY.out 1;have aCf:=aD cY.out 2;have aCz:=bR dW 0 (.int .i64 aQ) rfl;have aCy:=bR dW 1 (.int .i64 (wrap64 (aK + 1))) rfl;have aCx:=bR dW 2 UW rfl;have aCe:=aD dW.out 0;have aCd:=aD dW.out 1;have aCc:=aD dW.out 2;obtain ⟨aNa,aMe,eo43⟩:=Kd.cZ fO.out;subst eo43;go_wp2_with (first | ((with_reducible refine bN (f:=86) rfl ?_);refine eB (some 56) rfl rfl Try.func86 (by kernel_rfl) rfl #[.agg #[.int .i64 aQ,.int .i64 (wrap64 (aK + 1)),.slice aNa fK.length aMe]] rfl pX ?_;(with_reducible refine (aJ.calls k2 aQ (wrap64 (aK + 1)) (fun k_ => some k_ = (.slice aNa fK.length aMe : Value).ownBlock) (.slice aNa fK.length aMe) fK t223 t224 t225 t228 w _ ?side1 ?side2 A37.out).mono ?_);(case side1 => repeat (first | (with_reducible first | exact HB.out | apply fI | apply fG | apply dO | refine cM ?_ kW.out | refine cM ?_ oX.out) | exact HB.out));(case side2 => exact Kd.aQs rfl fO.out);rintro e w44 ⟨v226,v229,rfl,ho0,ho1,hb,hkp⟩;refine ⟨_,rfl,?_⟩;have mT:=aA.mk (aEx (hJ cY.out) hkp (fun hs_ => (fun e_ => (Kd.oY fO.out cY.out (by decide)) e_) hs_));have mS:=aA.mk (aEx (hJ dW.out) hkp (fun hs_ => (fun e_ => (Kd.oY fO.out dW.out (by decide)) e_) hs_));have tD:=aA.mk (Kd.cE (ok':=fun k_ => True) ho0 (fun k_ hk_ => trivial));have uE:=aA.mk (Kd.cE (ok':=fun k_ => True) ho1 (fun k_ hk_ => trivial));have uD:=aA.mk (hb);clear cY dW;clear HB fO;have cY:=mT;have dW:=mS;have YV:=tD;have aEF:=uE;have HB:=uD;clear mT mS tD uE uD;(try clear hb);(try clear hkp);(try clear ho0);(try clear ho1)) | ((with_reducible refine bU (N:=11) rfl ?_);(try (refine lP (by rfl) ?_;dsimp only));refine pG (N:=11) (cs:=#[.int .i64 0,.int .i64 0,.slice none 0 0]) (t:=24) ?_;intro XU hg w45 hbox hb;replace YV:=aA.mk (Kd.aY (cN YV.out) hb);replace aEF:=aA.mk (Kd.aY (cN aEF.out) hb);have lY:=aA.mk (hbox);have bHU:=aA.mk (gE hg (eA HB kW oX) : w.heap.size≤XU);have YY:=aA.mk (gE hg (eA HB kW oX) : w.heap.size≤XU);replace HB:=aA.mk (aM (eA HB kW oX) hb);have LN:=aA.mk (lQ hg (bT cY));have aKh:=aA.mk (lR hg (bT cY));replace cY:=aA.mk (aH (bT cY) hb);have LL:=aA.mk (lQ hg (bT dW));have aKg:=aA.mk (lR hg (bT dW));replace dW:=aA.mk (aH (bT dW) hb);clear hb hbox hg;have aVd:=aKh.out;have aUI:=LN.out;have aVc:=aKg.out;have aUH:=LL.out;have aCw:=bR lY 0 (.int .i64 0) rfl;have aCv:=bR lY 1 (.int .i64 0) rfl;have aCu:=bR lY 2 (.slice none 0 0) rfl;have aCb:=aD lY.out 0;have aCa:=aD lY.out 1;have aBZ:=aD lY.out 2;obtain ⟨aDc,aCQ,eo49⟩:=Kd.cZ YV.out;subst eo49;have aPH:=bR cY 0 (.int .i64 aQ) rfl;have aPG:=bR cY 1 (.int .i64 aK) rfl;have aPF:=bR cY 2 (.slice cG aV.length cF) rfl;have aOO:=aD cY.out 0;have aON:=aD cY.out 1;have aOM:=aD cY.out 2) | ((with_reducible refine bU (N:=61) rfl ?_);(try (refine lP (by rfl) ?_;dsimp only));refine Kd.YQ (Kd.int .u8) _ 5 rfl (N:=61) rfl 22 _ _ rfl aK rfl rfl Try.underlying22 (.int .u8 0) 1 FV rfl (by decide) (by omega) 0 (ok:=fun _ => True) (okp:=fun _ => True) rfl (fun _ hk => hk) trivial (of_decide_eq_true pH) (Nat.le_trans (Nat.mul_le_mul_right _ (of_decide_eq_true pH : aK.toNat≤281474976710656)) (by omega)) (Below.refl _ _) (Nat.le_refl _) ?_;intro v233 w51 ho52 hb hg_ hnew_;clear hg_ hnew_;(first | rw [← Ny232.out] at ho52 | (simp only [Int.reduceToNat] at ho52;rw [← Ny232.out] at ho52));replace aEF:=aA.mk (Kd.aY (cN (lO aEF.out lY.out (.int .i64 t223) (.int .i64 t224) (.slice aDc t225.length aCQ))) hb);have aYA:=aA.mk (Kd.dY (Kd.dF ho52 (Kd.gH (cN (lO YV.out lY.out (.int .i64 t223) (.int .i64 t224) (.slice aDc t225.length aCQ))))) (cD (jU HB kW oX YY)));replace YV:=aA.mk (Kd.cI (cN (lO YV.out lY.out (.int .i64 t223) (.int .i64 t224) (.slice aDc t225.length aCQ))) (Kd.dG ho52) hb);replace cY:=aA.mk (aH (g:=xU) (o:=.cells #[.int .i64 aQ,.int .i64 aK,.slice cG aV.length cF] 24 (0,0)) (by (with_reducible repeat first | apply aE | apply aG | apply aC);refine aN ?_ LN.out _;(with_reducible repeat first | apply aE | apply aG | apply aC);refine aN ?_ LN.out _;(with_reducible repeat first | apply aE | apply aG | apply aC);refine aN ?_ LN.out _;(with_reducible repeat first | apply aE | apply aG | apply aC);exact cY.out) hb);replace dW:=aA.mk (aH (g:=xT) (o:=.cells #[.int .i64 aQ,.int .i64 (wrap64 (aK + 1)),.slice aNa fK.length aMe] 24 (0,0)) (by (with_reducible repeat first | apply aE | apply aG | apply aC);refine aN ?_ LL.out _;(with_reducible repeat first | apply aE | apply aG | apply aC);refine aN ?_ LL.out _;(with_reducible repeat first | apply aE | apply aG | apply aC);refine aN ?_ LL.out _;(with_reducible repeat first | apply aE | apply aG | apply aC);exact dW.out) hb);replace lY:=aA.mk (aH (g:=XU) (o:=.cells #[.int .i64 t223,.int .i64 t224,.slice aDc t225.length aCQ] 24 (0,0)) (by (with_reducible repeat first | apply aE | apply aG | apply aC);refine bC (cs:=#[.int .i64 t223,.int .i64 t224,.slice none 0 0]) ?_ 2 _ rfl;(with_reducible repeat first | apply aE | apply aG | apply aC);refine bC (cs:=#[.int .i64 t223,.int .i64 0,.slice none 0 0]) ?_ 1 _ rfl;(with_reducible repeat first | apply aE | apply aG | apply aC);refine bC (cs:=#[.int .i64 0,.int .i64 0,.slice none 0 0]) ?_ 0 _ rfl;(with_reducible repeat first | apply aE | apply aG | apply aC);exact lY.out) hb);replace HB:=aA.mk (aM (jU HB kW oX YY) hb);clear hb ho52))
         go_loopg [14] k2 (fun kq v14 w' => ∃ (OA : List Int) (iF : Int),v14 = .int .i64 iF∧aA (aZ.l1 kq t228 OA iF aQ aK aV t223 t224 t225 = some (r1,r2,r3))∧aA (kq≤k2)∧aA (Kd.R (Kd.int .i64) 3 w' w.heap.size (fun _ => True) v229 t228)∧aA (Kd.R (Kd.int .u8) 5 w' w.heap.size (fun k_ => some k_≠((.slice aDc t225.length aCQ) : Value).ownBlock) v233 OA)∧aA (Kd.R (Kd.int .u8) 5 w' w.heap.size (fun k_ => some k_≠(v233 : Value).ownBlock) (.slice aDc t225.length aCQ) t225)∧aA (w'.heap[xU]? = some (.cells #[.int .i64 aQ,.int .i64 aK,(.slice cG aV.length cF)] 24 (0,0)))∧aA (w'.heap[xT]? = some (.cells #[.int .i64 aQ,.int .i64 (wrap64 (aK + 1)),(.slice aNa fK.length aMe)] 24 (0,0)))∧aA (w'.heap[XU]? = some (.cells #[.int .i64 t223,.int .i64 t224,(.slice aDc t225.length aCQ)] 24 (0,0)))∧aA (Below w.heap.size w w'))
         case atStart => exact ⟨(y232),(0),rT,H',⟨Nat.le_refl _⟩,⟨cN aEF.out⟩,⟨by (with_reducible repeat first | apply Kd.bX | apply Kd.bW | apply Kd.bQ);exact Kd.cE aYA.out (fun _ hk => hk.2)⟩,⟨by (with_reducible repeat first | apply Kd.bX | apply Kd.bW | apply Kd.bQ);exact Kd.cE YV.out (fun _ hk => hk.2)⟩,⟨hJ cY.out⟩,⟨hJ dW.out⟩,⟨hJ lY.out⟩,⟨jU HB kW oX YY⟩⟩
         case round =>
          clear H';(try clear c1);(try clear c2);(try clear p2);(try clear q2);(try clear hx2);(try clear c3);(try clear c4);(try clear c5);(try clear c6);(try clear p6);(try clear c8);(try clear yK);(try clear c15);(try clear UK);(try clear aMu);(try clear c19);(try clear ZF);(try clear aYc);(try clear EH);(try clear MD);(try clear p21);(try clear q21);(try clear hx21);(try clear c22);(try clear c23);(try clear c38);(try clear aMp);(try clear aXW);(try clear c39);(try clear aMo);(try clear aXV);(try clear c40);(try clear c46);(try clear c47);(try clear oF);(try clear oE);(try clear oD);(try clear nQ);(try clear nP);(try clear nO);(try clear tW);(try clear tV);(try clear tU);(try clear aCL);(try clear aCK);(try clear aCJ);(try clear aCC);(try clear aCB);(try clear aCA);(try clear aCz);(try clear aCy);(try clear aCx);(try clear aCw);(try clear aCv);(try clear aCu);(try clear aPH);(try clear aPG);(try clear aPF);(try clear qZ);(try clear qY);(try clear qX);(try clear zW);(try clear zV);(try clear zU);(try clear oC);(try clear oB);(try clear oA);(try clear nN);(try clear nM);(try clear nL);(try clear tT);(try clear tS);(try clear tR);(try clear aCq);(try clear aCp);(try clear aCo);(try clear aCh);(try clear aCg);(try clear aCf);(try clear aCe);(try clear aCd)
          (try clear aCc);(try clear aCb);(try clear aCa);(try clear aBZ);(try clear aOO);(try clear aON);(try clear aOM);(try clear qW);(try clear qV);(try clear qU);(try clear zT);(try clear zS);(try clear zR);(try clear hx216_0);(try clear p2);(try clear aNU);(try clear p6);(try clear q216);obtain ⟨OA,iF,rfl,HA,UN,wA,vZ,lH,cY,dW,lY,HB⟩:=hrel
          cases gk with
          | zero => exact absurd HA.out (by simp [aZ.l1])
          | succ k3 =>
           have H:=HA.out;clear HA;simp only [aZ.l1] at H
           by_cases SU : iF < (t228.length : Int)
           ·rw [if_pos SU] at H
            have GA : decide (iF < (t228.length : Int)) = true:=decide_eq_true SU;clear SU
            by_cases c54 : 0≤iF
            ·rw [if_pos c54] at H
             have bHe : decide (0≤iF) = true:=decide_eq_true c54;clear c54
             by_cases c55 : (rd t228 iF) = aK
             ·rw [if_pos c55] at H
              have aRA : ((rd t228 iF) == aK) = true:=beq_iff_eq.mpr c55;have aXS : ((rd t228 iF) != aK) = false:=bne_eq_false_iff_eq.mpr c55;clear c55;simp only [Option.some.injEq,Prod.mk.injEq] at H;obtain ⟨rfl,rfl,rfl⟩:=H;obtain ⟨bJx,bJc,eo56⟩:=Kd.cZ wA.out;subst eo56
              try go_wp2
              replace wA:=aA.mk (Kd.bQ wA.out);replace vZ:=aA.mk (Kd.bQ vZ.out);replace lH:=aA.mk (Kd.bQ lH.out);replace cY:=aA.mk (aG cY.out);replace dW:=aA.mk (aG dW.out);replace lY:=aA.mk (aG lY.out);replace HB:=aA.mk (dO HB.out);have aFv : 0≤(iF : Int):=of_decide_eq_true pH;have q235 : iF < (t228.length : Int):=of_decide_eq_true pH;obtain ⟨ad235,e235,hx235_0⟩:=Kd.rG (Kd.bM wA.out).2.2 iF aFv q235
              cases e235
              replace aFv:=eq_true aFv;replace q235:=eq_true q235;refine qR (n:=7) (S:=fun w' => w'.cell? ⟨xU,0,none⟩ = some (.int .i64 aQ)∧w'.cell? ⟨xU,1,none⟩ = some (.int .i64 aK)∧w'.cell? ⟨xU,2,none⟩ = some (.slice cG aV.length cF)∧w'.cell? (ad235.add (iF).toNat) = some (.int .i64 (rd t228 iF))) (ds:=[]) #[false,false,false,false,false,false,false] (by kernel_rfl) rfl rfl ⟨(aU cY.out 0).trans rfl,(aU cY.out 1).trans rfl,(aU cY.out 2).trans rfl,hx235_0⟩ (fun hHeld => ?_);generalize wr.drew = w57 at wA vZ lH cY dW lY HB hx235_0 hHeld ⊢;refine cB (i:=0) (N:=some 68) (v:=?_) (a':=?_) (eE 7 1) rfl rfl (by kernel_rfl) (fun _ _ _ h => h) (Or.inl ⟨by rfl,?_⟩) ?_ ?_;rotate_left
              ·intro w'
               go_simp;(with_reducible rfl)
              rotate_left
              ·simp only [Act.put,cV,cT,cW,bG,bH]
               rfl
              refine cB (i:=1) (N:=some 69) (v:=?_) (a':=?_) (eE 7 3) rfl rfl (by kernel_rfl) (fun _ _ _ h => h) (Or.inl ⟨by rfl,?_⟩) ?_ ?_;rotate_left
              ·intro w'
               go_simp;(with_reducible rfl)
              rotate_left
              ·simp only [Act.put,cV,cT,cW,bG,bH]
               rfl
              refine cB (i:=2) (N:=some 70) (v:=?_) (a':=?_) (eE 7 7) rfl rfl (by kernel_rfl) (fun _ _ _ h => h) (Or.inl ⟨by rfl,?_⟩) ?_ ?_;rotate_left
              ·intro w'
               go_simp;(with_reducible rfl)
              rotate_left
              ·simp only [Act.put,cV,cT,cW,bG,bH]
               rfl
              refine cB (i:=4) (N:=some 72) (v:=?_) (a':=?_) (eE 7 23) rfl rfl (by kernel_rfl) (fun _ _ _ h => h) (Or.inl ⟨by rfl,?_⟩) ?_ ?_;rotate_left
              ·intro w'
               go_simp;(with_reducible rfl)
              rotate_left
              ·simp only [Act.put,cV,cT,cW,bG,bH]
               rfl
              refine hY (i:=3) (N:=some 71) (v:=?_) (a':=?_) (eE 7 31) rfl rfl (by kernel_rfl) (fun _ _ _ h => h) (Or.inl ⟨by rfl,?_⟩) hHeld ?_ ?_;rotate_left
              ·rintro w' ⟨s0,s1,s2,s3⟩
               go_simp;(with_reducible rfl)
              rotate_left
              ·simp only [Act.put,cV,cT,cW,bG,bH]
               rfl
              refine hY (i:=5) (N:=some 73) (v:=?_) (a':=?_) (eE 7 63) rfl rfl (by kernel_rfl) (fun _ _ _ h => h) (Or.inl ⟨by rfl,?_⟩) hHeld ?_ ?_;rotate_left
              ·rintro w' ⟨s0,s1,s2,s3⟩
               go_simp;(with_reducible rfl)
              rotate_left
              ·simp only [Act.put,cV,cT,cW,bG,bH]
               rfl
              refine cB (i:=6) (N:=some 74) (v:=?_) (a':=?_) (eE 7 127) rfl rfl (by kernel_rfl) (fun _ _ _ h => h) (Or.inl ⟨by rfl,?_⟩) ?_ ?_;rotate_left
              ·intro w'
               go_simp;(with_reducible rfl)
              rotate_left
              ·simp only [Act.put,cV,cT,cW,bG,bH]
               rfl
              refine vY (by kernel_rfl) ?_
              try go_wp2
              go_ret3
              exact ⟨_,yE,RP,jU HB kW oX YY⟩
             ·rw [if_neg c55] at H
              have aRA : ((rd t228 iF) == aK) = false:=beq_eq_false_iff_ne.mpr c55;have aXS : ((rd t228 iF) != aK) = true:=bne_iff_ne.mpr c55;replace H:=Option.bind_eq_some_iff.mp H;obtain ⟨t237,aZt,H⟩:=H;replace H : (if 0≤(rd t228 iF) then (if (rd t228 iF) < (OA.length : Int) then (aZ.l1 k3 t228 (OA.set ((rd t228 iF) : Int).toNat t237) (wrap64 (iF + 1)) aQ aK aV t223 t224 t225) else (none)) else (none)) = some (r1,r2,r3):=H;have A58:=aA.mk aZt;clear aZt
              by_cases c59 : 0≤(rd t228 iF)
              ·rw [if_pos c59] at H
               have bHc : decide (0≤(rd t228 iF)) = true:=decide_eq_true c59;clear c59
               by_cases c60 : (rd t228 iF) < (OA.length : Int)
               ·rw [if_pos c60] at H
                have aRz : decide ((rd t228 iF) < (OA.length : Int)) = true:=decide_eq_true c60;clear c60;obtain ⟨y238,hy238⟩ : ∃ y_ : List Int,y_ = (OA.set ((rd t228 iF) : Int).toNat t237):=⟨_,rfl⟩
                replace H : (aZ.l1 k3 t228 y238 (wrap64 (iF + 1)) aQ aK aV t223 t224 t225) = some (r1,r2,r3):=by first | (rw [hy238];with_reducible exact H) | (have H2_:=(Option.bind_some _ _).symm.trans H;rw [hy238];with_reducible exact H2_) | (have H2_:=(Option.bind_some _ _).symm.trans H;with_reducible exact H2_) | with_reducible exact H | (rw [hy238];exact H) | exact H
                have Ny238:=aA.mk hy238;clear hy238;have H':=aA.mk H;clear H;obtain ⟨bFt,bFe,eo62⟩:=Kd.cZ wA.out;subst eo62
                try go_wp2
                replace wA:=aA.mk (Kd.bQ wA.out);replace vZ:=aA.mk (Kd.bQ vZ.out);replace lH:=aA.mk (Kd.bQ lH.out);replace cY:=aA.mk (aG cY.out);replace dW:=aA.mk (aG dW.out);replace lY:=aA.mk (aG lY.out);replace HB:=aA.mk (dO HB.out);have aFv : 0≤(iF : Int):=of_decide_eq_true pH;have q235 : iF < (t228.length : Int):=of_decide_eq_true pH;obtain ⟨ad235,e235,hx235_0⟩:=Kd.rG (Kd.bM wA.out).2.2 iF aFv q235
                cases e235
                replace aFv:=eq_true aFv;replace q235:=eq_true q235;refine qR (n:=7) (S:=fun w' => w'.cell? ⟨xU,0,none⟩ = some (.int .i64 aQ)∧w'.cell? ⟨xU,1,none⟩ = some (.int .i64 aK)∧w'.cell? ⟨xU,2,none⟩ = some (.slice cG aV.length cF)∧w'.cell? (ad235.add (iF).toNat) = some (.int .i64 (rd t228 iF))) (ds:=[]) #[false,false,false,false,false,false,false] (by kernel_rfl) rfl rfl ⟨(aU cY.out 0).trans rfl,(aU cY.out 1).trans rfl,(aU cY.out 2).trans rfl,hx235_0⟩ (fun hHeld => ?_);generalize wr.drew = w63 at wA vZ lH cY dW lY HB hx235_0 hHeld ⊢;refine cB (i:=0) (N:=some 68) (v:=?_) (a':=?_) (eE 7 1) rfl rfl (by kernel_rfl) (fun _ _ _ h => h) (Or.inl ⟨by rfl,?_⟩) ?_ ?_;rotate_left
                ·intro w'
                 go_simp;(with_reducible rfl)
                rotate_left
                ·simp only [Act.put,cV,cT,cW,bG,bH]
                 rfl
                refine cB (i:=1) (N:=some 69) (v:=?_) (a':=?_) (eE 7 3) rfl rfl (by kernel_rfl) (fun _ _ _ h => h) (Or.inl ⟨by rfl,?_⟩) ?_ ?_;rotate_left
                ·intro w'
                 go_simp;(with_reducible rfl)
                rotate_left
                ·simp only [Act.put,cV,cT,cW,bG,bH]
                 rfl
                refine cB (i:=2) (N:=some 70) (v:=?_) (a':=?_) (eE 7 7) rfl rfl (by kernel_rfl) (fun _ _ _ h => h) (Or.inl ⟨by rfl,?_⟩) ?_ ?_;rotate_left
                ·intro w'
                 go_simp;(with_reducible rfl)
                rotate_left
                ·simp only [Act.put,cV,cT,cW,bG,bH]
                 rfl
                refine cB (i:=4) (N:=some 72) (v:=?_) (a':=?_) (eE 7 23) rfl rfl (by kernel_rfl) (fun _ _ _ h => h) (Or.inl ⟨by rfl,?_⟩) ?_ ?_;rotate_left
                ·intro w'
                 go_simp;(with_reducible rfl)
                rotate_left
                ·simp only [Act.put,cV,cT,cW,bG,bH]
                 rfl
                refine hY (i:=3) (N:=some 71) (v:=?_) (a':=?_) (eE 7 31) rfl rfl (by kernel_rfl) (fun _ _ _ h => h) (Or.inl ⟨by rfl,?_⟩) hHeld ?_ ?_;rotate_left
                ·rintro w' ⟨s0,s1,s2,s3⟩
                 go_simp;(with_reducible rfl)
                rotate_left
                ·simp only [Act.put,cV,cT,cW,bG,bH]
                 rfl
                refine hY (i:=5) (N:=some 73) (v:=?_) (a':=?_) (eE 7 63) rfl rfl (by kernel_rfl) (fun _ _ _ h => h) (Or.inl ⟨by rfl,?_⟩) hHeld ?_ ?_;rotate_left
                ·rintro w' ⟨s0,s1,s2,s3⟩
                 go_simp;(with_reducible rfl)
                rotate_left
                ·simp only [Act.put,cV,cT,cW,bG,bH]
                 rfl
                refine cB (i:=6) (N:=some 74) (v:=?_) (a':=?_) (eE 7 127) rfl rfl (by kernel_rfl) (fun _ _ _ h => h) (Or.inl ⟨by rfl,?_⟩) ?_ ?_;rotate_left
                ·intro w'
                 go_simp;(with_reducible rfl)
                rotate_left
                ·simp only [Act.put,cV,cT,cW,bG,bH]
                 rfl
                refine vY (by kernel_rfl) ?_
                try go_wp2
                replace wA:=aA.mk (Kd.bQ wA.out);replace vZ:=aA.mk (Kd.bQ vZ.out);replace lH:=aA.mk (Kd.bQ lH.out);replace cY:=aA.mk (aG cY.out);replace dW:=aA.mk (aG dW.out);replace lY:=aA.mk (aG lY.out);replace HB:=aA.mk (dO HB.out);have aSO : 0≤(iF : Int):=of_decide_eq_true pH;have q236 : iF < (t228.length : Int):=of_decide_eq_true pH;obtain ⟨ad236,e236,hx236_0⟩:=Kd.rG (Kd.bM wA.out).2.2 iF aSO q236;obtain rfl : ad235 = ad236:=(by injection e236)
                replace aSO:=eq_true aSO;replace q236:=eq_true q236;refine qR (n:=12) (S:=fun w' => w'.cell? ⟨XU,0,none⟩ = some (.int .i64 t223)∧w'.cell? ⟨XU,1,none⟩ = some (.int .i64 t224)∧w'.cell? ⟨XU,2,none⟩ = some (.slice aDc t225.length aCQ)∧w'.cell? ⟨xU,0,none⟩ = some (.int .i64 aQ)∧w'.cell? ⟨xU,1,none⟩ = some (.int .i64 aK)∧w'.cell? ⟨xU,2,none⟩ = some (.slice cG aV.length cF)∧w'.cell? (ad235.add (iF).toNat) = some (.int .i64 (rd t228 iF))) (ds:=[11]) #[false,false,false,false,false,false,false,false,false,false,false,false] (by kernel_rfl) rfl rfl ⟨(aU lY.out 0).trans rfl,(aU lY.out 1).trans rfl,(aU lY.out 2).trans rfl,(aU cY.out 0).trans rfl,(aU cY.out 1).trans rfl,(aU cY.out 2).trans rfl,hx236_0⟩ (fun hHeld => ?_);refine jO aZ.aKC aZ.aFX (fun HT_ HW_ => ?_);generalize w63.drew = w64 at wA vZ lH cY dW lY HB hx236_0 hHeld ⊢;refine cB (i:=0) (N:=some 75) (v:=?_) (a':=?_) (eE 12 1) rfl rfl (bK HT_.out (by kernel_rfl)) (fun _ _ _ h => h) (Or.inl ⟨by rfl,?_⟩) ?_ ?_;rotate_left
                ·intro w'
                 go_simp;(with_reducible rfl)
                rotate_left
                ·simp only [Act.put,cV,cT,cW,bG,bH]
                 rfl
                refine cB (i:=1) (N:=some 76) (v:=?_) (a':=?_) (eE 12 3) rfl rfl (bK HT_.out (by kernel_rfl)) (fun _ _ _ h => h) (Or.inl ⟨by rfl,?_⟩) ?_ ?_;rotate_left
                ·intro w'
                 go_simp;(with_reducible rfl)
                rotate_left
                ·simp only [Act.put,cV,cT,cW,bG,bH]
                 rfl
                refine cB (i:=2) (N:=some 77) (v:=?_) (a':=?_) (eE 12 7) rfl rfl (bK HT_.out (by kernel_rfl)) (fun _ _ _ h => h) (Or.inl ⟨by rfl,?_⟩) ?_ ?_;rotate_left
                ·intro w'
                 go_simp;(with_reducible rfl)
                rotate_left
                ·simp only [Act.put,cV,cT,cW,bG,bH]
                 rfl
                refine cB (i:=3) (N:=some 78) (v:=?_) (a':=?_) (eE 12 15) rfl rfl (bK HT_.out (by kernel_rfl)) (fun _ _ _ h => h) (Or.inl ⟨by rfl,?_⟩) ?_ ?_;rotate_left
                ·intro w'
                 go_simp;(with_reducible rfl)
                rotate_left
                ·simp only [Act.put,cV,cT,cW,bG,bH]
                 rfl
                refine cB (i:=6) (N:=some 81) (v:=?_) (a':=?_) (eE 12 79) rfl rfl (bK HT_.out (by kernel_rfl)) (fun _ _ _ h => h) (Or.inl ⟨by rfl,?_⟩) ?_ ?_;rotate_left
                ·intro w'
                 go_simp;(with_reducible rfl)
                rotate_left
                ·simp only [Act.put,cV,cT,cW,bG,bH]
                 rfl
                refine cB (i:=7) (N:=some 82) (v:=?_) (a':=?_) (eE 12 207) rfl rfl (bK HT_.out (by kernel_rfl)) (fun _ _ _ h => h) (Or.inl ⟨by rfl,?_⟩) ?_ ?_;rotate_left
                ·intro w'
                 go_simp;(with_reducible rfl)
                rotate_left
                ·simp only [Act.put,cV,cT,cW,bG,bH]
                 rfl
                refine hY (i:=4) (N:=some 79) (v:=?_) (a':=?_) (eE 12 223) rfl rfl (dZ HT_.out HW_.out (by kernel_rfl)) (fun _ _ _ h => h) (Or.inl ⟨by rfl,?_⟩) hHeld ?_ ?_;rotate_left
                ·rintro w' ⟨s0,s1,s2,s3,s4,s5,s6⟩
                 go_simp;(with_reducible rfl)
                rotate_left
                ·simp only [Act.put,cV,cT,cW,bG,bH]
                 rfl
                refine hY (i:=5) (N:=some 80) (v:=?_) (a':=?_) (eE 12 255) rfl rfl (dZ HT_.out HW_.out (by kernel_rfl)) (fun _ _ _ h => h) (Or.inl ⟨by rfl,?_⟩) hHeld ?_ ?_;rotate_left
                ·rintro w' ⟨s0,s1,s2,s3,s4,s5,s6⟩
                 go_simp;(with_reducible rfl)
                rotate_left
                ·simp only [Act.put,cV,cT,cW,bG,bH]
                 rfl
                refine hY (i:=8) (N:=some 83) (v:=?_) (a':=?_) (eE 12 511) rfl rfl (dZ HT_.out HW_.out (by kernel_rfl)) (fun _ _ _ h => h) (Or.inl ⟨by rfl,?_⟩) hHeld ?_ ?_;rotate_left
                ·rintro w' ⟨s0,s1,s2,s3,s4,s5,s6⟩
                 go_simp;(with_reducible rfl)
                rotate_left
                ·simp only [Act.put,cV,cT,cW,bG,bH]
                 rfl
                refine yR (i:=9) (N:=some 84) (eE 12 1023) rfl rfl (iU HT_.out (by kernel_rfl)) (by decide) (fun K hK => ?_);refine xS Try.func25 (by kernel_rfl) rfl #[.agg #[.int .i64 t223,.int .i64 t224,.slice aDc t225.length aCQ],.int .i64 iF,.int .i64 aK] (by rfl) rfl rfl pX ?_
                with_reducible refine (cQ.calls t223 t224 _ _ t225 iF aK t237 _ ?side1 ?side2 A58.out).mono ?_
                (case side1 => exact sW ((Kd.bM lH.out).2.2))
                (case side2 => exact (Kd.bM lH.out).2.1);rintro e w65 ⟨rfl,hb⟩;have HS6_:=(hb.cell (World.block_lt_of_cell? _ _ (hHeld.2.2.2.2.2.2))).trans (hHeld.2.2.2.2.2.2);refine ⟨_,rfl,?_⟩;replace wA:=aA.mk (Kd.aY (cN wA.out) hb);replace vZ:=aA.mk (Kd.aY (cN vZ.out) hb);replace lH:=aA.mk (Kd.aY (cN lH.out) hb);replace cY:=aA.mk (aH (bT cY) hb);replace dW:=aA.mk (aH (bT dW) hb);replace lY:=aA.mk (aH (bT lY) hb);replace HB:=aA.mk (aM (jU HB kW oX YY) hb);(try clear hb);(try clear hb2);(try clear hk);(try clear hi);have p61 : 0≤((rd t228 iF) : Int):=of_decide_eq_true pH;have q61 : ((rd t228 iF) : Int) < ((OA.length : Int) : Int):=of_decide_eq_true pH;obtain ⟨go61,bJb,eo61,aXq,gl61,cl61,HG61⟩:=Kd.CT vZ.out (by omega)
                (first | cases eo61 | (injection eo61 with ea_ en_ ec_;(first | subst ea_ | (injection ea_ with ea_;subst ea_));subst ec_;clear en_));have GB61:=aA.mk aXq;have GG61:=aA.mk HG61;clear aXq gl61 HG61;obtain ⟨hx61_0,hf61_0⟩:=Kd.rQ 0 vZ.out ((rd t228 iF) : Int) p61 q61;replace p61:=eq_true p61;replace q61:=eq_true q61;have HP66:=Kd.NH vZ.out ((rd t228 iF) : Int) t237;rw [← Ny238.out] at HP66;have HQ66:=aA.mk HP66;clear HP66;refine hK.out _ _ ⟨(aU lY.out 0).trans rfl,(aU lY.out 1).trans rfl,(aU lY.out 2).trans rfl,(aU cY.out 0).trans rfl,(aU cY.out 1).trans rfl,(aU cY.out 2).trans rfl,HS6_⟩ (fun hHeld => ?_);clear hK K;refine kY (a':=?_) ?_ ?_;rotate_left
                ·show Act.put _ (some 84) _ = _
                 simp only [Act.put,cV,cT,cW,bG,bH];rfl
                refine cB (i:=10) (N:=some 85) (v:=?_) (a':=?_) (eE 12 2047) rfl rfl (bK HT_.out (by kernel_rfl)) (fun _ _ _ h => h) (Or.inl ⟨by rfl,?_⟩) ?_ ?_;rotate_left
                ·intro w'
                 go_simp;(with_reducible rfl)
                rotate_left
                ·simp only [Act.put,cV,cT,cW,bG,bH]
                 rfl
                refine OZ (i:=11) (N:=none) (eE 12 4095) rfl rfl (iU HT_.out (by kernel_rfl)) (by decide) (fun K hK => ?_);refine GN (w1:=?_) (by rfl) rfl ?_ ?_;rotate_left
                ·go_simp
                 rfl
                refine hK.out _ _ ?_;clear hK K;refine vY (oG HT_.out (by kernel_rfl)) ?_
                try go_wp2
                go_roundg k3
                case measure => have:=HJ2.out;have:=yL.out;have:=UN.out;omega
                case rel => exact ⟨(y238),(wrap64 (iF + 1)),rT,H',⟨by have:=HJ2.out;have:=yL.out;have:=UN.out;omega⟩,⟨by (with_reducible repeat first | apply Kd.bX | apply Kd.bW | apply Kd.bQ);exact Kd.cE (Kd.cU (p:=⟨go61,((rd t228 iF) : Int).toNat,none⟩) (Kd.eM wA.out GG61.out (by decide)) (fun _ hk => hk.2) (.int .u8 t237)) (fun _ hk => trivial)⟩,⟨cN HQ66.out⟩,⟨by (with_reducible repeat first | apply Kd.bX | apply Kd.bW | apply Kd.bQ);exact Kd.cE (Kd.cU (p:=⟨go61,((rd t228 iF) : Int).toNat,none⟩) (Kd.cE lH.out (fun k_ hk => (⟨hk,fun e_ => hk (by rw [e_];rfl)⟩ : _∧k_≠go61))) (fun _ hk => hk.2) (.int .u8 t237)) (fun _ hk => hk.1)⟩,⟨by (with_reducible repeat first | apply aE | apply aG | apply aC);refine aN ?_ (by have h_:=Kd.oY vZ.out cY.out (by decide);intro e_;exact h_ (by rw [e_];rfl)) _;(with_reducible repeat first | apply aE | apply aG | apply aC);exact cY.out⟩,⟨by (with_reducible repeat first | apply aE | apply aG | apply aC);refine aN ?_ (by have h_:=Kd.oY vZ.out dW.out (by decide);intro e_;exact h_ (by rw [e_];rfl)) _;(with_reducible repeat first | apply aE | apply aG | apply aC);exact dW.out⟩,⟨by (with_reducible repeat first | apply aE | apply aG | apply aC);refine aN ?_ (by have h_:=Kd.oY vZ.out lY.out (by decide);intro e_;exact h_ (by rw [e_];rfl)) _;(with_reducible repeat first | apply aE | apply aG | apply aC);exact lY.out⟩,⟨vV HB GB61 kW oX YY⟩⟩
               ·rw [if_neg c60] at H
                exact absurd H (by simp)
              ·rw [if_neg c59] at H
               exact absurd H (by simp)
            ·rw [if_neg c54] at H
             exact absurd H (by simp)
           ·rw [if_neg SU] at H
            have GA : decide (iF < (t228.length : Int)) = false:=decide_eq_false SU;clear SU;simp only [Option.some.injEq,Prod.mk.injEq] at H;obtain ⟨rfl,rfl,rfl⟩:=H;obtain ⟨bJv,bIY,eo67⟩:=Kd.cZ wA.out;subst eo67
            go_wp2
            go_ret3
            exact ⟨_,yE,by (with_reducible repeat first | apply Kd.bX | apply Kd.bW | apply Kd.bQ);exact Kd.cE vZ.out (fun _ hk => trivial),jU HB kW oX YY⟩
        ·rw [if_neg c39] at H
         exact absurd H (by simp)
       ·rw [if_neg c38] at H
        exact absurd H (by simp)
end Go.Proofs.Yteofcbkjhdadpaa.Pr
