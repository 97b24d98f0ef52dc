import Derived.Test.YteofcbkjhdadpaaCBuildChecksx0
import Derived.Test.YteofcbkjhdadpaaCBuildChecksx2
import Derived.Test.YteofcbkjhdadpaaCBuildChecksx3
import Derived.Test.YteofcbkjhdadpaaCBuildChecksx4
import Derived.Test.YteofcbkjhdadpaaCBuildChecksq
set_option maxHeartbeats 8000000
set_option maxRecDepth 100000
set_option linter.unusedSimpArgs false
set_option linter.unusedVariables false
namespace Go.Proofs.Yteofcbkjhdadpaa.Pr
open Go.RowKit Go.Proofs.aH.bJ Go.Proofs.aH.eI Go.Proofs.aH.fW
attribute [local go_sem] iN iL kP kO gK gJ iM iK   -- for this text's walks alone
mutual
def aU.j0 : Nat→List Int→Bool→Int→Int→List Int→Option (List Int×Bool×Int)
 | 0,_,_,_,_,_ => none
 | k + 1,x1,x24,AF,rS,FQ => if x24 = true then (some (([] : List Int),false,3)) else (aU.l0 k x1 0 AF rS FQ AF (wrap64 (rS + 1)) ([] : List Int))
def aU.l0 : Nat→List Int→Int→Int→Int→List Int→Int→Int→List Int→Option (List Int×Bool×Int)
 | 0,_,_,_,_,_,_,_,_ => none
 | k + 1,x1,x8,AF,rS,FQ,aIb,aIa,aCu => if x8 < AF then ((cD.f k AF rS FQ x8).bind fun aTi => (if aCu.length + aTi.1.length < 140737488355328 then ((some (aCu ++ aTi.1 : List Int)).bind fun y213 => (if 0≤x8 then (if x8 < (x1.length : Int) then ((some (([rd x1 x8] : List Int) : List Int)).bind fun y217 => (if y213.length + y217.length < 140737488355328 then (aU.l0 k x1 (wrap64 (x8 + 1)) AF rS FQ aIb aIa (y213 ++ y217)) else (none))) else (none)) else (none))) else (none))) else ((aM.f k aIb aIa aCu).bind fun QZ => (if 0≤rS then (if (rS : Int).toNat≤281474976710656 then (aU.l1 k QZ.2.2.2 (List.replicate (rS : Int).toNat 0) 0 AF rS FQ QZ.1 QZ.2.1 QZ.2.2.1) else (none)) else (none)))
def aU.l1 : Nat→List Int→List Int→Int→Int→Int→List Int→Int→Int→List Int→Option (List Int×Bool×Int)
 | 0,_,_,_,_,_,_,_,_,_ => none
 | k + 1,x12,x13,XS,AF,rS,FQ,aHZ,aHY,aHX => if XS < (x12.length : Int) then (if 0≤XS then (if (rd x12 XS) = rS then (some (([] : List Int),false,0)) else ((cF.f aHZ aHY aHX XS rS).bind fun t237 => (if 0≤(rd x12 XS) then (if (rd x12 XS) < (x13.length : Int) then (aU.l1 k x12 (x13.set ((rd x12 XS) : Int).toNat t237) (wrap64 (XS + 1)) AF rS FQ aHZ aHY aHX) else (none)) else (none)))) else (none)) else (some (x13,true,0))
end
def aU.f (k : Nat) (aK : Int) (aI : Int) (aQ : List Int) (l1 : List Int) : Option (List Int×Bool×Int):=(bA.f aK aI aQ).bind fun t207 => (if t207 = true then (aU.j0 k l1 ((l1.length : Int) != aK) aK aI aQ) else (aU.j0 k l1 true aK aI aQ))
def aU.T8 : Bool×List (List Nat×List Nat):=(true,[([],[]),([0],[0]),([],[]),([1,2],[1,2]),([],[]),([],[]),([4,5],[4,5]),([6],[6]),([7],[7]),([3,8,3],[3,8]),([0,1,2,3,4,5,6,7,8,9],[]),([10,9,9,0,1,2,3,4,5,6,7,8,9],[9,10])])
def aU.B8 : List Nat:=[0,1,0,7,0,0,48,112,240,511,1023,2047]
theorem aU.aPD : rV .any (opsOf Try.f62 8) = aU.T8:=by kernel_rfl
theorem aU.aJH : nB aU.T8.2 aU.B8 = true:=by kernel_rfl
def aU.T16 : Bool×List (List Nat×List Nat):=(true,[([],[]),([],[]),([],[]),([1,2],[1,2]),([3],[3]),([],[]),([],[]),([],[]),([7],[7]),([5,6,8],[5,6,8]),([0,4,0,1,2,3,4,5,6,7,8,9],[0,4]),([10,9,9,0,1,2,3,4,5,6,7,8,9],[9,10])])
def aU.B16 : List Nat:=[0,0,0,6,14,0,0,0,128,480,1023,2047]
theorem aU.aEO : rV .any (opsOf Try.f62 16) = aU.T16:=by kernel_rfl
theorem aU.aAc : nB aU.T16.2 aU.B16 = true:=by kernel_rfl
theorem aU.calls (k : Nat) (aK : Int) (aI : Int) (bI : Option Addr) (bH : Nat) (aQ : List Int) (A1 : Option Addr) (c1 : Nat) (l1 : List Int) (r1 : List Int) (r2 : Bool) (r3 : Int) (w : World) (hr0_2 : Kd.C (Kd.int .u8) w bI aQ.length aQ) (hc0_2 : aQ.length≤bH) (hr1 : Kd.C (Kd.int .u8) w A1 l1.length l1) (hc1 : l1.length≤c1) (h : aU.f k aK aI aQ l1 = some (r1,r2,r3)) :
  Calls Try.prog 62 #[.agg #[.int .i64 aK,.int .i64 aI,.slice bI aQ.length bH],.slice A1 l1.length c1] w fun e w' => ∃ v0_ : Value,e = .returned (.tuple #[v0_,.bool r2,.int .i64 r3])∧Kd.R (Kd.int .u8) 5 w' w.heap.size (fun _ => True) v0_ r1∧Below w.heap.size w w':=by
 have zL:=Try.underlying24;have dY:=aA.mk hr0_2;have eC:=aA.mk hc0_2;clear hr0_2 hc0_2;have pQ:=aA.mk hr1;have HC1:=aA.mk hc1;clear hr1 hc1;have HB:=aA.mk (Below.refl w.heap.size w);have H : ((bA.f aK aI aQ).bind fun t207 => (if t207 = true then (aU.j0 k l1 ((l1.length : Int) != aK) aK aI aQ) else (aU.j0 k l1 true aK aI aQ))) = some (r1,r2,r3):=h;clear h;have HC3:=aA.mk H;clear H;go_enter Try.func62,Try.ntmps62;go_upto_region 1 with (first | ((with_reducible refine bK (N:=2) rfl ?_);(try (refine dH (by rfl) ?_;dsimp only));refine lS (N:=2) (cs:=#[.int .i64 aK,.int .i64 aI,.slice bI aQ.length bH]) (t:=24) ?_;intro zA hg w4 hbox hb;have cR:=aA.mk (hbox);have bHC:=aA.mk (eP hg (cX HB) : w.heap.size≤zA);have lJ:=aA.mk (eP hg (cX HB) : w.heap.size≤zA);replace HB:=aA.mk (aN (cX HB) hb);clear hb hbox hg))
 (try simp only [Act.put,cT,cS,cU])
 go_cut [24] (fun v24 wc => ∃ (kq : Nat) (OU : Bool),v24 = .bool OU∧aA (aU.j0 kq l1 OU aK aI aQ = some (r1,r2,r3))∧aA (kq≤k)∧aA (wc.heap[zA]? = some (.cells #[.int .i64 aK,.int .i64 aI,(.slice bI aQ.length bH)] 24 (0,0)))∧aA (Below w.heap.size w wc))
 case first =>
  have H:=HC3.out;clear HC3;replace H:=Option.bind_eq_some_iff.mp H;obtain ⟨t207,A50,H⟩:=H;replace H : (if t207 = true then (aU.j0 k l1 ((l1.length : Int) != aK) aK aI aQ) else (aU.j0 k l1 true aK aI aQ)) = some (r1,r2,r3):=H;have A5:=aA.mk A50;clear A50
  by_cases c6 : t207 = true
  ·subst c6
   have H1 : (aU.j0 k l1 ((l1.length : Int) != aK) aK aI aQ) = some (r1,r2,r3):=by rw [if_pos rfl] at H;exact H
   clear H;have H:=H1;clear H1;have H':=aA.mk H;clear H;have jN:=bL cR 0 (.int .i64 aK) rfl;have jM:=bL cR 1 (.int .i64 aI) rfl;have jL:=bL cR 2 (.slice bI aQ.length bH) rfl;have jK:=aC cR.out 0;have jJ:=aC cR.out 1;have jI:=aC cR.out 2;go_wp2_with (first | ((with_reducible refine bE (f:=17) rfl ?_);refine cO (some 16) rfl rfl Try.func17 (by kernel_rfl) rfl #[.agg #[.int .i64 aK,.int .i64 aI,.slice bI aQ.length bH]] rfl lU ?_;(with_reducible refine (bA.calls aK aI _ _ aQ true _ ?side1 ?side2 A5.out).mono ?_);(case side1 => exact nY (Kd.cP dY.out HB.out));(case side2 => exact eC.out);rintro e w8 ⟨rfl,hb⟩;refine ⟨_,rfl,?_⟩;replace cR:=aA.mk (aJ (cH cR) hb);replace HB:=aA.mk (aN (cL HB lJ) hb);(try clear hb);(try clear hb2);(try clear hk);(try clear hi);have oQ:=bL cR 0 (.int .i64 aK) rfl;have oP:=bL cR 1 (.int .i64 aI) rfl;have oO:=bL cR 2 (.slice bI aQ.length bH) rfl;have oN:=aC cR.out 0;have oM:=aC cR.out 1;have oL:=aC cR.out 2))
   go_meet
   case rel => exact ⟨_,(((l1.length : Int) != aK)),mU,H',⟨q_o⟩,⟨gP cR.out⟩,⟨cL HB lJ⟩⟩
  ·replace c6:=Bool.eq_false_iff.mpr c6
   subst c6;have H1 : (aU.j0 k l1 true aK aI aQ) = some (r1,r2,r3):=by rw [if_neg (show ¬ (false = true) by decide)] at H;exact H
   clear H;have H:=H1;clear H1;have H':=aA.mk H;clear H;have nO:=bL cR 0 (.int .i64 aK) rfl;have nN:=bL cR 1 (.int .i64 aI) rfl;have nM:=bL cR 2 (.slice bI aQ.length bH) rfl;have nL:=aC cR.out 0;have nK:=aC cR.out 1;have nJ:=aC cR.out 2;go_wp2_with (first | ((with_reducible refine bE (f:=17) rfl ?_);refine cO (some 16) rfl rfl Try.func17 (by kernel_rfl) rfl #[.agg #[.int .i64 aK,.int .i64 aI,.slice bI aQ.length bH]] rfl lU ?_;(with_reducible refine (bA.calls aK aI _ _ aQ false _ ?side1 ?side2 A5.out).mono ?_);(case side1 => exact nY (Kd.cP dY.out HB.out));(case side2 => exact eC.out);rintro e w11 ⟨rfl,hb⟩;refine ⟨_,rfl,?_⟩;replace cR:=aA.mk (aJ (cH cR) hb);replace HB:=aA.mk (aN (cL HB lJ) hb);(try clear hb);(try clear hb2);(try clear hk);(try clear hi)))
   go_meet
   case rel => exact ⟨_,(true),mU,H',⟨q_o⟩,⟨gP cR.out⟩,⟨cL HB lJ⟩⟩
 case rest =>
  clear HC3;(try clear c1);(try clear p2);(try clear c6);(try clear nO);(try clear nN);(try clear nM);(try clear jN);(try clear jM);(try clear jL);(try clear oQ);(try clear oP);(try clear oO);(try clear nL);(try clear nK);(try clear nJ);(try clear jK);(try clear jJ);(try clear jI);(try clear oN);(try clear oM);(try clear oL);obtain ⟨kq,OU,rfl,HA,HJ2,cR,HB⟩:=hcut
  cases kq with
  | zero => exact absurd HA.out (by simp [aU.j0])
  | succ kj2 =>
   have H:=HA.out;clear HA;simp only [aU.j0] at H
   by_cases yR : OU = true
   ·subst yR
    have H1 : (some (([] : List Int),false,3)) = some (r1,r2,r3):=by rw [if_pos rfl] at H;exact H
    clear H;have H:=H1;clear H1;simp only [Option.some.injEq,Prod.mk.injEq] at H;obtain ⟨rfl,rfl,rfl⟩:=H
    go_wp2
    go_ret3
    exact ⟨_,tZ,IW,cL HB lJ⟩
   ·replace yR:=Bool.eq_false_iff.mpr yR
    subst yR;have H1 : (aU.l0 kj2 l1 0 aK aI aQ aK (wrap64 (aI + 1)) ([] : List Int)) = some (r1,r2,r3):=by rw [if_neg (show ¬ (false = true) by decide)] at H;exact H
    clear H;have H:=H1;clear H1;have H':=aA.mk H;clear H;have kW:=bL cR 0 (.int .i64 aK) rfl;have kV:=bL cR 1 (.int .i64 aI) rfl;have kU:=bL cR 2 (.slice bI aQ.length bH) rfl;have kT:=aC cR.out 0;have kS:=aC cR.out 1;have kR:=aC cR.out 2;go_wp2_with (first | ((with_reducible refine bK (N:=7) rfl ?_);(try (refine dH (by rfl) ?_;dsimp only));refine lS (N:=7) (cs:=#[.int .i64 0,.int .i64 0,.slice none 0 0]) (t:=24) ?_;intro yZ hg w14 hbox hb;have dQ:=aA.mk (hbox);have bHB:=aA.mk (eP hg (cL HB lJ) : w.heap.size≤yZ);have pB:=aA.mk (eP hg (cL HB lJ) : w.heap.size≤yZ);replace HB:=aA.mk (aN (cL HB lJ) hb);have uP:=aA.mk (sU hg (cH cR));have LX:=aA.mk (sV hg (cH cR));replace cR:=aA.mk (aJ (cH cR) hb);clear hb hbox hg;have aNs:=LX.out;have aNn:=uP.out;have DL:=bL dQ 0 (.int .i64 0) rfl;have DK:=bL dQ 1 (.int .i64 0) rfl;have DJ:=bL dQ 2 (.slice none 0 0) rfl;have DE:=aC dQ.out 0;have DD:=aC dQ.out 1;have DC:=aC dQ.out 2))
    go_loopg [8] kj2 (fun kq v8 w' => ∃ (jF : Int) (fK : List Int) (VR : Value),v8 = .int .i64 jF∧aA (aU.l0 kq l1 jF aK aI aQ aK (wrap64 (aI + 1)) fK = some (r1,r2,r3))∧aA (kq≤kj2)∧aA (Kd.R (Kd.int .u8) 5 w' w.heap.size (fun _ => True) VR fK)∧aA (w'.heap[zA]? = some (.cells #[.int .i64 aK,.int .i64 aI,(.slice bI aQ.length bH)] 24 (0,0)))∧aA (w'.heap[yZ]? = some (.cells #[.int .i64 aK,.int .i64 (wrap64 (aI + 1)),VR] 24 (0,0)))∧aA (Below w.heap.size w w'))
    case atStart => exact ⟨(0),(([] : List Int)),(.slice none 0 0),mU,H',⟨Nat.le_refl _⟩,⟨IW⟩,⟨by (with_reducible repeat first | apply aE | apply aG | apply aD);refine aV ?_ uP.out _;(with_reducible repeat first | apply aE | apply aG | apply aD);refine aV ?_ uP.out _;(with_reducible repeat first | apply aE | apply aG | apply aD);refine aV ?_ uP.out _;(with_reducible repeat first | apply aE | apply aG | apply aD);exact cR.out⟩,⟨by (with_reducible repeat first | apply aE | apply aG | apply aD);refine aZ (cs:=#[.int .i64 aK,.int .i64 (wrap64 (aI + 1)),.slice none 0 0]) ?_ 2 _ rfl;(with_reducible repeat first | apply aE | apply aG | apply aD);refine aZ (cs:=#[.int .i64 aK,.int .i64 0,.slice none 0 0]) ?_ 1 _ rfl;(with_reducible repeat first | apply aE | apply aG | apply aD);refine aZ (cs:=#[.int .i64 0,.int .i64 0,.slice none 0 0]) ?_ 0 _ rfl;(with_reducible repeat first | apply aE | apply aG | apply aD);exact dQ.out⟩,⟨dA HB lJ pB⟩⟩
    case round =>
     clear H';(try clear c1);(try clear p2);(try clear c6);(try clear p6);(try clear yR);(try clear c15);(try clear nO);(try clear nN);(try clear nM);(try clear kW);(try clear kV);(try clear kU);(try clear DL);(try clear DK);(try clear DJ);(try clear jN);(try clear jM);(try clear jL);(try clear oQ);(try clear oP);(try clear oO);(try clear nL);(try clear nK);(try clear nJ);(try clear kT);(try clear kS);(try clear kR);(try clear DE);(try clear DD);(try clear DC);(try clear jK);(try clear jJ);(try clear jI);(try clear oN);(try clear oM);(try clear oL);(try clear p2);obtain ⟨jF,fK,VR,rfl,HA,zU,fN,cR,dQ,HB⟩:=hrel
     cases gk with
     | zero => exact absurd HA.out (by simp [aU.l0])
     | succ k2 =>
      have H:=HA.out;clear HA;simp only [aU.l0] at H
      by_cases IU : jF < aK
      ·rw [if_pos IU] at H
       have aJz : decide (jF < aK) = true:=decide_eq_true IU;clear IU;replace H:=Option.bind_eq_some_iff.mp H;obtain ⟨⟨t209,t212⟩,aPg,H⟩:=H;replace H : (if fK.length + t209.length < 140737488355328 then ((some (fK ++ t209 : List Int)).bind fun y213 => (if 0≤jF then (if jF < (l1.length : Int) then ((some (([rd l1 jF] : List Int) : List Int)).bind fun y217 => (if y213.length + y217.length < 140737488355328 then (aU.l0 k2 l1 (wrap64 (jF + 1)) aK aI aQ aK (wrap64 (aI + 1)) (y213 ++ y217)) else (none))) else (none)) else (none))) else (none)) = some (r1,r2,r3):=H;have A18:=aA.mk aPg;clear aPg
       by_cases c19 : fK.length + t209.length < 140737488355328
       ·rw [if_pos c19] at H
        have LMc19:=aA.mk c19;clear c19;obtain ⟨y213,hy213⟩ : ∃ y_ : List Int,y_ = (fK ++ t209):=⟨_,rfl⟩
        replace H : (if 0≤jF then (if jF < (l1.length : Int) then ((some (([rd l1 jF] : List Int) : List Int)).bind fun y217 => (if y213.length + y217.length < 140737488355328 then (aU.l0 k2 l1 (wrap64 (jF + 1)) aK aI aQ aK (wrap64 (aI + 1)) (y213 ++ y217)) else (none))) else (none)) else (none)) = some (r1,r2,r3):=by first | (rw [hy213];with_reducible exact H) | (have H2_:=(Option.bind_some _ _).symm.trans H;rw [hy213];with_reducible exact H2_) | (have H2_:=(Option.bind_some _ _).symm.trans H;with_reducible exact H2_) | with_reducible exact H | (rw [hy213];exact H) | exact H
        have Ny213:=aA.mk hy213;clear hy213
        by_cases NY : 0≤jF
        ·rw [if_pos NY] at H
         have aFP : decide (0≤jF) = true:=decide_eq_true NY;clear NY
         by_cases DQ : jF < (l1.length : Int)
         ·rw [if_pos DQ] at H
          have ER : decide (jF < (l1.length : Int)) = true:=decide_eq_true DQ;clear DQ;obtain ⟨y217,hy217⟩ : ∃ y_ : List Int,y_ = (([rd l1 jF] : List Int)):=⟨_,rfl⟩
          replace H : (if y213.length + y217.length < 140737488355328 then (aU.l0 k2 l1 (wrap64 (jF + 1)) aK aI aQ aK (wrap64 (aI + 1)) (y213 ++ y217)) else (none)) = some (r1,r2,r3):=by first | (rw [hy217];with_reducible exact H) | (have H2_:=(Option.bind_some _ _).symm.trans H;rw [hy217];with_reducible exact H2_) | (have H2_:=(Option.bind_some _ _).symm.trans H;with_reducible exact H2_) | with_reducible exact H | (rw [hy217];exact H) | exact H
          have Ny217:=aA.mk hy217;clear hy217
          by_cases RP : y213.length + y217.length < 140737488355328
          ·rw [if_pos RP] at H
           have LMc22:=aA.mk RP;clear RP;obtain ⟨y220,hy220⟩ : ∃ y_ : List Int,y_ = (y213 ++ y217):=⟨_,rfl⟩
           replace H : (aU.l0 k2 l1 (wrap64 (jF + 1)) aK aI aQ aK (wrap64 (aI + 1)) y220) = some (r1,r2,r3):=by first | (rw [hy220];with_reducible exact H) | (have H2_:=(Option.bind_some _ _).symm.trans H;rw [hy220];with_reducible exact H2_) | (have H2_:=(Option.bind_some _ _).symm.trans H;with_reducible exact H2_) | with_reducible exact H | (rw [hy220];exact H) | exact H
           have Ny220:=aA.mk hy220;clear hy220;have H':=aA.mk H;clear H;have aXy:=uP.out;have aWT:=LX.out;have aEo:=bL cR 0 (.int .i64 aK) rfl;have aEn:=bL cR 1 (.int .i64 aI) rfl;have aEm:=bL cR 2 (.slice bI aQ.length bH) rfl;have aDK:=aC cR.out 0;have aDJ:=aC cR.out 1;have aDI:=aC cR.out 2
           try go_wp2_with (first | ((with_reducible refine bE (f:=54) rfl ?_);refine cO (some 40) rfl rfl Try.func54 (by kernel_rfl) rfl #[.agg #[.int .i64 aK,.int .i64 aI,.slice bI aQ.length bH],.int .i64 jF] rfl lU ?_;(with_reducible refine (cD.calls k2 aK aI _ _ aQ jF t209 t212 _ ?side1 ?side2 A18.out).mono ?_);(case side1 => exact nY (Kd.cP dY.out HB.out));(case side2 => exact eC.out);rintro e w25 ⟨v210,rfl,ho0,hb⟩;refine ⟨_,rfl,?_⟩;have oB:=aA.mk (Kd.dI (Kd.eM ho0 (Kd.jD (dB fN.out))) (bR (dA HB lJ pB)));replace fN:=aA.mk (Kd.cZ (dB fN.out) (Kd.eK ho0) hb);replace cR:=aA.mk (aJ (cH cR) hb);replace dQ:=aA.mk (aJ (cH dQ) hb);replace HB:=aA.mk (aN (dA HB lJ pB) hb);(try clear hb);(try clear hb2);(try clear hk);(try clear hi);(try clear ho0);obtain ⟨aBk,aBd,eo26⟩:=Kd.cK fN.out;subst eo26;obtain ⟨RL,NV,eo27⟩:=Kd.cK oB.out;subst eo27))
           replace fN:=aA.mk (Kd.bP fN.out);replace oB:=aA.mk (Kd.bP oB.out);replace cR:=aA.mk (aG cR.out);replace dQ:=aA.mk (aG dQ.out);replace HB:=aA.mk (eD HB.out);have aPV : 0≤(jF : Int):=of_decide_eq_true mD;have q216 : jF < (l1.length : Int):=of_decide_eq_true mD;obtain ⟨ad216,e216,hx216_0⟩:=Kd.mX pQ.out jF aPV q216;have tJ:=hx216_0
           cases e216
           replace hx216_0:=(HB.out.cell (World.block_lt_of_cell? w _ hx216_0)).trans hx216_0;replace aPV:=eq_true aPV;replace q216:=eq_true q216;refine qD (n:=12) (S:=fun w' => w'.cell? ⟨yZ,0,none⟩ = some (.int .i64 aK)∧w'.cell? ⟨yZ,1,none⟩ = some (.int .i64 (wrap64 (aI + 1)))∧w'.cell? ⟨yZ,2,none⟩ = some (.slice aBk fK.length aBd)∧w'.cell? (ad216.add (jF).toNat) = some (.int .u8 (rd l1 jF))) (ds:=[11]) #[false,false,false,false,false,false,false,false,false,false,false,false] (by kernel_rfl) rfl rfl ⟨(bB dQ.out 0).trans rfl,(bB dQ.out 1).trans rfl,(bB dQ.out 2).trans rfl,((HB.out.cell (World.block_lt_of_cell? w _ tJ)).trans tJ)⟩ (fun hHeld => ?_);refine jR aU.aPD aU.aJH (fun HT_ HW_ => ?_);generalize w25.drew = w28 at fN oB cR dQ HB hx216_0 hHeld ⊢;refine bZ (i:=0) (N:=some 43) (v:=?_) (a':=?_) (eB 12 1) rfl rfl (bM HT_.out (by kernel_rfl)) (fun _ _ _ h => h) (Or.inl ⟨by rfl,?_⟩) ?_ ?_;rotate_left
           ·intro w'
            go_simp;(with_reducible rfl)
           rotate_left
           ·simp only [Act.put,cT,cS,cU,bF,bG]
            rfl
           refine bZ (i:=2) (N:=some 45) (v:=?_) (a':=?_) (eB 12 5) rfl rfl (bM HT_.out (by kernel_rfl)) (fun _ _ _ h => h) (Or.inl ⟨by rfl,?_⟩) ?_ ?_;rotate_left
           ·intro w'
            go_simp;(with_reducible rfl)
           rotate_left
           ·simp only [Act.put,cT,cS,cU,bF,bG]
            rfl
           refine bZ (i:=4) (N:=some 47) (v:=?_) (a':=?_) (eB 12 21) rfl rfl (bM HT_.out (by kernel_rfl)) (fun _ _ _ h => h) (Or.inl ⟨by rfl,?_⟩) ?_ ?_;rotate_left
           ·intro w'
            go_simp;(with_reducible rfl)
           rotate_left
           ·simp only [Act.put,cT,cS,cU,bF,bG]
            rfl
           refine bZ (i:=5) (N:=some 48) (v:=?_) (a':=?_) (eB 12 53) rfl rfl (bM HT_.out (by kernel_rfl)) (fun _ _ _ h => h) (Or.inl ⟨by rfl,?_⟩) ?_ ?_;rotate_left
           ·intro w'
            go_simp;(with_reducible rfl)
           rotate_left
           ·simp only [Act.put,cT,cS,cU,bF,bG]
            rfl
           refine bZ (i:=6) (N:=some 49) (v:=?_) (a':=?_) (eB 12 117) rfl rfl (bM HT_.out (by kernel_rfl)) (fun _ _ _ h => h) (Or.inl ⟨by rfl,?_⟩) ?_ ?_;rotate_left
           ·intro w'
            go_simp;(with_reducible rfl)
           rotate_left
           ·simp only [Act.put,cT,cS,cU,bF,bG]
            rfl
           refine gN (i:=1) (N:=some 44) (v:=?_) (a':=?_) (eB 12 119) rfl rfl (dT HT_.out HW_.out (by kernel_rfl)) (fun _ _ _ h => h) (Or.inl ⟨by rfl,?_⟩) hHeld ?_ ?_;rotate_left
           ·rintro w' ⟨s0,s1,s2,s3⟩
            go_simp;(with_reducible rfl)
           rotate_left
           ·simp only [Act.put,cT,cS,cU,bF,bG]
            rfl
           refine gN (i:=7) (N:=some 50) (v:=?_) (a':=?_) (eB 12 247) rfl rfl (dT HT_.out HW_.out (by kernel_rfl)) (fun _ _ _ h => h) (Or.inl ⟨by rfl,?_⟩) hHeld ?_ ?_;rotate_left
           ·rintro w' ⟨s0,s1,s2,s3⟩
            go_simp;(with_reducible rfl)
           rotate_left
           ·simp only [Act.put,cT,cS,cU,bF,bG]
            rfl
           refine aRY (σ:=Value×Value) 3 #[true,true,true,true,true,true,true,true,true,false,false,false] (fun s_ => [(46,s_.1),(51,s_.2)]) (fun s_ w' => (w'.cell? ⟨yZ,0,none⟩ = some (.int .i64 aK)∧w'.cell? ⟨yZ,1,none⟩ = some (.int .i64 (wrap64 (aI + 1)))∧w'.cell? ⟨yZ,2,none⟩ = some (.slice aBk fK.length aBd)∧w'.cell? (ad216.add (jF).toNat) = some (.int .u8 (rd l1 jF)))∧(Kd.R (Kd.int .u8) 5 w' w.heap.size (fun k_ => some k_≠(s_.1 : Value).ownBlock∧some k_≠(s_.2 : Value).ownBlock) (.slice RL t209.length NV) t209)∧(Kd.R (Kd.int .u8) 5 w' w.heap.size (fun k_ => some k_≠(.slice RL t209.length NV : Value).ownBlock∧some k_≠(s_.2 : Value).ownBlock) s_.1 y213)∧(Kd.R (Kd.int .u8) 5 w' w.heap.size (fun k_ => some k_≠(.slice RL t209.length NV : Value).ownBlock∧some k_≠(s_.1 : Value).ownBlock) s_.2 y217)∧(w'.heap[zA]? = some (.cells #[.int .i64 aK,.int .i64 aI,.slice bI aQ.length bH] 24 (0,0)))∧(w'.heap[yZ]? = some (.cells #[.int .i64 aK,.int .i64 (wrap64 (aI + 1)),.slice aBk fK.length aBd] 24 (0,0)))∧(Below w.heap.size w w')) ?_ ?_;rotate_left
           ·intro hCont
            refine aVF (i:=3) (j:=8) (Ni:=some 46) (Nj:=some 51) #[true,true,true,true,true,true,true,true,false,false,false,false] #[true,true,true,false,true,true,true,true,true,false,false,false] rfl rfl rfl rfl (aTY HT_.out (by kernel_rfl)) (by decide) (by decide) (fun K hK => ?_) (fun K hK => ?_)
            ·skip
             refine Kd.uC (Kd.int .u8) (w0:=w) w.heap.size (by rfl) (.tmp 44) (.tmp 45) 22 5 (.int .u8 0) 1 rfl Try.underlying22 wT rfl (by decide) (by omega) (.slice aBk fK.length aBd) fK t209 _ _ _ (fun k_ => some k_≠(.slice RL t209.length NV : Value).ownBlock) (fun _ => False) rfl rfl ?aO ?aR (fun _ _ h => h) (fun _ h => h.elim) ?aF ?aB ?aS ?aL ?_
             (case aR => exact nY ((Kd.bQ oB.out).2.2))
             (case aB => exact (dA HB lJ pB))
             (case aF => exact (fun k_ hk => Kd.GP (Kd.jD (dB oB.out)) k_ hk))
             (case aO => exact (by (with_reducible repeat first | apply Kd.bX | apply Kd.bW | apply Kd.bP);exact Kd.cC fN.out (fun _ hk => hk.2)))
             (case aS => exact (bR (dA HB lJ pB)))
             (case aL => have:=LMc19.out;omega);intro aEJ w29 ho hb hg hat;rw [← Ny213.out] at ho;have vG:=aA.mk (dG (cH cR) hg (Kd.iV fN.out cR.out (by decide)));have vF:=aA.mk (dG (cH dQ) hg (Kd.iV fN.out dQ.out (by decide)));have JD:=aA.mk (Kd.sB (ok:=(fun _ => True)) (dB oB.out) hg hat);have PV:=aA.mk (hb);have PU:=aA.mk (ho);clear cR;clear dQ;clear oB;clear HB;clear fN;have cR:=vG;have dQ:=vF;have oB:=JD;have HB:=PV;have KH:=PU;clear vG vF JD PV PU;clear ho hb hg hat;refine hK.out _ _ ⟨(bB dQ.out 0).trans rfl,(bB dQ.out 1).trans rfl,(bB dQ.out 2).trans rfl,((HB.out.cell (World.block_lt_of_cell? w _ tJ)).trans tJ)⟩ (fun hHeld => ?_);clear hK K;refine qL (a':=?_) ?_ ?_;rotate_left
             ·show Act.put _ (some 46) _ = _
              simp only [Act.put,cT,cS,cU,bF,bG];rfl
             refine EK (i:=8) (N:=some 51) (eB 12 511) rfl rfl (jY HT_.out (by kernel_rfl)) (by decide) (fun K hK => ?_);refine Kd.aAk (Kd.int .u8) _ 5 ?hg (N:=51) ?hd (xs:=([rd l1 jF] : List Int)) (inner:=[.int .u8 (rd l1 jF)]) (ok:=fun _ => True) (okp:=fun _ => True) ?hr ?hp (fun _ hk => hk) trivial (Below.refl _ _) (Nat.le_refl _) (by simp) ?_;(case hd => rfl);(case hg => rfl);(case hr => first | (go_simp;done) | (go_simp;rfl));(case hp => exact (fT.one (show Kd.M (Kd.int .u8) _ _ _ (rd l1 jF) [.int .u8 (rd l1 jF)] from rfl) (fT.none _ _)));intro v218 w30 ho31 hb hg_ hnew_;clear hg_ hnew_
             (first | rw [← Ny217.out] at ho31 | (simp only [Int.reduceToNat] at ho31;rw [← Ny217.out] at ho31));have DX:=aA.mk (Kd.dI (Kd.eM (Kd.eM ho31 (Kd.jD (dB oB.out))) (Kd.jD (dB KH.out))) (bR (dA HB lJ pB)));replace oB:=aA.mk (Kd.cZ (dB oB.out) (Kd.eK ho31) hb);replace KH:=aA.mk (Kd.cZ (dB KH.out) (Kd.eK ho31) hb);replace cR:=aA.mk (aJ (cH cR) hb);replace dQ:=aA.mk (aJ (cH dQ) hb);replace HB:=aA.mk (aN (dA HB lJ pB) hb);clear hb ho31;refine hK.out _ _ ⟨(bB dQ.out 0).trans rfl,(bB dQ.out 1).trans rfl,(bB dQ.out 2).trans rfl,((HB.out.cell (World.block_lt_of_cell? w _ tJ)).trans tJ)⟩ (fun hHeld => ?_);clear hK K;refine qL (a':=?_) ?_ ?_;rotate_left
             ·show Act.put _ (some 51) _ = _
              simp only [Act.put,cT,cS,cU,bF,bG];rfl
             exact qL (by simp only [SD,Act.put,cT,cS,cU]) (hCont (aEJ,v218) _ ⟨hHeld,(by (with_reducible repeat first | apply Kd.bX | apply Kd.bW | apply Kd.bP);exact Kd.cC oB.out (fun _ hk => ⟨hk.1.2,hk.2⟩)),(dB KH.out),(by (with_reducible repeat first | apply Kd.bX | apply Kd.bW | apply Kd.bP);exact Kd.cC DX.out (fun _ hk => ⟨hk.1.2,hk.2⟩)),(gP cR.out),(gP dQ.out),(dA HB lJ pB)⟩)
            ·skip
             refine Kd.aAk (Kd.int .u8) _ 5 ?hg (N:=51) ?hd (xs:=([rd l1 jF] : List Int)) (inner:=[.int .u8 (rd l1 jF)]) (ok:=fun _ => True) (okp:=fun _ => True) ?hr ?hp (fun _ hk => hk) trivial (Below.refl _ _) (Nat.le_refl _) (by simp) ?_;(case hd => rfl);(case hg => rfl);(case hr => first | (go_simp;done) | (go_simp;rfl));(case hp => exact (fT.one (show Kd.M (Kd.int .u8) _ _ _ (rd l1 jF) [.int .u8 (rd l1 jF)] from rfl) (fT.none _ _)));intro v218 w29 ho30 hb hg_ hnew_;clear hg_ hnew_
             (first | rw [← Ny217.out] at ho30 | (simp only [Int.reduceToNat] at ho30;rw [← Ny217.out] at ho30));have DX:=aA.mk (Kd.dI (Kd.eM (Kd.eM ho30 (Kd.jD (dB fN.out))) (Kd.jD (dB oB.out))) (bR (dA HB lJ pB)));replace fN:=aA.mk (Kd.cZ (dB fN.out) (Kd.eK ho30) hb);replace oB:=aA.mk (Kd.cZ (dB oB.out) (Kd.eK ho30) hb);replace cR:=aA.mk (aJ (cH cR) hb);replace dQ:=aA.mk (aJ (cH dQ) hb);replace HB:=aA.mk (aN (dA HB lJ pB) hb);clear hb ho30;refine hK.out _ _ ⟨(bB dQ.out 0).trans rfl,(bB dQ.out 1).trans rfl,(bB dQ.out 2).trans rfl,((HB.out.cell (World.block_lt_of_cell? w _ tJ)).trans tJ)⟩ (fun hHeld => ?_);clear hK K;refine qL (a':=?_) ?_ ?_;rotate_left
             ·show Act.put _ (some 51) _ = _
              simp only [Act.put,cT,cS,cU,bF,bG];rfl
             refine EK (i:=3) (N:=some 46) (eB 12 511) rfl rfl (jY HT_.out (by kernel_rfl)) (by decide) (fun K hK => ?_);refine Kd.uC (Kd.int .u8) (w0:=w) w.heap.size (by rfl) (.tmp 44) (.tmp 45) 22 5 (.int .u8 0) 1 rfl Try.underlying22 wT rfl (by decide) (by omega) (.slice aBk fK.length aBd) fK t209 _ _ _ (fun k_ => some k_≠(.slice RL t209.length NV : Value).ownBlock∧some k_≠(v218 : Value).ownBlock) (fun _ => False) rfl rfl ?aO ?aR (fun _ _ h => h) (fun _ h => h.elim) ?aF ?aB ?aS ?aL ?_
             (case aR => exact nY ((Kd.bQ oB.out).2.2))
             (case aB => exact (dA HB lJ pB))
             (case aF => exact (fun k_ hk => ⟨Kd.GP (Kd.jD (dB oB.out)) k_ hk,Kd.GP (Kd.jD (dB DX.out)) k_ hk⟩))
             (case aO => exact (by (with_reducible repeat first | apply Kd.bX | apply Kd.bW | apply Kd.bP);exact Kd.cC fN.out (fun _ hk => ⟨hk.1.2,hk.2⟩)))
             (case aS => exact (bR (dA HB lJ pB)))
             (case aL => have:=LMc19.out;omega);intro aEJ w31 ho hb hg hat;rw [← Ny213.out] at ho;have vG:=aA.mk (dG (cH cR) hg (Kd.iV fN.out cR.out (by decide)));have vF:=aA.mk (dG (cH dQ) hg (Kd.iV fN.out dQ.out (by decide)));have JD:=aA.mk (Kd.sB (ok:=(fun k_ => some k_≠(v218 : Value).ownBlock)) (by (with_reducible repeat first | apply Kd.bX | apply Kd.bW | apply Kd.bP);exact Kd.cC oB.out (fun _ hk => ⟨hk.2,hk.1.2⟩)) hg hat);have PV:=aA.mk (Kd.sB (ok:=(fun k_ => some k_≠(.slice RL t209.length NV : Value).ownBlock)) (by (with_reducible repeat first | apply Kd.bX | apply Kd.bW | apply Kd.bP);exact Kd.cC DX.out (fun _ hk => ⟨hk.2,hk.1.2⟩)) hg hat);have PU:=aA.mk (hb);have n5_:=aA.mk (ho);clear cR;clear dQ;clear oB;clear DX;clear HB;clear fN;have cR:=vG;have dQ:=vF;have oB:=JD;have DX:=PV;have HB:=PU;have KH:=n5_;clear vG vF JD PV PU n5_;clear ho hb hg hat;refine hK.out _ _ ⟨(bB dQ.out 0).trans rfl,(bB dQ.out 1).trans rfl,(bB dQ.out 2).trans rfl,((HB.out.cell (World.block_lt_of_cell? w _ tJ)).trans tJ)⟩ (fun hHeld => ?_);clear hK K;refine qL (a':=?_) ?_ ?_;rotate_left
             ·show Act.put _ (some 46) _ = _
              simp only [Act.put,cT,cS,cU,bF,bG];rfl
             exact qL (by simp only [SD,Act.put,cT,cS,cU]) (hCont (aEJ,v218) _ ⟨hHeld,(by (with_reducible repeat first | apply Kd.bX | apply Kd.bW | apply Kd.bP);exact Kd.cC oB.out (fun _ hk => ⟨hk.2,hk.1⟩)),(dB KH.out),(dB DX.out),(gP cR.out),(gP dQ.out),(dA HB lJ pB)⟩)
           rintro ⟨aEJ,v218⟩ w32 ⟨hS_,h0_,h1_,h2_,h3_,h4_,h5_⟩;have vG : aA (Kd.R (Kd.int .u8) 5 w32 w.heap.size (fun k_ => some k_≠(aEJ : Value).ownBlock∧some k_≠(v218 : Value).ownBlock) (.slice RL t209.length NV) t209):=⟨h0_⟩
           have vF : aA (Kd.R (Kd.int .u8) 5 w32 w.heap.size (fun k_ => some k_≠(.slice RL t209.length NV : Value).ownBlock∧some k_≠(v218 : Value).ownBlock) aEJ y213):=⟨h1_⟩
           have JD : aA (Kd.R (Kd.int .u8) 5 w32 w.heap.size (fun k_ => some k_≠(.slice RL t209.length NV : Value).ownBlock∧some k_≠(aEJ : Value).ownBlock) v218 y217):=⟨h2_⟩
           have PV : aA (w32.heap[zA]? = some (.cells #[.int .i64 aK,.int .i64 aI,.slice bI aQ.length bH] 24 (0,0))):=⟨h3_⟩
           have PU : aA (w32.heap[yZ]? = some (.cells #[.int .i64 aK,.int .i64 (wrap64 (aI + 1)),.slice aBk fK.length aBd] 24 (0,0))):=⟨h4_⟩
           have n5_ : aA (Below w.heap.size w w32):=⟨h5_⟩
           clear fN;clear oB;clear cR;clear dQ;clear HB;clear h0_ h1_ h2_ h3_ h4_ h5_;have oB:=vG;have KH:=vF;have DX:=JD;have cR:=PV;have dQ:=PU;have HB:=n5_;clear vG vF JD PV PU n5_;have hHeld : w32.cell? ⟨yZ,0,none⟩ = some (.int .i64 aK)∧w32.cell? ⟨yZ,1,none⟩ = some (.int .i64 (wrap64 (aI + 1)))∧w32.cell? ⟨yZ,2,none⟩ = some (.slice aBk fK.length aBd)∧w32.cell? (ad216.add (jF).toNat) = some (.int .u8 (rd l1 jF)):=hS_;obtain ⟨MC,JT,eo34⟩:=Kd.cK DX.out
           (first | subst eo34 | (injection eo34 with f1_ f2_ f3_;have f4_:=f1_.symm;have f5_:=f3_.symm;clear f1_ f2_ f3_;subst f4_;subst f5_));refine qL (a':=?_) ?_ ?_;rotate_left
           ·simp only [SD,Act.put,cT,cS,cU]
            rfl
           refine EK (i:=9) (N:=some 52) (eB 12 1023) rfl rfl (jY HT_.out (by kernel_rfl)) (by decide) (fun K hK => ?_);refine Kd.uC (Kd.int .u8) (w0:=w) w.heap.size (by rfl) (.tmp 46) (.tmp 51) 22 5 (.int .u8 0) 1 rfl Try.underlying22 wT rfl (by decide) (by omega) aEJ y213 y217 _ _ _ (fun k_ => some k_≠(.slice RL t209.length NV : Value).ownBlock∧some k_≠(.slice MC y217.length JT : Value).ownBlock) (fun _ => False) rfl rfl ?aO ?aR (fun _ _ h => h) (fun _ h => h.elim) ?aF ?aB ?aS ?aL ?_
           (case aR => exact nY ((Kd.bQ DX.out).2.2))
           (case aB => exact (dA HB lJ pB))
           (case aF => exact (fun k_ hk => ⟨Kd.GP (Kd.jD (dB oB.out)) k_ hk,Kd.GP (Kd.jD (dB DX.out)) k_ hk⟩))
           (case aO => exact (dB KH.out))
           (case aS => exact (bR (dA HB lJ pB)))
           (case aL => have:=LMc22.out;omega);intro bIs w33 ho hb hg hat;rw [← Ny220.out] at ho;have vG:=aA.mk (dG (cH cR) hg (Kd.iV KH.out cR.out (by decide)));have vF:=aA.mk (dG (cH dQ) hg (Kd.iV KH.out dQ.out (by decide)));have JD:=aA.mk (Kd.sB (ok:=(fun k_ => some k_≠(.slice MC y217.length JT : Value).ownBlock)) (by (with_reducible repeat first | apply Kd.bX | apply Kd.bW | apply Kd.bP);exact Kd.cC oB.out (fun _ hk => ⟨hk.2,hk.1⟩)) hg hat);have PV:=aA.mk (Kd.sB (ok:=(fun k_ => some k_≠(.slice RL t209.length NV : Value).ownBlock)) (dB DX.out) hg hat);have PU:=aA.mk (hb);have n5_:=aA.mk (ho);clear cR;clear dQ;clear oB;clear DX;clear HB;clear KH;have cR:=vG;have dQ:=vF;have oB:=JD;have DX:=PV;have HB:=PU;have aTv:=n5_;clear vG vF JD PV PU n5_;clear ho hb hg hat;obtain ⟨aAv,zM,eo35⟩:=Kd.cK aTv.out
           (first | subst eo35 | (injection eo35 with f1_ f2_ f3_;have f4_:=f1_.symm;have f5_:=f3_.symm;clear f1_ f2_ f3_;subst f4_;subst f5_));refine hK.out _ _ ⟨(bB dQ.out 0).trans rfl,(bB dQ.out 1).trans rfl,(bB dQ.out 2).trans rfl,((HB.out.cell (World.block_lt_of_cell? w _ tJ)).trans tJ)⟩ (fun hHeld => ?_);clear hK K;refine qL (a':=?_) ?_ ?_;rotate_left
           ·show Act.put _ (some 52) _ = _
            simp only [Act.put,cT,cS,cU,bF,bG];rfl
           refine bZ (i:=10) (N:=some 53) (v:=?_) (a':=?_) (eB 12 2047) rfl rfl (bM HT_.out (by kernel_rfl)) (fun _ _ _ h => h) (Or.inl ⟨by rfl,?_⟩) ?_ ?_;rotate_left
           ·intro w'
            go_simp;(with_reducible rfl)
           rotate_left
           ·simp only [Act.put,cT,cS,cU,bF,bG]
            rfl
           refine PX (i:=11) (N:=none) (eB 12 4095) rfl rfl (jY HT_.out (by kernel_rfl)) (by decide) (fun K hK => ?_);have hs36:=bL dQ 2 (.slice aBk fK.length aBd) rfl;have hfs36:=aC dQ.out 2;have hns36_0:=uP.out;have hms36_0:=LX.out;refine PG (w1:=?_) (by rfl) rfl ?_ ?_;rotate_left
           ·go_simp
            rfl
           refine hK.out _ _ ?_;clear hK K;refine wV (oD HT_.out (by kernel_rfl)) ?_
           try go_wp2
           go_roundg k2
           case measure => have:=HJ2.out;have:=zU.out;omega
           case rel => exact ⟨(wrap64 (jF + 1)),(y220),(.slice aAv y220.length zM),mU,H',⟨by have:=HJ2.out;have:=zU.out;omega⟩,⟨by (with_reducible repeat first | apply Kd.bX | apply Kd.bW | apply Kd.bP);exact Kd.cC (Kd.cY (p:=⟨yZ,2,none⟩) (Kd.dM aTv.out dQ.out (by decide)) (fun _ hk => hk.2) (.slice aAv y220.length zM)) (fun _ hk => trivial)⟩,⟨by (with_reducible repeat first | apply aE | apply aG | apply aD);refine aV ?_ uP.out _;(with_reducible repeat first | apply aE | apply aG | apply aD);exact cR.out⟩,⟨by (with_reducible repeat first | apply aE | apply aG | apply aD);refine aZ (cs:=#[.int .i64 aK,.int .i64 (wrap64 (aI + 1)),.slice aBk fK.length aBd]) ?_ 2 _ rfl;(with_reducible repeat first | apply aE | apply aG | apply aD);exact dQ.out⟩,⟨dA HB lJ pB⟩⟩
          ·rw [if_neg RP] at H
           exact absurd H (by simp)
         ·rw [if_neg DQ] at H
          exact absurd H (by simp)
        ·rw [if_neg NY] at H
         exact absurd H (by simp)
       ·rw [if_neg c19] at H
        exact absurd H (by simp)
      ·rw [if_neg IU] at H
       have aJz : decide (jF < aK) = false:=decide_eq_false IU;clear IU;replace H:=Option.bind_eq_some_iff.mp H;obtain ⟨⟨t223,t224,t225,t228⟩,bAK,H⟩:=H;replace H : (if 0≤aI then (if (aI : Int).toNat≤281474976710656 then (aU.l1 k2 t228 (List.replicate (aI : Int).toNat 0) 0 aK aI aQ t223 t224 t225) else (none)) else (none)) = some (r1,r2,r3):=H;have A37:=aA.mk bAK;clear bAK
       by_cases c38 : 0≤aI
       ·rw [if_pos c38] at H
        have aZc:=eq_true c38;have aZb : decide (0≤aI) = true:=decide_eq_true c38;clear c38
        by_cases c39 : (aI : Int).toNat≤281474976710656
        ·rw [if_pos c39] at H
         have aOe:=eq_true c39;have aZa : decide ((aI : Int).toNat≤281474976710656) = true:=decide_eq_true c39;clear c39;obtain ⟨y232,hy232⟩ : ∃ y_ : List Int,y_ = (List.replicate (aI : Int).toNat 0):=⟨_,rfl⟩
         replace H : (aU.l1 k2 t228 y232 0 aK aI aQ t223 t224 t225) = some (r1,r2,r3):=by first | (rw [hy232];with_reducible exact H) | (have H2_:=(Option.bind_some _ _).symm.trans H;rw [hy232];with_reducible exact H2_) | (have H2_:=(Option.bind_some _ _).symm.trans H;with_reducible exact H2_) | with_reducible exact H | (rw [hy232];exact H) | exact H
         have Ny232:=aA.mk hy232;clear hy232;have H':=aA.mk H;clear H;have aXs:=uP.out;have aWN:=LX.out;have aJb:=bL cR 0 (.int .i64 aK) rfl;have aJa:=bL cR 1 (.int .i64 aI) rfl;have aIZ:=bL cR 2 (.slice bI aQ.length bH) rfl;have aIJ:=aC cR.out 0;have aII:=aC cR.out 1;have aIH:=aC cR.out 2;have GK:=bL dQ 0 (.int .i64 aK) rfl;have GJ:=bL dQ 1 (.int .i64 (wrap64 (aI + 1))) rfl;have GI:=bL dQ 2 VR rfl;have GD:=aC dQ.out 0;have GC:=aC dQ.out 1;have GB:=aC dQ.out 2;obtain ⟨aOX,aNV,eo43⟩:=Kd.cK fN.out;subst eo43;go_wp2_with (first | ((with_reducible refine bE (f:=86) rfl ?_);refine cO (some 56) rfl rfl Try.func86 (by kernel_rfl) rfl #[.agg #[.int .i64 aK,.int .i64 (wrap64 (aI + 1)),.slice aOX fK.length aNV]] rfl lU ?_;(with_reducible refine (aM.calls k2 aK (wrap64 (aI + 1)) (fun k_ => some k_ = (.slice aOX fK.length aNV : Value).ownBlock) (.slice aOX fK.length aNV) fK t223 t224 t225 t228 w _ ?side1 ?side2 A37.out).mono ?_);(case side1 => repeat (first | (with_reducible first | exact HB.out | apply iD | apply iJ | apply eD | refine gA ?_ lJ.out | refine gA ?_ pB.out) | exact HB.out));(case side2 => exact Kd.aRE rfl fN.out);rintro e w44 ⟨v226,v229,rfl,ho0,ho1,hb,hkp⟩;refine ⟨_,rfl,?_⟩;have vG:=aA.mk (aGc (gP cR.out) hkp (fun hs_ => (fun e_ => (Kd.iV fN.out cR.out (by decide)) e_) hs_));have vF:=aA.mk (aGc (gP dQ.out) hkp (fun hs_ => (fun e_ => (Kd.iV fN.out dQ.out (by decide)) e_) hs_));have JD:=aA.mk (Kd.cC (ok':=fun k_ => True) ho0 (fun k_ hk_ => trivial));have PV:=aA.mk (Kd.cC (ok':=fun k_ => True) ho1 (fun k_ hk_ => trivial));have PU:=aA.mk (hb);clear cR dQ;clear HB fN;have cR:=vG;have dQ:=vF;have aAo:=JD;have aGm:=PV;have HB:=PU;clear vG vF JD PV PU;(try clear hb);(try clear hkp);(try clear ho0);(try clear ho1)) | ((with_reducible refine bK (N:=11) rfl ?_);(try (refine dH (by rfl) ?_;dsimp only));refine lS (N:=11) (cs:=#[.int .i64 0,.int .i64 0,.slice none 0 0]) (t:=24) ?_;intro ZG hg w45 hbox hb;replace aAo:=aA.mk (Kd.bV (dB aAo.out) hb);replace aGm:=aA.mk (Kd.bV (dB aGm.out) hb);have mA:=aA.mk (hbox);have bHA:=aA.mk (eP hg (dA HB lJ pB) : w.heap.size≤ZG);have aAq:=aA.mk (eP hg (dA HB lJ pB) : w.heap.size≤ZG);replace HB:=aA.mk (aN (dA HB lJ pB) hb);have LY:=aA.mk (sU hg (cH cR));have aLO:=aA.mk (sV hg (cH cR));replace cR:=aA.mk (aJ (cH cR) hb);have LW:=aA.mk (sU hg (cH dQ));have aLN:=aA.mk (sV hg (cH dQ));replace dQ:=aA.mk (aJ (cH dQ) hb);clear hb hbox hg;have aSA:=aLO.out;have aSi:=LY.out;have aXp:=aLN.out;have aWK:=LW.out;have aDZ:=bL mA 0 (.int .i64 0) rfl;have aDY:=bL mA 1 (.int .i64 0) rfl;have aDX:=bL mA 2 (.slice none 0 0) rfl;have aDv:=aC mA.out 0;have aDu:=aC mA.out 1;have aDt:=aC mA.out 2;obtain ⟨aBj,aBc,eo49⟩:=Kd.cK aAo.out;subst eo49;have aDW:=bL cR 0 (.int .i64 aK) rfl;have aDV:=bL cR 1 (.int .i64 aI) rfl;have aDU:=bL cR 2 (.slice bI aQ.length bH) rfl;have aDs:=aC cR.out 0;have aDr:=aC cR.out 1;have aDq:=aC cR.out 2) | ((with_reducible refine bK (N:=61) rfl ?_);(try (refine dH (by rfl) ?_;dsimp only));refine Kd.KF (Kd.int .u8) _ 5 rfl (N:=61) rfl 22 _ _ rfl aI rfl rfl Try.underlying22 (.int .u8 0) 1 wT rfl (by decide) (by omega) 0 (ok:=fun _ => True) (okp:=fun _ => True) rfl (fun _ hk => hk) trivial (of_decide_eq_true mD) (Nat.le_trans (Nat.mul_le_mul_right _ (of_decide_eq_true mD : aI.toNat≤281474976710656)) (by omega)) (Below.refl _ _) (Nat.le_refl _) ?_;intro v233 w51 ho52 hb hg_ hnew_;clear hg_ hnew_;(first | rw [← Ny232.out] at ho52 | (simp only [Int.reduceToNat] at ho52;rw [← Ny232.out] at ho52));replace aGm:=aA.mk (Kd.bV (dB (tH aGm.out mA.out (.int .i64 t223) (.int .i64 t224) (.slice aBj t225.length aBc))) hb);have aZH:=aA.mk (Kd.dI (Kd.eM ho52 (Kd.jD (dB (tH aAo.out mA.out (.int .i64 t223) (.int .i64 t224) (.slice aBj t225.length aBc))))) (bR (fE HB lJ pB aAq)));replace aAo:=aA.mk (Kd.cZ (dB (tH aAo.out mA.out (.int .i64 t223) (.int .i64 t224) (.slice aBj t225.length aBc))) (Kd.eK ho52) hb);replace cR:=aA.mk (aJ (g:=zA) (o:=.cells #[.int .i64 aK,.int .i64 aI,.slice bI aQ.length bH] 24 (0,0)) (by (with_reducible repeat first | apply aE | apply aG | apply aD);refine aV ?_ LY.out _;(with_reducible repeat first | apply aE | apply aG | apply aD);refine aV ?_ LY.out _;(with_reducible repeat first | apply aE | apply aG | apply aD);refine aV ?_ LY.out _;(with_reducible repeat first | apply aE | apply aG | apply aD);exact cR.out) hb);replace dQ:=aA.mk (aJ (g:=yZ) (o:=.cells #[.int .i64 aK,.int .i64 (wrap64 (aI + 1)),.slice aOX fK.length aNV] 24 (0,0)) (by (with_reducible repeat first | apply aE | apply aG | apply aD);refine aV ?_ LW.out _;(with_reducible repeat first | apply aE | apply aG | apply aD);refine aV ?_ LW.out _;(with_reducible repeat first | apply aE | apply aG | apply aD);refine aV ?_ LW.out _;(with_reducible repeat first | apply aE | apply aG | apply aD);exact dQ.out) hb);replace mA:=aA.mk (aJ (g:=ZG) (o:=.cells #[.int .i64 t223,.int .i64 t224,.slice aBj t225.length aBc] 24 (0,0)) (by (with_reducible repeat first | apply aE | apply aG | apply aD);refine aZ (cs:=#[.int .i64 t223,.int .i64 t224,.slice none 0 0]) ?_ 2 _ rfl;(with_reducible repeat first | apply aE | apply aG | apply aD);refine aZ (cs:=#[.int .i64 t223,.int .i64 0,.slice none 0 0]) ?_ 1 _ rfl;(with_reducible repeat first | apply aE | apply aG | apply aD);refine aZ (cs:=#[.int .i64 0,.int .i64 0,.slice none 0 0]) ?_ 0 _ rfl;(with_reducible repeat first | apply aE | apply aG | apply aD);exact mA.out) hb);replace HB:=aA.mk (aN (fE HB lJ pB aAq) hb);clear hb ho52))
         go_loopg [14] k2 (fun kq v14 w' => ∃ (OW : List Int) (gT : Int),v14 = .int .i64 gT∧aA (aU.l1 kq t228 OW gT aK aI aQ t223 t224 t225 = some (r1,r2,r3))∧aA (kq≤k2)∧aA (Kd.R (Kd.int .i64) 3 w' w.heap.size (fun _ => True) v229 t228)∧aA (Kd.R (Kd.int .u8) 5 w' w.heap.size (fun k_ => some k_≠((.slice aBj t225.length aBc) : Value).ownBlock) v233 OW)∧aA (Kd.R (Kd.int .u8) 5 w' w.heap.size (fun k_ => some k_≠(v233 : Value).ownBlock) (.slice aBj t225.length aBc) t225)∧aA (w'.heap[zA]? = some (.cells #[.int .i64 aK,.int .i64 aI,(.slice bI aQ.length bH)] 24 (0,0)))∧aA (w'.heap[yZ]? = some (.cells #[.int .i64 aK,.int .i64 (wrap64 (aI + 1)),(.slice aOX fK.length aNV)] 24 (0,0)))∧aA (w'.heap[ZG]? = some (.cells #[.int .i64 t223,.int .i64 t224,(.slice aBj t225.length aBc)] 24 (0,0)))∧aA (Below w.heap.size w w'))
         case atStart => exact ⟨(y232),(0),mU,H',⟨Nat.le_refl _⟩,⟨dB aGm.out⟩,⟨by (with_reducible repeat first | apply Kd.bX | apply Kd.bW | apply Kd.bP);exact Kd.cC aZH.out (fun _ hk => hk.2)⟩,⟨by (with_reducible repeat first | apply Kd.bX | apply Kd.bW | apply Kd.bP);exact Kd.cC aAo.out (fun _ hk => hk.2)⟩,⟨gP cR.out⟩,⟨gP dQ.out⟩,⟨gP mA.out⟩,⟨fE HB lJ pB aAq⟩⟩
         case round =>
          clear H';(try clear c1);(try clear c2);(try clear p2);(try clear q2);(try clear hx2);(try clear c3);(try clear c4);(try clear c5);(try clear c6);(try clear p6);(try clear c8);(try clear yR);(try clear c15);(try clear IU);(try clear aJz);(try clear c19);(try clear NY);(try clear aFP);(try clear DQ);(try clear ER);(try clear p21);(try clear q21);(try clear hx21);(try clear RP);(try clear c23);(try clear c38);(try clear aZc);(try clear aZb);(try clear c39);(try clear aOe);(try clear aZa);(try clear VG);(try clear c46);(try clear c47);(try clear nO);(try clear nN);(try clear nM);(try clear kW);(try clear kV);(try clear kU);(try clear DL);(try clear DK);(try clear DJ);(try clear aEo);(try clear aEn);(try clear aEm);(try clear aJb);(try clear aJa);(try clear aIZ);(try clear GK);(try clear GJ);(try clear GI);(try clear aDZ);(try clear aDY);(try clear aDX);(try clear aDW);(try clear aDV);(try clear aDU);(try clear jN);(try clear jM);(try clear jL);(try clear oQ);(try clear oP);(try clear oO);(try clear nL);(try clear nK);(try clear nJ);(try clear kT);(try clear kS);(try clear kR);(try clear DE);(try clear DD);(try clear DC);(try clear aDK);(try clear aDJ);(try clear aDI);(try clear aIJ);(try clear aII);(try clear aIH);(try clear GD);(try clear GC)
          (try clear GB);(try clear aDv);(try clear aDu);(try clear aDt);(try clear aDs);(try clear aDr);(try clear aDq);(try clear jK);(try clear jJ);(try clear jI);(try clear oN);(try clear oM);(try clear oL);(try clear hx216_0);(try clear p2);(try clear aPV);(try clear p6);(try clear q216);obtain ⟨OW,gT,rfl,HA,OF,wW,pR,lQ,cR,dQ,mA,HB⟩:=hrel
          cases gk with
          | zero => exact absurd HA.out (by simp [aU.l1])
          | succ k3 =>
           have H:=HA.out;clear HA;simp only [aU.l1] at H
           by_cases XJ : gT < (t228.length : Int)
           ·rw [if_pos XJ] at H
            have JV : decide (gT < (t228.length : Int)) = true:=decide_eq_true XJ;clear XJ
            by_cases c54 : 0≤gT
            ·rw [if_pos c54] at H
             have bGX : decide (0≤gT) = true:=decide_eq_true c54;clear c54
             by_cases c55 : (rd t228 gT) = aI
             ·rw [if_pos c55] at H
              have aYX : ((rd t228 gT) == aI) = true:=beq_iff_eq.mpr c55;have aYW : ((rd t228 gT) != aI) = false:=bne_eq_false_iff_eq.mpr c55;clear c55;simp only [Option.some.injEq,Prod.mk.injEq] at H;obtain ⟨rfl,rfl,rfl⟩:=H;obtain ⟨aBi,ZP,eo56⟩:=Kd.cK wW.out;subst eo56
              try go_wp2
              replace wW:=aA.mk (Kd.bP wW.out);replace pR:=aA.mk (Kd.bP pR.out);replace lQ:=aA.mk (Kd.bP lQ.out);replace cR:=aA.mk (aG cR.out);replace dQ:=aA.mk (aG dQ.out);replace mA:=aA.mk (aG mA.out);replace HB:=aA.mk (eD HB.out);have aHf : 0≤(gT : Int):=of_decide_eq_true mD;have q235 : gT < (t228.length : Int):=of_decide_eq_true mD;obtain ⟨ad235,e235,hx235_0⟩:=Kd.mX (Kd.bQ wW.out).2.2 gT aHf q235
              cases e235
              replace aHf:=eq_true aHf;replace q235:=eq_true q235;refine qD (n:=7) (S:=fun w' => w'.cell? ⟨zA,0,none⟩ = some (.int .i64 aK)∧w'.cell? ⟨zA,1,none⟩ = some (.int .i64 aI)∧w'.cell? ⟨zA,2,none⟩ = some (.slice bI aQ.length bH)∧w'.cell? (ad235.add (gT).toNat) = some (.int .i64 (rd t228 gT))) (ds:=[]) #[false,false,false,false,false,false,false] (by kernel_rfl) rfl rfl ⟨(bB cR.out 0).trans rfl,(bB cR.out 1).trans rfl,(bB cR.out 2).trans rfl,hx235_0⟩ (fun hHeld => ?_);generalize wr.drew = w57 at wW pR lQ cR dQ mA HB hx235_0 hHeld ⊢;refine bZ (i:=0) (N:=some 68) (v:=?_) (a':=?_) (eB 7 1) rfl rfl (by kernel_rfl) (fun _ _ _ h => h) (Or.inl ⟨by rfl,?_⟩) ?_ ?_;rotate_left
              ·intro w'
               go_simp;(with_reducible rfl)
              rotate_left
              ·simp only [Act.put,cT,cS,cU,bF,bG]
               rfl
              refine bZ (i:=1) (N:=some 69) (v:=?_) (a':=?_) (eB 7 3) rfl rfl (by kernel_rfl) (fun _ _ _ h => h) (Or.inl ⟨by rfl,?_⟩) ?_ ?_;rotate_left
              ·intro w'
               go_simp;(with_reducible rfl)
              rotate_left
              ·simp only [Act.put,cT,cS,cU,bF,bG]
               rfl
              refine bZ (i:=2) (N:=some 70) (v:=?_) (a':=?_) (eB 7 7) rfl rfl (by kernel_rfl) (fun _ _ _ h => h) (Or.inl ⟨by rfl,?_⟩) ?_ ?_;rotate_left
              ·intro w'
               go_simp;(with_reducible rfl)
              rotate_left
              ·simp only [Act.put,cT,cS,cU,bF,bG]
               rfl
              refine bZ (i:=4) (N:=some 72) (v:=?_) (a':=?_) (eB 7 23) rfl rfl (by kernel_rfl) (fun _ _ _ h => h) (Or.inl ⟨by rfl,?_⟩) ?_ ?_;rotate_left
              ·intro w'
               go_simp;(with_reducible rfl)
              rotate_left
              ·simp only [Act.put,cT,cS,cU,bF,bG]
               rfl
              refine gN (i:=3) (N:=some 71) (v:=?_) (a':=?_) (eB 7 31) rfl rfl (by kernel_rfl) (fun _ _ _ h => h) (Or.inl ⟨by rfl,?_⟩) hHeld ?_ ?_;rotate_left
              ·rintro w' ⟨s0,s1,s2,s3⟩
               go_simp;(with_reducible rfl)
              rotate_left
              ·simp only [Act.put,cT,cS,cU,bF,bG]
               rfl
              refine gN (i:=5) (N:=some 73) (v:=?_) (a':=?_) (eB 7 63) rfl rfl (by kernel_rfl) (fun _ _ _ h => h) (Or.inl ⟨by rfl,?_⟩) hHeld ?_ ?_;rotate_left
              ·rintro w' ⟨s0,s1,s2,s3⟩
               go_simp;(with_reducible rfl)
              rotate_left
              ·simp only [Act.put,cT,cS,cU,bF,bG]
               rfl
              refine bZ (i:=6) (N:=some 74) (v:=?_) (a':=?_) (eB 7 127) rfl rfl (by kernel_rfl) (fun _ _ _ h => h) (Or.inl ⟨by rfl,?_⟩) ?_ ?_;rotate_left
              ·intro w'
               go_simp;(with_reducible rfl)
              rotate_left
              ·simp only [Act.put,cT,cS,cU,bF,bG]
               rfl
              refine wV (by kernel_rfl) ?_
              try go_wp2
              go_ret3
              exact ⟨_,tZ,IW,fE HB lJ pB aAq⟩
             ·rw [if_neg c55] at H
              have aYX : ((rd t228 gT) == aI) = false:=beq_eq_false_iff_ne.mpr c55;have aYW : ((rd t228 gT) != aI) = true:=bne_iff_ne.mpr c55;replace H:=Option.bind_eq_some_iff.mp H;obtain ⟨t237,bAI,H⟩:=H;replace H : (if 0≤(rd t228 gT) then (if (rd t228 gT) < (OW.length : Int) then (aU.l1 k3 t228 (OW.set ((rd t228 gT) : Int).toNat t237) (wrap64 (gT + 1)) aK aI aQ t223 t224 t225) else (none)) else (none)) = some (r1,r2,r3):=H;have A58:=aA.mk bAI;clear bAI
              by_cases c59 : 0≤(rd t228 gT)
              ·rw [if_pos c59] at H
               have bGW : decide (0≤(rd t228 gT)) = true:=decide_eq_true c59;clear c59
               by_cases c60 : (rd t228 gT) < (OW.length : Int)
               ·rw [if_pos c60] at H
                have aSU : decide ((rd t228 gT) < (OW.length : Int)) = true:=decide_eq_true c60;clear c60;obtain ⟨y238,hy238⟩ : ∃ y_ : List Int,y_ = (OW.set ((rd t228 gT) : Int).toNat t237):=⟨_,rfl⟩
                replace H : (aU.l1 k3 t228 y238 (wrap64 (gT + 1)) aK aI aQ t223 t224 t225) = some (r1,r2,r3):=by first | (rw [hy238];with_reducible exact H) | (have H2_:=(Option.bind_some _ _).symm.trans H;rw [hy238];with_reducible exact H2_) | (have H2_:=(Option.bind_some _ _).symm.trans H;with_reducible exact H2_) | with_reducible exact H | (rw [hy238];exact H) | exact H
                have Ny238:=aA.mk hy238;clear hy238;have H':=aA.mk H;clear H;obtain ⟨RI,NT,eo62⟩:=Kd.cK wW.out;subst eo62
                try go_wp2
                replace wW:=aA.mk (Kd.bP wW.out);replace pR:=aA.mk (Kd.bP pR.out);replace lQ:=aA.mk (Kd.bP lQ.out);replace cR:=aA.mk (aG cR.out);replace dQ:=aA.mk (aG dQ.out);replace mA:=aA.mk (aG mA.out);replace HB:=aA.mk (eD HB.out);have aHf : 0≤(gT : Int):=of_decide_eq_true mD;have q235 : gT < (t228.length : Int):=of_decide_eq_true mD;obtain ⟨ad235,e235,hx235_0⟩:=Kd.mX (Kd.bQ wW.out).2.2 gT aHf q235
                cases e235
                replace aHf:=eq_true aHf;replace q235:=eq_true q235;refine qD (n:=7) (S:=fun w' => w'.cell? ⟨zA,0,none⟩ = some (.int .i64 aK)∧w'.cell? ⟨zA,1,none⟩ = some (.int .i64 aI)∧w'.cell? ⟨zA,2,none⟩ = some (.slice bI aQ.length bH)∧w'.cell? (ad235.add (gT).toNat) = some (.int .i64 (rd t228 gT))) (ds:=[]) #[false,false,false,false,false,false,false] (by kernel_rfl) rfl rfl ⟨(bB cR.out 0).trans rfl,(bB cR.out 1).trans rfl,(bB cR.out 2).trans rfl,hx235_0⟩ (fun hHeld => ?_);generalize wr.drew = w63 at wW pR lQ cR dQ mA HB hx235_0 hHeld ⊢;refine bZ (i:=0) (N:=some 68) (v:=?_) (a':=?_) (eB 7 1) rfl rfl (by kernel_rfl) (fun _ _ _ h => h) (Or.inl ⟨by rfl,?_⟩) ?_ ?_;rotate_left
                ·intro w'
                 go_simp;(with_reducible rfl)
                rotate_left
                ·simp only [Act.put,cT,cS,cU,bF,bG]
                 rfl
                refine bZ (i:=1) (N:=some 69) (v:=?_) (a':=?_) (eB 7 3) rfl rfl (by kernel_rfl) (fun _ _ _ h => h) (Or.inl ⟨by rfl,?_⟩) ?_ ?_;rotate_left
                ·intro w'
                 go_simp;(with_reducible rfl)
                rotate_left
                ·simp only [Act.put,cT,cS,cU,bF,bG]
                 rfl
                refine bZ (i:=2) (N:=some 70) (v:=?_) (a':=?_) (eB 7 7) rfl rfl (by kernel_rfl) (fun _ _ _ h => h) (Or.inl ⟨by rfl,?_⟩) ?_ ?_;rotate_left
                ·intro w'
                 go_simp;(with_reducible rfl)
                rotate_left
                ·simp only [Act.put,cT,cS,cU,bF,bG]
                 rfl
                refine bZ (i:=4) (N:=some 72) (v:=?_) (a':=?_) (eB 7 23) rfl rfl (by kernel_rfl) (fun _ _ _ h => h) (Or.inl ⟨by rfl,?_⟩) ?_ ?_;rotate_left
                ·intro w'
                 go_simp;(with_reducible rfl)
                rotate_left
                ·simp only [Act.put,cT,cS,cU,bF,bG]
                 rfl
                refine gN (i:=3) (N:=some 71) (v:=?_) (a':=?_) (eB 7 31) rfl rfl (by kernel_rfl) (fun _ _ _ h => h) (Or.inl ⟨by rfl,?_⟩) hHeld ?_ ?_;rotate_left
                ·rintro w' ⟨s0,s1,s2,s3⟩
                 go_simp;(with_reducible rfl)
                rotate_left
                ·simp only [Act.put,cT,cS,cU,bF,bG]
                 rfl
                refine gN (i:=5) (N:=some 73) (v:=?_) (a':=?_) (eB 7 63) rfl rfl (by kernel_rfl) (fun _ _ _ h => h) (Or.inl ⟨by rfl,?_⟩) hHeld ?_ ?_;rotate_left
                ·rintro w' ⟨s0,s1,s2,s3⟩
                 go_simp;(with_reducible rfl)
                rotate_left
                ·simp only [Act.put,cT,cS,cU,bF,bG]
                 rfl
                refine bZ (i:=6) (N:=some 74) (v:=?_) (a':=?_) (eB 7 127) rfl rfl (by kernel_rfl) (fun _ _ _ h => h) (Or.inl ⟨by rfl,?_⟩) ?_ ?_;rotate_left
                ·intro w'
                 go_simp;(with_reducible rfl)
                rotate_left
                ·simp only [Act.put,cT,cS,cU,bF,bG]
                 rfl
                refine wV (by kernel_rfl) ?_
                try go_wp2
                replace wW:=aA.mk (Kd.bP wW.out);replace pR:=aA.mk (Kd.bP pR.out);replace lQ:=aA.mk (Kd.bP lQ.out);replace cR:=aA.mk (aG cR.out);replace dQ:=aA.mk (aG dQ.out);replace mA:=aA.mk (aG mA.out);replace HB:=aA.mk (eD HB.out);have aUr : 0≤(gT : Int):=of_decide_eq_true mD;have q236 : gT < (t228.length : Int):=of_decide_eq_true mD;obtain ⟨ad236,e236,hx236_0⟩:=Kd.mX (Kd.bQ wW.out).2.2 gT aUr q236;obtain rfl : ad235 = ad236:=(by injection e236)
                replace aUr:=eq_true aUr;replace q236:=eq_true q236;refine qD (n:=12) (S:=fun w' => w'.cell? ⟨ZG,0,none⟩ = some (.int .i64 t223)∧w'.cell? ⟨ZG,1,none⟩ = some (.int .i64 t224)∧w'.cell? ⟨ZG,2,none⟩ = some (.slice aBj t225.length aBc)∧w'.cell? ⟨zA,0,none⟩ = some (.int .i64 aK)∧w'.cell? ⟨zA,1,none⟩ = some (.int .i64 aI)∧w'.cell? ⟨zA,2,none⟩ = some (.slice bI aQ.length bH)∧w'.cell? (ad235.add (gT).toNat) = some (.int .i64 (rd t228 gT))) (ds:=[11]) #[false,false,false,false,false,false,false,false,false,false,false,false] (by kernel_rfl) rfl rfl ⟨(bB mA.out 0).trans rfl,(bB mA.out 1).trans rfl,(bB mA.out 2).trans rfl,(bB cR.out 0).trans rfl,(bB cR.out 1).trans rfl,(bB cR.out 2).trans rfl,hx236_0⟩ (fun hHeld => ?_);refine jR aU.aEO aU.aAc (fun HT_ HW_ => ?_);generalize w63.drew = w64 at wW pR lQ cR dQ mA HB hx236_0 hHeld ⊢;refine bZ (i:=0) (N:=some 75) (v:=?_) (a':=?_) (eB 12 1) rfl rfl (bM HT_.out (by kernel_rfl)) (fun _ _ _ h => h) (Or.inl ⟨by rfl,?_⟩) ?_ ?_;rotate_left
                ·intro w'
                 go_simp;(with_reducible rfl)
                rotate_left
                ·simp only [Act.put,cT,cS,cU,bF,bG]
                 rfl
                refine bZ (i:=1) (N:=some 76) (v:=?_) (a':=?_) (eB 12 3) rfl rfl (bM HT_.out (by kernel_rfl)) (fun _ _ _ h => h) (Or.inl ⟨by rfl,?_⟩) ?_ ?_;rotate_left
                ·intro w'
                 go_simp;(with_reducible rfl)
                rotate_left
                ·simp only [Act.put,cT,cS,cU,bF,bG]
                 rfl
                refine bZ (i:=2) (N:=some 77) (v:=?_) (a':=?_) (eB 12 7) rfl rfl (bM HT_.out (by kernel_rfl)) (fun _ _ _ h => h) (Or.inl ⟨by rfl,?_⟩) ?_ ?_;rotate_left
                ·intro w'
                 go_simp;(with_reducible rfl)
                rotate_left
                ·simp only [Act.put,cT,cS,cU,bF,bG]
                 rfl
                refine bZ (i:=3) (N:=some 78) (v:=?_) (a':=?_) (eB 12 15) rfl rfl (bM HT_.out (by kernel_rfl)) (fun _ _ _ h => h) (Or.inl ⟨by rfl,?_⟩) ?_ ?_;rotate_left
                ·intro w'
                 go_simp;(with_reducible rfl)
                rotate_left
                ·simp only [Act.put,cT,cS,cU,bF,bG]
                 rfl
                refine bZ (i:=6) (N:=some 81) (v:=?_) (a':=?_) (eB 12 79) rfl rfl (bM HT_.out (by kernel_rfl)) (fun _ _ _ h => h) (Or.inl ⟨by rfl,?_⟩) ?_ ?_;rotate_left
                ·intro w'
                 go_simp;(with_reducible rfl)
                rotate_left
                ·simp only [Act.put,cT,cS,cU,bF,bG]
                 rfl
                refine bZ (i:=7) (N:=some 82) (v:=?_) (a':=?_) (eB 12 207) rfl rfl (bM HT_.out (by kernel_rfl)) (fun _ _ _ h => h) (Or.inl ⟨by rfl,?_⟩) ?_ ?_;rotate_left
                ·intro w'
                 go_simp;(with_reducible rfl)
                rotate_left
                ·simp only [Act.put,cT,cS,cU,bF,bG]
                 rfl
                refine gN (i:=4) (N:=some 79) (v:=?_) (a':=?_) (eB 12 223) rfl rfl (dT HT_.out HW_.out (by kernel_rfl)) (fun _ _ _ h => h) (Or.inl ⟨by rfl,?_⟩) hHeld ?_ ?_;rotate_left
                ·rintro w' ⟨s0,s1,s2,s3,s4,s5,s6⟩
                 go_simp;(with_reducible rfl)
                rotate_left
                ·simp only [Act.put,cT,cS,cU,bF,bG]
                 rfl
                refine gN (i:=5) (N:=some 80) (v:=?_) (a':=?_) (eB 12 255) rfl rfl (dT HT_.out HW_.out (by kernel_rfl)) (fun _ _ _ h => h) (Or.inl ⟨by rfl,?_⟩) hHeld ?_ ?_;rotate_left
                ·rintro w' ⟨s0,s1,s2,s3,s4,s5,s6⟩
                 go_simp;(with_reducible rfl)
                rotate_left
                ·simp only [Act.put,cT,cS,cU,bF,bG]
                 rfl
                refine gN (i:=8) (N:=some 83) (v:=?_) (a':=?_) (eB 12 511) rfl rfl (dT HT_.out HW_.out (by kernel_rfl)) (fun _ _ _ h => h) (Or.inl ⟨by rfl,?_⟩) hHeld ?_ ?_;rotate_left
                ·rintro w' ⟨s0,s1,s2,s3,s4,s5,s6⟩
                 go_simp;(with_reducible rfl)
                rotate_left
                ·simp only [Act.put,cT,cS,cU,bF,bG]
                 rfl
                refine EK (i:=9) (N:=some 84) (eB 12 1023) rfl rfl (jY HT_.out (by kernel_rfl)) (by decide) (fun K hK => ?_);refine DN Try.func25 (by kernel_rfl) rfl #[.agg #[.int .i64 t223,.int .i64 t224,.slice aBj t225.length aBc],.int .i64 gT,.int .i64 aI] (by rfl) rfl rfl lU ?_
                with_reducible refine (cF.calls t223 t224 _ _ t225 gT aI t237 _ ?side1 ?side2 A58.out).mono ?_
                (case side1 => exact nY ((Kd.bQ lQ.out).2.2))
                (case side2 => exact (Kd.bQ lQ.out).2.1);rintro e w65 ⟨rfl,hb⟩;have HS6_:=(hb.cell (World.block_lt_of_cell? _ _ (hHeld.2.2.2.2.2.2))).trans (hHeld.2.2.2.2.2.2);refine ⟨_,rfl,?_⟩;replace wW:=aA.mk (Kd.bV (dB wW.out) hb);replace pR:=aA.mk (Kd.bV (dB pR.out) hb);replace lQ:=aA.mk (Kd.bV (dB lQ.out) hb);replace cR:=aA.mk (aJ (cH cR) hb);replace dQ:=aA.mk (aJ (cH dQ) hb);replace mA:=aA.mk (aJ (cH mA) hb);replace HB:=aA.mk (aN (fE HB lJ pB aAq) hb);(try clear hb);(try clear hb2);(try clear hk);(try clear hi);have p61 : 0≤((rd t228 gT) : Int):=of_decide_eq_true mD;have q61 : ((rd t228 gT) : Int) < ((OW.length : Int) : Int):=of_decide_eq_true mD;obtain ⟨go61,bIS,eo61,aYq,gl61,cl61,HG61⟩:=Kd.GV pR.out (by omega)
                (first | cases eo61 | (injection eo61 with ea_ en_ ec_;(first | subst ea_ | (injection ea_ with ea_;subst ea_));subst ec_;clear en_));have GB61:=aA.mk aYq;have GG61:=aA.mk HG61;clear aYq gl61 HG61;obtain ⟨hx61_0,hf61_0⟩:=Kd.pN 0 pR.out ((rd t228 gT) : Int) p61 q61;replace p61:=eq_true p61;replace q61:=eq_true q61;have HP66:=Kd.OB pR.out ((rd t228 gT) : Int) t237;rw [← Ny238.out] at HP66;have HQ66:=aA.mk HP66;clear HP66;refine hK.out _ _ ⟨(bB mA.out 0).trans rfl,(bB mA.out 1).trans rfl,(bB mA.out 2).trans rfl,(bB cR.out 0).trans rfl,(bB cR.out 1).trans rfl,(bB cR.out 2).trans rfl,HS6_⟩ (fun hHeld => ?_);clear hK K;refine qL (a':=?_) ?_ ?_;rotate_left
                ·show Act.put _ (some 84) _ = _
                 simp only [Act.put,cT,cS,cU,bF,bG];rfl
                refine bZ (i:=10) (N:=some 85) (v:=?_) (a':=?_) (eB 12 2047) rfl rfl (bM HT_.out (by kernel_rfl)) (fun _ _ _ h => h) (Or.inl ⟨by rfl,?_⟩) ?_ ?_;rotate_left
                ·intro w'
                 go_simp;(with_reducible rfl)
                rotate_left
                ·simp only [Act.put,cT,cS,cU,bF,bG]
                 rfl
                refine PX (i:=11) (N:=none) (eB 12 4095) rfl rfl (jY HT_.out (by kernel_rfl)) (by decide) (fun K hK => ?_);refine PG (w1:=?_) (by rfl) rfl ?_ ?_;rotate_left
                ·go_simp
                 rfl
                refine hK.out _ _ ?_;clear hK K;refine wV (oD HT_.out (by kernel_rfl)) ?_
                try go_wp2
                go_roundg k3
                case measure => have:=HJ2.out;have:=zU.out;have:=OF.out;omega
                case rel => exact ⟨(y238),(wrap64 (gT + 1)),mU,H',⟨by have:=HJ2.out;have:=zU.out;have:=OF.out;omega⟩,⟨by (with_reducible repeat first | apply Kd.bX | apply Kd.bW | apply Kd.bP);exact Kd.cC (Kd.cY (p:=⟨go61,((rd t228 gT) : Int).toNat,none⟩) (Kd.dM wW.out GG61.out (by decide)) (fun _ hk => hk.2) (.int .u8 t237)) (fun _ hk => trivial)⟩,⟨dB HQ66.out⟩,⟨by (with_reducible repeat first | apply Kd.bX | apply Kd.bW | apply Kd.bP);exact Kd.cC (Kd.cY (p:=⟨go61,((rd t228 gT) : Int).toNat,none⟩) (Kd.cC lQ.out (fun k_ hk => (⟨hk,fun e_ => hk (by rw [e_];rfl)⟩ : _∧k_≠go61))) (fun _ hk => hk.2) (.int .u8 t237)) (fun _ hk => hk.1)⟩,⟨by (with_reducible repeat first | apply aE | apply aG | apply aD);refine aV ?_ (by have h_:=Kd.iV pR.out cR.out (by decide);intro e_;exact h_ (by rw [e_];rfl)) _;(with_reducible repeat first | apply aE | apply aG | apply aD);exact cR.out⟩,⟨by (with_reducible repeat first | apply aE | apply aG | apply aD);refine aV ?_ (by have h_:=Kd.iV pR.out dQ.out (by decide);intro e_;exact h_ (by rw [e_];rfl)) _;(with_reducible repeat first | apply aE | apply aG | apply aD);exact dQ.out⟩,⟨by (with_reducible repeat first | apply aE | apply aG | apply aD);refine aV ?_ (by have h_:=Kd.iV pR.out mA.out (by decide);intro e_;exact h_ (by rw [e_];rfl)) _;(with_reducible repeat first | apply aE | apply aG | apply aD);exact mA.out⟩,⟨oJ HB GB61 lJ pB aAq⟩⟩
               ·rw [if_neg c60] at H
                exact absurd H (by simp)
              ·rw [if_neg c59] at H
               exact absurd H (by simp)
            ·rw [if_neg c54] at H
             exact absurd H (by simp)
           ·rw [if_neg XJ] at H
            have JV : decide (gT < (t228.length : Int)) = false:=decide_eq_false XJ;clear XJ;simp only [Option.some.injEq,Prod.mk.injEq] at H;obtain ⟨rfl,rfl,rfl⟩:=H;obtain ⟨aOW,aNU,eo67⟩:=Kd.cK wW.out;subst eo67
            go_wp2
            go_ret3
            exact ⟨_,tZ,by (with_reducible repeat first | apply Kd.bX | apply Kd.bW | apply Kd.bP);exact Kd.cC pR.out (fun _ hk => trivial),fE HB lJ pB aAq⟩
        ·rw [if_neg c39] at H
         exact absurd H (by simp)
       ·rw [if_neg c38] at H
        exact absurd H (by simp)
end Go.Proofs.Yteofcbkjhdadpaa.Pr
