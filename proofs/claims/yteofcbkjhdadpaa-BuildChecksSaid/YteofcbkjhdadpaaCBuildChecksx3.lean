import Derived.Test.YteofcbkjhdadpaaCBuildChecksx0
import Derived.Test.YteofcbkjhdadpaaCBuildChecksx2
import Derived.Test.YteofcbkjhdadpaaCBuildChecksq
set_option maxHeartbeats 8000000
set_option maxRecDepth 100000
set_option linter.unusedSimpArgs false
set_option linter.unusedVariables false
namespace Go.Proofs.Yteofcbkjhdadpaa.Pr
open Go.RowKit Go.Proofs.aH.bJ Go.Proofs.aH.eI Go.Proofs.aH.fW
attribute [local go_sem] iN iL kP kO gK gJ iM iK   -- for this text's walks alone
mutual
def cD.j0 : Nat→Int→Bool→Int→Int→List Int→Option (List Int×Int)
 | 0,_,_,_,_,_ => none
 | k + 1,x1,x18,VN,OV,VM => if x18 = true then (some (([] : List Int),2)) else (cD.l0 k x1 ([] : List Int) 0 VN OV VM)
def cD.l0 : Nat→Int→List Int→Int→Int→Int→List Int→Option (List Int×Int)
 | 0,_,_,_,_,_,_ => none
 | k + 1,x1,x6,x7,VN,OV,VM => if x7 < OV then ((cF.f VN OV VM x1 x7).bind fun t184 => (if x6.length < 140737488355328 then (cD.l0 k x1 (x6 ++ [t184]) (wrap64 (x7 + 1)) VN OV VM) else (none))) else (some (x6,0))
end
def cD.f (k : Nat) (aK : Int) (aI : Int) (aQ : List Int) (a1 : Int) : Option (List Int×Int):=(bA.f aK aI aQ).bind fun t183 => (if t183 = true then (if a1 < 0 then (cD.j0 k a1 true aK aI aQ) else (cD.j0 k a1 (decide (a1 ≥ aK)) aK aI aQ)) else (some (([] : List Int),3)))
theorem cD.calls (k : Nat) (aK : Int) (aI : Int) (bI : Option Addr) (bH : Nat) (aQ : List Int) (a1 : Int) (r1 : List Int) (r2 : Int) (w : World) (hr0_2 : Kd.C (Kd.int .u8) w bI aQ.length aQ) (hc0_2 : aQ.length≤bH) (h : cD.f k aK aI aQ a1 = some (r1,r2)) :
  Calls Try.prog 54 #[.agg #[.int .i64 aK,.int .i64 aI,.slice bI aQ.length bH],.int .i64 a1] w fun e w' => ∃ v0_ : Value,e = .returned (.tuple #[v0_,.int .i64 r2])∧Kd.R (Kd.int .u8) 5 w' w.heap.size (fun _ => True) v0_ r1∧Below w.heap.size w w':=by
 have zL:=Try.underlying24;have dY:=aA.mk hr0_2;have eC:=aA.mk hc0_2;clear hr0_2 hc0_2;have HB:=aA.mk (Below.refl w.heap.size w);have H : ((bA.f aK aI aQ).bind fun t183 => (if t183 = true then (if a1 < 0 then (cD.j0 k a1 true aK aI aQ) else (cD.j0 k a1 (decide (a1 ≥ aK)) aK aI aQ)) else (some (([] : List Int),3)))) = some (r1,r2):=h;clear h;replace H:=Option.bind_eq_some_iff.mp H;obtain ⟨t183,A30,H⟩:=H;replace H : (if t183 = true then (if a1 < 0 then (cD.j0 k a1 true aK aI aQ) else (cD.j0 k a1 (decide (a1 ≥ aK)) aK aI aQ)) else (some (([] : List Int),3))) = some (r1,r2):=H;have A3:=aA.mk A30;clear A30
 by_cases c4 : t183 = true
 ·subst c4
  have H1 : (if a1 < 0 then (cD.j0 k a1 true aK aI aQ) else (cD.j0 k a1 (decide (a1 ≥ aK)) aK aI aQ)) = some (r1,r2):=by rw [if_pos rfl] at H;exact H
  clear H;have H:=H1;clear H1;have HC5:=aA.mk H;clear H;go_enter Try.func54,Try.ntmps54;go_upto_region 3 with (first | ((with_reducible refine bK (N:=2) rfl ?_);refine lS (N:=2) (cs:=#[.int .i64 aK,.int .i64 aI,.slice bI aQ.length bH]) (t:=24) ?_;intro ZH hg w6 hbox hb;have gY:=aA.mk (hbox);have bAf:=aA.mk (eP hg (cX HB) : w.heap.size≤ZH);have FL:=aA.mk (eP hg (cX HB) : w.heap.size≤ZH);replace HB:=aA.mk (aN (cX HB) hb);clear hb hbox hg;have jN:=bL gY 0 (.int .i64 aK) rfl;have jM:=bL gY 1 (.int .i64 aI) rfl;have jL:=bL gY 2 (.slice bI aQ.length bH) rfl;have jK:=aC gY.out 0;have jJ:=aC gY.out 1;have jI:=aC gY.out 2) | ((with_reducible refine bE (f:=17) rfl ?_);refine cO (some 9) rfl rfl Try.func17 (by kernel_rfl) rfl #[.agg #[.int .i64 aK,.int .i64 aI,.slice bI aQ.length bH]] rfl lU ?_;(with_reducible refine (bA.calls aK aI _ _ aQ true _ ?side1 ?side2 A3.out).mono ?_);(case side1 => exact nY (Kd.cP dY.out HB.out));(case side2 => exact eC.out);rintro e w8 ⟨rfl,hb⟩;refine ⟨_,rfl,?_⟩;replace gY:=aA.mk (aJ (cH gY) hb);replace HB:=aA.mk (aN (cL HB FL) hb);(try clear hb);(try clear hb2);(try clear hk);(try clear hi)))
  (try simp only [Act.put,cT,cS,cU])
  go_cut [18] (fun v18 wc => ∃ (kq : Nat) (aIc : Bool),v18 = .bool aIc∧aA (cD.j0 kq a1 aIc aK aI aQ = some (r1,r2))∧aA (kq≤k)∧aA (wc.heap[ZH]? = some (.cells #[.int .i64 aK,.int .i64 aI,(.slice bI aQ.length bH)] 24 (0,0)))∧aA (Below w.heap.size w wc))
  case first =>
   have H:=HC5.out;clear HC5
   by_cases c9 : a1 < 0
   ·rw [if_pos c9] at H
    have QV : decide (a1 < 0) = true:=decide_eq_true c9;clear c9
    (first | rw [QV] | (simp only [bF,bG];rw [QV]) | rw [aRs] | skip);have H':=aA.mk H;clear H
    go_wp2
    go_meet
    case rel => exact ⟨_,(true),mU,H',⟨q_o⟩,⟨gP gY.out⟩,⟨cL HB FL⟩⟩
   ·rw [if_neg c9] at H
    have QV : decide (a1 < 0) = false:=decide_eq_false c9;clear c9
    (first | rw [QV] | (simp only [bF,bG];rw [QV]) | rw [aRs] | skip);have H':=aA.mk H;clear H;have nO:=bL gY 0 (.int .i64 aK) rfl;have nN:=bL gY 1 (.int .i64 aI) rfl;have nM:=bL gY 2 (.slice bI aQ.length bH) rfl;have nL:=aC gY.out 0;have nK:=aC gY.out 1;have nJ:=aC gY.out 2
    go_wp2
    go_meet
    case rel => exact ⟨_,(decide (a1 ≥ aK)),mU,H',⟨q_o⟩,⟨gP gY.out⟩,⟨cL HB FL⟩⟩
  case rest =>
   clear HC5;(try clear c1);(try clear p2);(try clear c4);(try clear c5);(try clear c9);(try clear QV);(try clear aRs);(try clear nO);(try clear nN);(try clear nM);(try clear jN);(try clear jM);(try clear jL);(try clear nL);(try clear nK);(try clear nJ);(try clear jK);(try clear jJ);(try clear jI);obtain ⟨kq,aIc,rfl,HA,HJ4,gY,HB⟩:=hcut
   cases kq with
   | zero => exact absurd HA.out (by simp [cD.j0])
   | succ kj4 =>
    have H:=HA.out;clear HA;simp only [cD.j0] at H
    by_cases DR : aIc = true
    ·subst DR
     have H1 : (some (([] : List Int),2)) = some (r1,r2):=by rw [if_pos rfl] at H;exact H
     clear H;have H:=H1;clear H1;simp only [Option.some.injEq,Prod.mk.injEq] at H;obtain ⟨rfl,rfl⟩:=H
     go_wp2
     go_ret2
     exact ⟨_,tZ,IW,cL HB FL⟩
    ·replace DR:=Bool.eq_false_iff.mpr DR
     subst DR;have H1 : (cD.l0 kj4 a1 ([] : List Int) 0 aK aI aQ) = some (r1,r2):=by rw [if_neg (show ¬ (false = true) by decide)] at H;exact H
     clear H;have H:=H1;clear H1;have H':=aA.mk H;clear H
     go_wp2
     go_loopg [6,7] kj4 (fun kq v6 v7 w' => ∃ (EE : List Int) (iG : Int),v7 = .int .i64 iG∧aA (cD.l0 kq a1 EE iG aK aI aQ = some (r1,r2))∧aA (kq≤kj4)∧aA (Kd.R (Kd.int .u8) 5 w' w.heap.size (fun _ => True) v6 EE)∧aA (w'.heap[ZH]? = some (.cells #[.int .i64 aK,.int .i64 aI,(.slice bI aQ.length bH)] 24 (0,0)))∧aA (Below w.heap.size w w'))
     case atStart => exact ⟨(([] : List Int)),(0),mU,H',⟨Nat.le_refl _⟩,⟨IW⟩,⟨gP gY.out⟩,⟨cL HB FL⟩⟩
     case round =>
      clear H';(try clear c1);(try clear p2);(try clear c4);(try clear c5);(try clear c9);(try clear QV);(try clear aRs);(try clear DR);(try clear nO);(try clear nN);(try clear nM);(try clear jN);(try clear jM);(try clear jL);(try clear nL);(try clear nK);(try clear nJ);(try clear jK);(try clear jJ);(try clear jI);(try clear p2);obtain ⟨EE,iG,rfl,HA,zU,aLR,gY,HB⟩:=hrel
      cases gk with
      | zero => exact absurd HA.out (by simp [cD.l0])
      | succ k2 =>
       have H:=HA.out;clear HA;simp only [cD.l0] at H
       by_cases yR : iG < aI
       ·rw [if_pos yR] at H
        have UI : decide (iG < aI) = true:=decide_eq_true yR;clear yR;replace H:=Option.bind_eq_some_iff.mp H;obtain ⟨t184,aPi,H⟩:=H;replace H : (if EE.length < 140737488355328 then (cD.l0 k2 a1 (EE ++ [t184]) (wrap64 (iG + 1)) aK aI aQ) else (none)) = some (r1,r2):=H;have A13:=aA.mk aPi;clear aPi
        by_cases ZX : EE.length < 140737488355328
        ·rw [if_pos ZX] at H
         have LMc14:=aA.mk ZX;clear ZX;obtain ⟨y185,hy185⟩ : ∃ y_ : List Int,y_ = (EE ++ [t184]):=⟨_,rfl⟩
         replace H : (cD.l0 k2 a1 y185 (wrap64 (iG + 1)) aK aI aQ) = some (r1,r2):=by first | (rw [hy185];with_reducible exact H) | (have H2_:=(Option.bind_some _ _).symm.trans H;rw [hy185];with_reducible exact H2_) | (have H2_:=(Option.bind_some _ _).symm.trans H;with_reducible exact H2_) | with_reducible exact H | (rw [hy185];exact H) | exact H
         have Ny185:=aA.mk hy185;clear hy185;have H':=aA.mk H;clear H;have vY:=bL gY 0 (.int .i64 aK) rfl;have vX:=bL gY 1 (.int .i64 aI) rfl;have vW:=bL gY 2 (.slice bI aQ.length bH) rfl;have vP:=aC gY.out 0;have vO:=aC gY.out 1;have vN:=aC gY.out 2;go_wp2_with (first | ((with_reducible refine bE (f:=25) rfl ?_);refine cO (some 29) rfl rfl Try.func25 (by kernel_rfl) rfl #[.agg #[.int .i64 aK,.int .i64 aI,.slice bI aQ.length bH],.int .i64 a1,.int .i64 iG] rfl lU ?_;(with_reducible refine (cF.calls aK aI _ _ aQ a1 iG t184 _ ?side1 ?side2 A13.out).mono ?_);(case side1 => exact nY (Kd.cP dY.out HB.out));(case side2 => exact eC.out);rintro e w16 ⟨rfl,hb⟩;refine ⟨_,rfl,?_⟩;replace aLR:=aA.mk (Kd.bV (dB aLR.out) hb);replace gY:=aA.mk (aJ (cH gY) hb);replace HB:=aA.mk (aN (cL HB FL) hb);(try clear hb);(try clear hb2);(try clear hk);(try clear hi)) | ((with_reducible refine rY (b:=.append) (xs:=#[.tmp 25,.tmp 30]) rfl ?_);at_builtin;refine Kd.aAm (Kd.int .u8) (w0:=w) w.heap.size rfl (.tmp 25) (.tmp 30) 22 5 (.int .u8 0) 1 rfl Try.underlying22 wT rfl (by decide) (by omega) u6 EE t184 [.int .u8 t184] (fun _ => True) (fun _ => False) rfl rfl ?aP (fun _ hk => hk.elim) ?aF ?aO ?aB ?aS ?aL ?_;(case aP => exact rfl);(case aB => exact (cL HB FL));(case aF => exact (fun _ _ => trivial));(case aO => exact (dB aLR.out));(case aS => exact (bR (cL HB FL)));(case aL => have:=LMc14.out;omega);intro bIu w17 ho hb hg hat;rw [← Ny185.out] at ho;have vG:=aA.mk (dG (cH gY) hg (Kd.iV aLR.out gY.out (by decide)));have vF:=aA.mk (hb);have JD:=aA.mk (ho);clear gY HB aLR;have gY:=vG;have HB:=vF;have aZJ:=JD;clear vG vF JD;clear ho hb hg hat))
         go_roundg k2
         case measure => have:=HJ4.out;have:=zU.out;omega
         case rel => exact ⟨(y185),(wrap64 (iG + 1)),mU,H',⟨by have:=HJ4.out;have:=zU.out;omega⟩,⟨dB aZJ.out⟩,⟨gP gY.out⟩,⟨cL HB FL⟩⟩
        ·rw [if_neg ZX] at H
         exact absurd H (by simp)
       ·rw [if_neg yR] at H
        have UI : decide (iG < aI) = false:=decide_eq_false yR;clear yR;simp only [Option.some.injEq,Prod.mk.injEq] at H;obtain ⟨rfl,rfl⟩:=H;have yP:=bL gY 0 (.int .i64 aK) rfl;have yO:=bL gY 1 (.int .i64 aI) rfl;have yN:=bL gY 2 (.slice bI aQ.length bH) rfl;have yG:=aC gY.out 0;have yF:=aC gY.out 1;have yE:=aC gY.out 2
        go_wp2
        go_ret2
        exact ⟨_,tZ,dB aLR.out,cL HB FL⟩
 ·replace c4:=Bool.eq_false_iff.mpr c4
  subst c4;have H1 : (some (([] : List Int),3)) = some (r1,r2):=by rw [if_neg (show ¬ (false = true) by decide)] at H;exact H
  clear H;have H:=H1;clear H1;simp only [Option.some.injEq,Prod.mk.injEq] at H;obtain ⟨rfl,rfl⟩:=H;go_enter Try.func54,Try.ntmps54;go_wp2_with (first | ((with_reducible refine bK (N:=2) rfl ?_);refine lS (N:=2) (cs:=#[.int .i64 aK,.int .i64 aI,.slice bI aQ.length bH]) (t:=24) ?_;intro ZH hg w19 hbox hb;have gY:=aA.mk (hbox);have bAf:=aA.mk (eP hg (cX HB) : w.heap.size≤ZH);have FL:=aA.mk (eP hg (cX HB) : w.heap.size≤ZH);replace HB:=aA.mk (aN (cX HB) hb);clear hb hbox hg;have tS:=bL gY 0 (.int .i64 aK) rfl;have tR:=bL gY 1 (.int .i64 aI) rfl;have tQ:=bL gY 2 (.slice bI aQ.length bH) rfl;have tM:=aC gY.out 0;have tL:=aC gY.out 1;have tK:=aC gY.out 2) | ((with_reducible refine bE (f:=17) rfl ?_);refine cO (some 9) rfl rfl Try.func17 (by kernel_rfl) rfl #[.agg #[.int .i64 aK,.int .i64 aI,.slice bI aQ.length bH]] rfl lU ?_;(with_reducible refine (bA.calls aK aI _ _ aQ false _ ?side1 ?side2 A3.out).mono ?_);(case side1 => exact nY (Kd.cP dY.out HB.out));(case side2 => exact eC.out);rintro e w21 ⟨rfl,hb⟩;refine ⟨_,rfl,?_⟩;replace gY:=aA.mk (aJ (cH gY) hb);replace HB:=aA.mk (aN (cL HB FL) hb);(try clear hb);(try clear hb2);(try clear hk);(try clear hi)))
  go_ret2
  exact ⟨_,tZ,IW,cL HB FL⟩
end Go.Proofs.Yteofcbkjhdadpaa.Pr
