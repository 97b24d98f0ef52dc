import Derived.Test.YteofcbkjhdadpaaCBuildChecksx0
import Derived.Test.YteofcbkjhdadpaaCBuildChecksx2
import Derived.Test.YteofcbkjhdadpaaCBuildChecksx8
import Derived.Test.YteofcbkjhdadpaaCBuildChecksx16
import Derived.Test.YteofcbkjhdadpaaCBuildChecksx19
import Derived.Test.YteofcbkjhdadpaaCBuildChecksq
set_option maxHeartbeats 8000000
set_option maxRecDepth 100000
set_option linter.unusedSimpArgs false
set_option linter.unusedVariables false
namespace Go.Proofs.Yteofcbkjhdadpaa.Pr
open Go.RowKit Go.Proofs.aH.bJ Go.Proofs.aH.eI Go.Proofs.aH.fW
attribute [local go_sem] iN iL kP kO gK gJ iM iK   -- for this text's walks alone
def cN.j0 : Nat→Bool→Int→Int→List Int→Option (Int×Int×List Int×Int)
 | 0,_,_,_,_ => none
 | k + 1,x17,aHP,aCo,aHO => if x17 = true then (some (0,0,([] : List Int),3)) else ((dZ.f aHP aCo aHO).bind fun aFV => (if aFV.1 < aCo then (some (0,0,([] : List Int),6)) else ((aW.f k aHP aCo aHO).bind fun BX => ((aY.f k BX.1 BX.2.1 BX.2.2.1).bind fun qP => (some (qP.1,qP.2.1,qP.2.2.1,qP.2.2.2))))))
def cN.f (k : Nat) (aK : Int) (aI : Int) (aQ : List Int) : Option (Int×Int×List Int×Int):=(bA.f aK aI aQ).bind fun aKl => (if aKl = true then (cN.j0 k (decide (aK < aI)) aK aI aQ) else (cN.j0 k true aK aI aQ))
theorem cN.calls (k : Nat) (aK : Int) (aI : Int) (bI : Option Addr) (bH : Nat) (aQ : List Int) (r1 : Int) (r2 : Int) (r3 : List Int) (r4 : Int) (w : World) (hr0_2 : Kd.C (Kd.int .u8) w bI aQ.length aQ) (hc0_2 : aQ.length≤bH) (h : cN.f k aK aI aQ = some (r1,r2,r3,r4)) :
  Calls Try.prog 28 #[.agg #[.int .i64 aK,.int .i64 aI,.slice bI aQ.length bH]] w fun e w' => ∃ uT : Value,e = .returned (.tuple #[.agg #[.int .i64 r1,.int .i64 r2,uT],.int .i64 r4])∧Kd.R (Kd.int .u8) 5 w' w.heap.size (fun _ => True) uT r3∧Below w.heap.size w w':=by
 have zL:=Try.underlying24;have dY:=aA.mk hr0_2;have eC:=aA.mk hc0_2;clear hr0_2 hc0_2;have HB:=aA.mk (Below.refl w.heap.size w);have H : ((bA.f aK aI aQ).bind fun aKl => (if aKl = true then (cN.j0 k (decide (aK < aI)) aK aI aQ) else (cN.j0 k true aK aI aQ))) = some (r1,r2,r3,r4):=h;clear h;have HC2:=aA.mk H;clear H;go_enter Try.func28,Try.ntmps28;go_upto_region 1 with (first | ((with_reducible refine bK (N:=1) rfl ?_);refine lS (N:=1) (cs:=#[.int .i64 aK,.int .i64 aI,.slice bI aQ.length bH]) (t:=24) ?_;intro aJi hg w3 hbox hb;have eU:=aA.mk (hbox);have bHr:=aA.mk (eP hg (cX HB) : w.heap.size≤aJi);have wN:=aA.mk (eP hg (cX HB) : w.heap.size≤aJi);replace HB:=aA.mk (aN (cX HB) hb);clear hb hbox hg) | ((with_reducible refine bK (N:=2) rfl ?_);refine lS (N:=2) (cs:=#[.int .i64 0,.int .i64 0,.slice none 0 0]) (t:=24) ?_;intro ML hg w4 hbox hb;have jA:=aA.mk (hbox);have bHq:=aA.mk (eP hg (cL HB wN) : w.heap.size≤ML);have zV:=aA.mk (eP hg (cL HB wN) : w.heap.size≤ML);replace HB:=aA.mk (aN (cL HB wN) hb);have EW:=aA.mk (sU hg (cH eU));have EV:=aA.mk (sV hg (cH eU));replace eU:=aA.mk (aJ (cH eU) hb);clear hb hbox hg))
 (try simp only [Act.put,cT,cS,cU])
 go_cut [17] (fun v17 wc => ∃ (kq : Nat) (aId : Bool),v17 = .bool aId∧aA (cN.j0 kq aId aK aI aQ = some (r1,r2,r3,r4))∧aA (kq≤k)∧aA (wc.heap[aJi]? = some (.cells #[.int .i64 aK,.int .i64 aI,(.slice bI aQ.length bH)] 24 (0,0)))∧aA (wc.heap[ML]? = some (.cells #[.int .i64 0,.int .i64 0,(.slice none 0 0)] 24 (0,0)))∧aA (Below w.heap.size w wc))
 case first =>
  have H:=HC2.out;clear HC2;replace H:=Option.bind_eq_some_iff.mp H;obtain ⟨aKl,A50,H⟩:=H;replace H : (if aKl = true then (cN.j0 k (decide (aK < aI)) aK aI aQ) else (cN.j0 k true aK aI aQ)) = some (r1,r2,r3,r4):=H;have A5:=aA.mk A50;clear A50
  by_cases c6 : aKl = true
  ·subst c6
   have H1 : (cN.j0 k (decide (aK < aI)) aK aI aQ) = some (r1,r2,r3,r4):=by rw [if_pos rfl] at H;exact H
   clear H;have H:=H1;clear H1;have H':=aA.mk H;clear H;have aXh:=EW.out;have aWC:=EV.out;have NP:=bL eU 0 (.int .i64 aK) rfl;have NO:=bL eU 1 (.int .i64 aI) rfl;have NN:=bL eU 2 (.slice bI aQ.length bH) rfl;have NM:=aC eU.out 0;have NL:=aC eU.out 1;have NK:=aC eU.out 2;go_wp2_with (first | ((with_reducible refine bE (f:=17) rfl ?_);refine cO (some 9) rfl rfl Try.func17 (by kernel_rfl) rfl #[.agg #[.int .i64 aK,.int .i64 aI,.slice bI aQ.length bH]] rfl lU ?_;(with_reducible refine (bA.calls aK aI _ _ aQ true _ ?side1 ?side2 A5.out).mono ?_);(case side1 => exact nY (Kd.cP dY.out HB.out));(case side2 => exact eC.out);rintro e w9 ⟨rfl,hb⟩;refine ⟨_,rfl,?_⟩;replace eU:=aA.mk (aJ (cH eU) hb);replace jA:=aA.mk (aJ (cH jA) hb);replace HB:=aA.mk (aN (dA HB wN zV) hb);(try clear hb);(try clear hb2);(try clear hk);(try clear hi);have nO:=bL eU 0 (.int .i64 aK) rfl;have nN:=bL eU 1 (.int .i64 aI) rfl;have nM:=bL eU 2 (.slice bI aQ.length bH) rfl;have nL:=aC eU.out 0;have nK:=aC eU.out 1;have nJ:=aC eU.out 2))
   go_meet
   case rel => exact ⟨_,(decide (aK < aI)),mU,H',⟨q_o⟩,⟨gP eU.out⟩,⟨gP jA.out⟩,⟨dA HB wN zV⟩⟩
  ·replace c6:=Bool.eq_false_iff.mpr c6
   subst c6;have H1 : (cN.j0 k true aK aI aQ) = some (r1,r2,r3,r4):=by rw [if_neg (show ¬ (false = true) by decide)] at H;exact H
   clear H;have H:=H1;clear H1;have H':=aA.mk H;clear H;have aFy:=EW.out;have aFv:=EV.out;have wB:=bL eU 0 (.int .i64 aK) rfl;have wA:=bL eU 1 (.int .i64 aI) rfl;have vZ:=bL eU 2 (.slice bI aQ.length bH) rfl;have vS:=aC eU.out 0;have vR:=aC eU.out 1;have vQ:=aC eU.out 2;go_wp2_with (first | ((with_reducible refine bE (f:=17) rfl ?_);refine cO (some 9) rfl rfl Try.func17 (by kernel_rfl) rfl #[.agg #[.int .i64 aK,.int .i64 aI,.slice bI aQ.length bH]] rfl lU ?_;(with_reducible refine (bA.calls aK aI _ _ aQ false _ ?side1 ?side2 A5.out).mono ?_);(case side1 => exact nY (Kd.cP dY.out HB.out));(case side2 => exact eC.out);rintro e w13 ⟨rfl,hb⟩;refine ⟨_,rfl,?_⟩;replace eU:=aA.mk (aJ (cH eU) hb);replace jA:=aA.mk (aJ (cH jA) hb);replace HB:=aA.mk (aN (dA HB wN zV) hb);(try clear hb);(try clear hb2);(try clear hk);(try clear hi)))
   go_meet
   case rel => exact ⟨_,(true),mU,H',⟨q_o⟩,⟨gP eU.out⟩,⟨gP jA.out⟩,⟨dA HB wN zV⟩⟩
 case rest =>
  clear HC2;(try clear c1);(try clear c2);(try clear p2);(try clear c6);(try clear c7);(try clear DR);(try clear nO);(try clear nN);(try clear nM);(try clear wB);(try clear wA);(try clear vZ);(try clear NP);(try clear NO);(try clear NN);(try clear nL);(try clear nK);(try clear nJ);(try clear vS);(try clear vR);(try clear vQ);(try clear NM);(try clear NL);(try clear NK);obtain ⟨kq,aId,rfl,HA,HJ1,eU,jA,HB⟩:=hcut
  cases kq with
  | zero => exact absurd HA.out (by simp [cN.j0])
  | succ kj1 =>
   have H:=HA.out;clear HA;simp only [cN.j0] at H
   by_cases ZX : aId = true
   ·subst ZX
    have H1 : (some (0,0,([] : List Int),3)) = some (r1,r2,r3,r4):=by rw [if_pos rfl] at H;exact H
    clear H;have H:=H1;clear H1;simp only [Option.some.injEq,Prod.mk.injEq] at H;obtain ⟨rfl,rfl,rfl,rfl⟩:=H;have aNs:=EV.out;have aNn:=EW.out;have DL:=bL jA 0 (.int .i64 0) rfl;have DK:=bL jA 1 (.int .i64 0) rfl;have DJ:=bL jA 2 (.slice none 0 0) rfl;have DE:=aC jA.out 0;have DD:=aC jA.out 1;have DC:=aC jA.out 2
    go_wp2
    refine bodyPost_ret (dU rfl _ _ ML 24 #[.int .i64 0,.int .i64 0,.slice none 0 0] (0,0) _ rfl (by (with_reducible repeat first | apply aE | apply aG | apply aD);refine aZ (cs:=#[.int .i64 0,.int .i64 0,.slice none 0 0]) ?_ 2 _ rfl;(with_reducible repeat first | apply aE | apply aG | apply aD);refine aZ (cs:=#[.int .i64 0,.int .i64 0,.slice none 0 0]) ?_ 1 _ rfl;(with_reducible repeat first | apply aE | apply aG | apply aD);refine aZ (cs:=#[.int .i64 0,.int .i64 0,.slice none 0 0]) ?_ 0 _ rfl;(with_reducible repeat first | apply aE | apply aG | apply aD);exact jA.out) Try.underlying24 rfl (by kernel_rfl)) rfl ?_;exact ⟨_,tZ,IW,dA HB wN zV⟩
   ·replace ZX:=Bool.eq_false_iff.mpr ZX
    subst ZX;have H1 : ((dZ.f aK aI aQ).bind fun aFV => (if aFV.1 < aI then (some (0,0,([] : List Int),6)) else ((aW.f kj1 aK aI aQ).bind fun BX => ((aY.f kj1 BX.1 BX.2.1 BX.2.2.1).bind fun qP => (some (qP.1,qP.2.1,qP.2.2.1,qP.2.2.2)))))) = some (r1,r2,r3,r4):=by rw [if_neg (show ¬ (false = true) by decide)] at H;exact H
    clear H;have H:=H1;clear H1;replace H:=Option.bind_eq_some_iff.mp H;obtain ⟨⟨aKk,aVW⟩,aPh,H⟩:=H;replace H : (if aKk < aI then (some (0,0,([] : List Int),6)) else ((aW.f kj1 aK aI aQ).bind fun BX => ((aY.f kj1 BX.1 BX.2.1 BX.2.2.1).bind fun qP => (some (qP.1,qP.2.1,qP.2.2.1,qP.2.2.2))))) = some (r1,r2,r3,r4):=H;have A17:=aA.mk aPh;clear aPh
    by_cases OE : aKk < aI
    ·rw [if_pos OE] at H
     have aFQ : decide (aKk < aI) = true:=decide_eq_true OE;clear OE;simp only [Option.some.injEq,Prod.mk.injEq] at H;obtain ⟨rfl,rfl,rfl,rfl⟩:=H;have aXA:=EW.out;have aWV:=EV.out;have tS:=bL eU 0 (.int .i64 aK) rfl;have tR:=bL eU 1 (.int .i64 aI) rfl;have tQ:=bL eU 2 (.slice bI aQ.length bH) rfl;have tM:=aC eU.out 0;have tL:=aC eU.out 1;have tK:=aC eU.out 2;go_wp2_with (first | ((with_reducible refine bE (f:=26) rfl ?_);refine cO (some 21) rfl rfl Try.func26 (by kernel_rfl) rfl #[.agg #[.int .i64 aK,.int .i64 aI,.slice bI aQ.length bH]] rfl lU ?_;(with_reducible refine (dZ.calls aK aI _ _ aQ aKk aVW _ ?side1 ?side2 A17.out).mono ?_);(case side1 => exact nY (Kd.cP dY.out HB.out));(case side2 => exact eC.out);rintro e w21 ⟨rfl,hb⟩;refine ⟨_,rfl,?_⟩;replace eU:=aA.mk (aJ (cH eU) hb);replace jA:=aA.mk (aJ (cH jA) hb);replace HB:=aA.mk (aN (dA HB wN zV) hb);(try clear hb);(try clear hb2);(try clear hk);(try clear hi);have DI:=bL eU 0 (.int .i64 aK) rfl;have DH:=bL eU 1 (.int .i64 aI) rfl;have DG:=bL eU 2 (.slice bI aQ.length bH) rfl;have DB:=aC eU.out 0;have DA:=aC eU.out 1;have CZ:=aC eU.out 2;have LK:=bL jA 0 (.int .i64 0) rfl;have LJ:=bL jA 1 (.int .i64 0) rfl;have LI:=bL jA 2 (.slice none 0 0) rfl;have LH:=aC jA.out 0;have LG:=aC jA.out 1;have LF:=aC jA.out 2))
     refine bodyPost_ret (dU rfl _ _ ML 24 #[.int .i64 0,.int .i64 0,.slice none 0 0] (0,0) _ rfl (by (with_reducible repeat first | apply aE | apply aG | apply aD);refine aZ (cs:=#[.int .i64 0,.int .i64 0,.slice none 0 0]) ?_ 2 _ rfl;(with_reducible repeat first | apply aE | apply aG | apply aD);refine aZ (cs:=#[.int .i64 0,.int .i64 0,.slice none 0 0]) ?_ 1 _ rfl;(with_reducible repeat first | apply aE | apply aG | apply aD);refine aZ (cs:=#[.int .i64 0,.int .i64 0,.slice none 0 0]) ?_ 0 _ rfl;(with_reducible repeat first | apply aE | apply aG | apply aD);exact jA.out) Try.underlying24 rfl (by kernel_rfl)) rfl ?_;exact ⟨_,tZ,IW,dA HB wN zV⟩
    ·rw [if_neg OE] at H
     have aFQ : decide (aKk < aI) = false:=decide_eq_false OE;clear OE;replace H:=Option.bind_eq_some_iff.mp H;obtain ⟨⟨aAF,aCB,aCA,bEA⟩,bAP,H⟩:=H;replace H : ((aY.f kj1 aAF aCB aCA).bind fun qP => (some (qP.1,qP.2.1,qP.2.2.1,qP.2.2.2))) = some (r1,r2,r3,r4):=H;have A24:=aA.mk bAP;clear bAP;replace H:=Option.bind_eq_some_iff.mp H;obtain ⟨⟨aKj,aMk,aPE,aVV⟩,bAO,H⟩:=H;replace H : (some (aKj,aMk,aPE,aVV)) = some (r1,r2,r3,r4):=H;have A25:=aA.mk bAO;clear bAO;simp only [Option.some.injEq,Prod.mk.injEq] at H;obtain ⟨rfl,rfl,rfl,rfl⟩:=H;have aSH:=EW.out;have aSp:=EV.out;have aJe:=bL eU 0 (.int .i64 aK) rfl;have aJd:=bL eU 1 (.int .i64 aI) rfl;have aJc:=bL eU 2 (.slice bI aQ.length bH) rfl;have aIM:=aC eU.out 0;have aIL:=aC eU.out 1;have aIK:=aC eU.out 2;go_wp2_with (first | ((with_reducible refine bE (f:=26) rfl ?_);refine cO (some 21) rfl rfl Try.func26 (by kernel_rfl) rfl #[.agg #[.int .i64 aK,.int .i64 aI,.slice bI aQ.length bH]] rfl lU ?_;(with_reducible refine (dZ.calls aK aI _ _ aQ aKk aVW _ ?side1 ?side2 A17.out).mono ?_);(case side1 => exact nY (Kd.cP dY.out HB.out));(case side2 => exact eC.out);rintro e w28 ⟨rfl,hb⟩;refine ⟨_,rfl,?_⟩;replace eU:=aA.mk (aJ (cH eU) hb);replace jA:=aA.mk (aJ (cH jA) hb);replace HB:=aA.mk (aN (dA HB wN zV) hb);(try clear hb);(try clear hb2);(try clear hk);(try clear hi);have GN:=bL eU 0 (.int .i64 aK) rfl;have GM:=bL eU 1 (.int .i64 aI) rfl;have GL:=bL eU 2 (.slice bI aQ.length bH) rfl;have GH:=aC eU.out 0;have GG:=aC eU.out 1;have GF:=aC eU.out 2) | ((with_reducible refine bE (f:=19) rfl ?_);refine cO (some 31) rfl rfl Try.func19 (by kernel_rfl) rfl #[.agg #[.int .i64 aK,.int .i64 aI,.slice bI aQ.length bH]] rfl lU ?_;(with_reducible refine (aW.calls kj1 aK aI _ _ aQ aAF aCB aCA bEA _ ?side1 ?side2 A24.out).mono ?_);(case side1 => exact nY (Kd.cP dY.out HB.out));(case side2 => exact eC.out);rintro e w30 ⟨bIf,rfl,ho0,hb⟩;refine ⟨_,rfl,?_⟩;have UO:=aA.mk (Kd.dI ho0 (bR (dA HB wN zV)));replace eU:=aA.mk (aJ (cH eU) hb);replace jA:=aA.mk (aJ (cH jA) hb);replace HB:=aA.mk (aN (dA HB wN zV) hb);(try clear hb);(try clear hb2);(try clear hk);(try clear hi);(try clear ho0)) | ((with_reducible refine bK (N:=6) rfl ?_);refine lS (N:=6) (cs:=#[.int .i64 0,.int .i64 0,.slice none 0 0]) (t:=24) ?_;intro aNF hg w31 hbox hb;replace UO:=aA.mk (Kd.bV (dB UO.out) hb);have KI:=aA.mk (hbox);have bHp:=aA.mk (eP hg (dA HB wN zV) : w.heap.size≤aNF);have aOP:=aA.mk (eP hg (dA HB wN zV) : w.heap.size≤aNF);replace HB:=aA.mk (aN (dA HB wN zV) hb);have LR:=aA.mk (sU hg (cH eU));have aLM:=aA.mk (sV hg (cH eU));replace eU:=aA.mk (aJ (cH eU) hb);have LQ:=aA.mk (sU hg (cH jA));have aLL:=aA.mk (sV hg (cH jA));replace jA:=aA.mk (aJ (cH jA) hb);clear hb hbox hg;have aNq:=aLM.out;have aNl:=LR.out;have aFw:=aLL.out;have aFt:=LQ.out;have yM:=bL KI 0 (.int .i64 0) rfl;have yL:=bL KI 1 (.int .i64 0) rfl;have yK:=bL KI 2 (.slice none 0 0) rfl;have yD:=aC KI.out 0;have yC:=aC KI.out 1;have yB:=aC KI.out 2;obtain ⟨aAv,zM,eo35⟩:=Kd.cK UO.out;subst eo35) | ((with_reducible refine bE (f:=60) rfl ?_);refine cO (some 35) rfl rfl Try.func60 (by kernel_rfl) rfl #[.agg #[.int .i64 aAF,.int .i64 aCB,.slice aAv aCA.length zM]] rfl lU ?_;(with_reducible refine (aY.calls kj1 aAF aCB _ _ aCA aKj aMk aPE aVV _ ?side1 ?side2 A25.out).mono ?_);(case side1 => refine (Kd.bQ (e:=5) (base:=w.heap.size) (ok:=fun k_ => True) (n:=aCA.length) (c:=zM) ?_).2.2;exact (dB (tH UO.out KI.out (.int .i64 aAF) (.int .i64 aCB) (.slice aAv aCA.length zM))));(case side2 => exact (Kd.bQ UO.out).2.1);rintro e w36 ⟨bIe,rfl,ho0,hb⟩;refine ⟨_,rfl,?_⟩;have aTo:=aA.mk (Kd.dI (Kd.eM ho0 (Kd.jD (dB (tH UO.out KI.out (.int .i64 aAF) (.int .i64 aCB) (.slice aAv aCA.length zM))))) (bR (fE HB wN zV aOP)));replace UO:=aA.mk (Kd.cZ (dB (tH UO.out KI.out (.int .i64 aAF) (.int .i64 aCB) (.slice aAv aCA.length zM))) (Kd.eK ho0) hb);replace eU:=aA.mk (aJ (g:=aJi) (o:=.cells #[.int .i64 aK,.int .i64 aI,.slice bI aQ.length bH] 24 (0,0)) (by (with_reducible repeat first | apply aE | apply aG | apply aD);refine aV ?_ LR.out _;(with_reducible repeat first | apply aE | apply aG | apply aD);refine aV ?_ LR.out _;(with_reducible repeat first | apply aE | apply aG | apply aD);refine aV ?_ LR.out _;(with_reducible repeat first | apply aE | apply aG | apply aD);exact eU.out) hb);replace jA:=aA.mk (aJ (g:=ML) (o:=.cells #[.int .i64 0,.int .i64 0,.slice none 0 0] 24 (0,0)) (by (with_reducible repeat first | apply aE | apply aG | apply aD);refine aV ?_ LQ.out _;(with_reducible repeat first | apply aE | apply aG | apply aD);refine aV ?_ LQ.out _;(with_reducible repeat first | apply aE | apply aG | apply aD);refine aV ?_ LQ.out _;(with_reducible repeat first | apply aE | apply aG | apply aD);exact jA.out) hb);replace KI:=aA.mk (aJ (g:=aNF) (o:=.cells #[.int .i64 aAF,.int .i64 aCB,.slice aAv aCA.length zM] 24 (0,0)) (by (with_reducible repeat first | apply aE | apply aG | apply aD);refine aZ (cs:=#[.int .i64 aAF,.int .i64 aCB,.slice none 0 0]) ?_ 2 _ rfl;(with_reducible repeat first | apply aE | apply aG | apply aD);refine aZ (cs:=#[.int .i64 aAF,.int .i64 0,.slice none 0 0]) ?_ 1 _ rfl;(with_reducible repeat first | apply aE | apply aG | apply aD);refine aZ (cs:=#[.int .i64 0,.int .i64 0,.slice none 0 0]) ?_ 0 _ rfl;(with_reducible repeat first | apply aE | apply aG | apply aD);exact KI.out) hb);replace HB:=aA.mk (aN (fE HB wN zV aOP) hb);(try clear hb);(try clear hb2);(try clear hk);(try clear hi);(try clear ho0);have QP:=bL jA 0 (.int .i64 0) rfl;have QO:=bL jA 1 (.int .i64 0) rfl;have QN:=bL jA 2 (.slice none 0 0) rfl;have QJ:=aC jA.out 0;have QI:=aC jA.out 1;have QH:=aC jA.out 2;obtain ⟨aOY,aNW,eo38⟩:=Kd.cK aTo.out;subst eo38))
     refine bodyPost_ret (dU rfl _ _ ML 24 #[.int .i64 aKj,.int .i64 aMk,.slice aOY aPE.length aNW] (0,0) _ rfl (by (with_reducible repeat first | apply aE | apply aG | apply aD);refine aZ (cs:=#[.int .i64 aKj,.int .i64 aMk,.slice none 0 0]) ?_ 2 _ rfl;(with_reducible repeat first | apply aE | apply aG | apply aD);refine aZ (cs:=#[.int .i64 aKj,.int .i64 0,.slice none 0 0]) ?_ 1 _ rfl;(with_reducible repeat first | apply aE | apply aG | apply aD);refine aZ (cs:=#[.int .i64 0,.int .i64 0,.slice none 0 0]) ?_ 0 _ rfl;(with_reducible repeat first | apply aE | apply aG | apply aD);exact jA.out) Try.underlying24 rfl (by kernel_rfl)) rfl ?_;exact ⟨_,tZ,by (with_reducible repeat first | apply Kd.bX | apply Kd.bW | apply Kd.bP);exact Kd.cC (Kd.cY (p:=⟨ML,2,none⟩) (Kd.cY (p:=⟨ML,1,none⟩) (Kd.cY (p:=⟨ML,0,none⟩) (Kd.dM aTo.out jA.out (by decide)) (fun _ hk => hk.2) (.int .i64 aKj)) (fun _ hk => hk.2) (.int .i64 aMk)) (fun _ hk => hk.2) (.slice aOY aPE.length aNW)) (fun _ hk => trivial),fE HB wN zV aOP⟩
def dR.f (k : Nat) (aK : Int) (aI : Int) (aQ : List Int) (l1 : List Int) : Option (List Int×Int):=(bA.f aK aI aQ).bind fun aKi => (if aKi = true then (if (l1.length : Int) = aI then ((aX.f k aK aI aQ aI 1 l1).bind fun KB => (some (KB.2.2.1,KB.2.2.2))) else (some (([] : List Int),3))) else (some (([] : List Int),3)))
theorem dR.calls (k : Nat) (aK : Int) (aI : Int) (bI : Option Addr) (bH : Nat) (aQ : List Int) (A1 : Option Addr) (c1 : Nat) (l1 : List Int) (r1 : List Int) (r2 : Int) (w : World) (hr0_2 : Kd.C (Kd.int .u8) w bI aQ.length aQ) (hc0_2 : aQ.length≤bH) (hr1 : Kd.C (Kd.int .u8) w A1 l1.length l1) (hc1 : l1.length≤c1) (h : dR.f k aK aI aQ l1 = some (r1,r2)) :
  Calls Try.prog 29 #[.agg #[.int .i64 aK,.int .i64 aI,.slice bI aQ.length bH],.slice A1 l1.length c1] w fun e w' => ∃ v0_ : Value,e = .returned (.tuple #[v0_,.int .i64 r2])∧Kd.R (Kd.int .u8) 5 w' w.heap.size (fun _ => True) v0_ r1∧Below w.heap.size w w':=by
 have zL:=Try.underlying24;have dY:=aA.mk hr0_2;have eC:=aA.mk hc0_2;clear hr0_2 hc0_2;have pQ:=aA.mk hr1;have HC1:=aA.mk hc1;clear hr1 hc1;have HB:=aA.mk (Below.refl w.heap.size w);have H : ((bA.f aK aI aQ).bind fun aKi => (if aKi = true then (if (l1.length : Int) = aI then ((aX.f k aK aI aQ aI 1 l1).bind fun KB => (some (KB.2.2.1,KB.2.2.2))) else (some (([] : List Int),3))) else (some (([] : List Int),3)))) = some (r1,r2):=h;clear h;replace H:=Option.bind_eq_some_iff.mp H;obtain ⟨aKi,A30,H⟩:=H;replace H : (if aKi = true then (if (l1.length : Int) = aI then ((aX.f k aK aI aQ aI 1 l1).bind fun KB => (some (KB.2.2.1,KB.2.2.2))) else (some (([] : List Int),3))) else (some (([] : List Int),3))) = some (r1,r2):=H;have A3:=aA.mk A30;clear A30
 by_cases c4 : aKi = true
 ·subst c4
  have H1 : (if (l1.length : Int) = aI then ((aX.f k aK aI aQ aI 1 l1).bind fun KB => (some (KB.2.2.1,KB.2.2.2))) else (some (([] : List Int),3))) = some (r1,r2):=by rw [if_pos rfl] at H;exact H
  clear H;have H:=H1;clear H1
  by_cases c5 : (l1.length : Int) = aI
  ·rw [if_pos c5] at H
   have JU : ((l1.length : Int) == aI) = true:=beq_iff_eq.mpr c5;have aOa : ((l1.length : Int) != aI) = false:=bne_eq_false_iff_eq.mpr c5;clear c5;replace H:=Option.bind_eq_some_iff.mp H;obtain ⟨⟨aVU,aVT,aUb,aVS⟩,A60,H⟩:=H;replace H : (some (aUb,aVS)) = some (r1,r2):=H;have A6:=aA.mk A60;clear A60;simp only [Option.some.injEq,Prod.mk.injEq] at H;obtain ⟨rfl,rfl⟩:=H;go_enter Try.func29,Try.ntmps29;go_wp2_with (first | ((with_reducible refine bK (N:=2) rfl ?_);(try (refine dH (by rfl) ?_;dsimp only));refine lS (N:=2) (cs:=#[.int .i64 aK,.int .i64 aI,.slice bI aQ.length bH]) (t:=24) ?_;intro TX hg w7 hbox hb;have iE:=aA.mk (hbox);have aTB:=aA.mk (eP hg (cX HB) : w.heap.size≤TX);have FI:=aA.mk (eP hg (cX HB) : w.heap.size≤TX);replace HB:=aA.mk (aN (cX HB) hb);clear hb hbox hg;have NP:=bL iE 0 (.int .i64 aK) rfl;have NO:=bL iE 1 (.int .i64 aI) rfl;have NN:=bL iE 2 (.slice bI aQ.length bH) rfl;have NM:=aC iE.out 0;have NL:=aC iE.out 1;have NK:=aC iE.out 2) | ((with_reducible refine bE (f:=17) rfl ?_);refine cO (some 9) rfl rfl Try.func17 (by kernel_rfl) rfl #[.agg #[.int .i64 aK,.int .i64 aI,.slice bI aQ.length bH]] rfl lU ?_;(with_reducible refine (bA.calls aK aI _ _ aQ true _ ?side1 ?side2 A3.out).mono ?_);(case side1 => exact nY (Kd.cP dY.out HB.out));(case side2 => exact eC.out);rintro e w9 ⟨rfl,hb⟩;refine ⟨_,rfl,?_⟩;replace iE:=aA.mk (aJ (cH iE) hb);replace HB:=aA.mk (aN (cL HB FI) hb);(try clear hb);(try clear hb2);(try clear hk);(try clear hi);have nO:=bL iE 0 (.int .i64 aK) rfl;have nN:=bL iE 1 (.int .i64 aI) rfl;have nM:=bL iE 2 (.slice bI aQ.length bH) rfl;have nL:=aC iE.out 0;have nK:=aC iE.out 1;have nJ:=aC iE.out 2) | ((with_reducible refine bE (f:=53) rfl ?_);refine cO (some 24) rfl rfl Try.func53 (by kernel_rfl) rfl #[.agg #[.int .i64 aK,.int .i64 aI,.slice bI aQ.length bH],.agg #[.int .i64 aI,.int .i64 1,.slice A1 l1.length c1]] rfl lU ?_;(with_reducible refine (aX.calls k aK aI _ _ aQ aI 1 _ _ l1 aVU aVT aUb aVS _ ?side1 ?side2 ?side3 ?side4 A6.out).mono ?_);(case side1 => exact nY (Kd.cP dY.out HB.out));(case side2 => exact eC.out);(case side3 => exact nY (Kd.cP pQ.out HB.out));(case side4 => exact HC1.out);rintro e w11 ⟨bId,rfl,ho0,hb⟩;refine ⟨_,rfl,?_⟩;have aJP:=aA.mk (Kd.dI ho0 (bR (cL HB FI)));replace iE:=aA.mk (aJ (cH iE) hb);replace HB:=aA.mk (aN (cL HB FI) hb);(try clear hb);(try clear hb2);(try clear hk);(try clear hi);(try clear ho0)) | ((with_reducible refine bK (N:=6) rfl ?_);(try (refine dH (by rfl) ?_;dsimp only));refine lS (N:=6) (cs:=#[.int .i64 0,.int .i64 0,.slice none 0 0]) (t:=24) ?_;intro aFB hg w12 hbox hb;replace aJP:=aA.mk (Kd.bV (dB aJP.out) hb);have aAu:=aA.mk (hbox);have bHo:=aA.mk (eP hg (cL HB FI) : w.heap.size≤aFB);have bAj:=aA.mk (eP hg (cL HB FI) : w.heap.size≤aFB);replace HB:=aA.mk (aN (cL HB FI) hb);have aLK:=aA.mk (sU hg (cH iE));have aLJ:=aA.mk (sV hg (cH iE));replace iE:=aA.mk (aJ (cH iE) hb);clear hb hbox hg;have aXB:=aLJ.out;have aWW:=aLK.out;have tV:=bL aAu 0 (.int .i64 0) rfl;have tU:=bL aAu 1 (.int .i64 0) rfl;have tT:=bL aAu 2 (.slice none 0 0) rfl;have tP:=aC aAu.out 0;have tO:=aC aAu.out 1;have tN:=aC aAu.out 2;obtain ⟨bAA,aYM,eo15⟩:=Kd.cK aJP.out;subst eo15))
   go_ret2
   exact ⟨_,tZ,by (with_reducible repeat first | apply Kd.bX | apply Kd.bW | apply Kd.bP);exact Kd.cC (Kd.cY (p:=⟨aFB,2,none⟩) (Kd.cY (p:=⟨aFB,1,none⟩) (Kd.cY (p:=⟨aFB,0,none⟩) (Kd.dM aJP.out aAu.out (by decide)) (fun _ hk => hk.2) (.int .i64 aVU)) (fun _ hk => hk.2) (.int .i64 aVT)) (fun _ hk => hk.2) (.slice bAA aUb.length aYM)) (fun _ hk => trivial),dA HB FI bAj⟩
  ·rw [if_neg c5] at H
   have JU : ((l1.length : Int) == aI) = false:=beq_eq_false_iff_ne.mpr c5;have aOa : ((l1.length : Int) != aI) = true:=bne_iff_ne.mpr c5;simp only [Option.some.injEq,Prod.mk.injEq] at H;obtain ⟨rfl,rfl⟩:=H;go_enter Try.func29,Try.ntmps29;go_wp2_with (first | ((with_reducible refine bK (N:=2) rfl ?_);(try (refine dH (by rfl) ?_;dsimp only));refine lS (N:=2) (cs:=#[.int .i64 aK,.int .i64 aI,.slice bI aQ.length bH]) (t:=24) ?_;intro TX hg w16 hbox hb;have iE:=aA.mk (hbox);have aTB:=aA.mk (eP hg (cX HB) : w.heap.size≤TX);have FI:=aA.mk (eP hg (cX HB) : w.heap.size≤TX);replace HB:=aA.mk (aN (cX HB) hb);clear hb hbox hg;have aJh:=bL iE 0 (.int .i64 aK) rfl;have aJg:=bL iE 1 (.int .i64 aI) rfl;have aJf:=bL iE 2 (.slice bI aQ.length bH) rfl;have aIP:=aC iE.out 0;have aIO:=aC iE.out 1;have aIN:=aC iE.out 2) | ((with_reducible refine bE (f:=17) rfl ?_);refine cO (some 9) rfl rfl Try.func17 (by kernel_rfl) rfl #[.agg #[.int .i64 aK,.int .i64 aI,.slice bI aQ.length bH]] rfl lU ?_;(with_reducible refine (bA.calls aK aI _ _ aQ true _ ?side1 ?side2 A3.out).mono ?_);(case side1 => exact nY (Kd.cP dY.out HB.out));(case side2 => exact eC.out);rintro e w18 ⟨rfl,hb⟩;refine ⟨_,rfl,?_⟩;replace iE:=aA.mk (aJ (cH iE) hb);replace HB:=aA.mk (aN (cL HB FI) hb);(try clear hb);(try clear hb2);(try clear hk);(try clear hi);have mQ:=bL iE 0 (.int .i64 aK) rfl;have mP:=bL iE 1 (.int .i64 aI) rfl;have mO:=bL iE 2 (.slice bI aQ.length bH) rfl;have mN:=aC iE.out 0;have mM:=aC iE.out 1;have mL:=aC iE.out 2))
   go_ret2
   exact ⟨_,tZ,IW,cL HB FI⟩
 ·replace c4:=Bool.eq_false_iff.mpr c4
  subst c4;have H1 : (some (([] : List Int),3)) = some (r1,r2):=by rw [if_neg (show ¬ (false = true) by decide)] at H;exact H
  clear H;have H:=H1;clear H1;simp only [Option.some.injEq,Prod.mk.injEq] at H;obtain ⟨rfl,rfl⟩:=H;go_enter Try.func29,Try.ntmps29;go_wp2_with (first | ((with_reducible refine bK (N:=2) rfl ?_);(try (refine dH (by rfl) ?_;dsimp only));refine lS (N:=2) (cs:=#[.int .i64 aK,.int .i64 aI,.slice bI aQ.length bH]) (t:=24) ?_;intro TX hg w20 hbox hb;have iE:=aA.mk (hbox);have aTB:=aA.mk (eP hg (cX HB) : w.heap.size≤TX);have FI:=aA.mk (eP hg (cX HB) : w.heap.size≤TX);replace HB:=aA.mk (aN (cX HB) hb);clear hb hbox hg;have aRg:=bL iE 0 (.int .i64 aK) rfl;have aRf:=bL iE 1 (.int .i64 aI) rfl;have aRe:=bL iE 2 (.slice bI aQ.length bH) rfl;have aQI:=aC iE.out 0;have aQH:=aC iE.out 1;have aQG:=aC iE.out 2) | ((with_reducible refine bE (f:=17) rfl ?_);refine cO (some 9) rfl rfl Try.func17 (by kernel_rfl) rfl #[.agg #[.int .i64 aK,.int .i64 aI,.slice bI aQ.length bH]] rfl lU ?_;(with_reducible refine (bA.calls aK aI _ _ aQ false _ ?side1 ?side2 A3.out).mono ?_);(case side1 => exact nY (Kd.cP dY.out HB.out));(case side2 => exact eC.out);rintro e w22 ⟨rfl,hb⟩;refine ⟨_,rfl,?_⟩;replace iE:=aA.mk (aJ (cH iE) hb);replace HB:=aA.mk (aN (cL HB FI) hb);(try clear hb);(try clear hb2);(try clear hk);(try clear hi)))
  go_ret2
  exact ⟨_,tZ,IW,cL HB FI⟩
def bN.l0 : Nat→List Int→Int→Int→Int→Int→List Int→Option (List Int×Int)
 | 0,_,_,_,_,_,_ => none
 | k + 1,x4,x5,x6,aCn,KJ,VK => if x6 < aCn then (if 0≤(wrap64 ((wrap64 (x6 + 1)) * KJ)) then (if (wrap64 ((wrap64 (x6 + 1)) * KJ))≤(VK.length : Int) then ((dZ.f (wrap64 (x6 + 1)) KJ (VK.take ((wrap64 ((wrap64 (x6 + 1)) * KJ)) : Int).toNat)).bind fun aFU => (if aFU.1 > x5 then (if x4.length < 17592186044416 then (bN.l0 k (x4 ++ [x6]) aFU.1 (wrap64 (x6 + 1)) aCn KJ VK) else (none)) else (bN.l0 k x4 x5 (wrap64 (x6 + 1)) aCn KJ VK))) else (none)) else (none)) else (some (x4,0))
def bN.f (k : Nat) (aK : Int) (aI : Int) (aQ : List Int) : Option (List Int×Int):=(bA.f aK aI aQ).bind fun aKh => (if aKh = true then (bN.l0 k ([] : List Int) 0 0 aK aI aQ) else (some (([] : List Int),3)))
def bN.T8 : Bool×List (List Nat×List Nat):=(true,[([],[]),([0],[0]),([],[]),([2],[2]),([],[]),([4],[4]),([],[]),([6],[6]),([],[]),([8],[8]),([7,9],[7,9]),([5,10],[5,10]),([1,3,11],[1,3,11]),([12],[12]),([13],[13]),([14],[14]),([14],[14]),([15,13,0,1,2,3,4,5,6,7,8,9,10,11,12,13,14,15],[15]),([16,17,0,1,2,3,4,5,6,7,8,9,10,11,12,13,14,15,16,17],[16])])
def bN.B8 : List Nat:=[0,1,0,4,0,16,0,64,0,256,960,2032,4095,8191,16383,32767,32767,65535,262143]
theorem bN.aPD : rV .any (opsOf Try.f61 8) = bN.T8:=by kernel_rfl
theorem bN.aJH : nB bN.T8.2 bN.B8 = true:=by kernel_rfl
theorem bN.calls (k : Nat) (aK : Int) (aI : Int) (bI : Option Addr) (bH : Nat) (aQ : List Int) (r1 : List Int) (r2 : Int) (w : World) (hr0_2 : Kd.C (Kd.int .u8) w bI aQ.length aQ) (hc0_2 : aQ.length≤bH) (h : bN.f k aK aI aQ = some (r1,r2)) :
  Calls Try.prog 61 #[.agg #[.int .i64 aK,.int .i64 aI,.slice bI aQ.length bH]] w fun e w' => ∃ v0_ : Value,e = .returned (.tuple #[v0_,.int .i64 r2])∧Kd.R (Kd.int .i64) 3 w' w.heap.size (fun _ => True) v0_ r1∧Below w.heap.size w w':=by
 have zL:=Try.underlying24;have dY:=aA.mk hr0_2;have eC:=aA.mk hc0_2;clear hr0_2 hc0_2;have HB:=aA.mk (Below.refl w.heap.size w);have H : ((bA.f aK aI aQ).bind fun aKh => (if aKh = true then (bN.l0 k ([] : List Int) 0 0 aK aI aQ) else (some (([] : List Int),3)))) = some (r1,r2):=h;clear h;replace H:=Option.bind_eq_some_iff.mp H;obtain ⟨aKh,A20,H⟩:=H;replace H : (if aKh = true then (bN.l0 k ([] : List Int) 0 0 aK aI aQ) else (some (([] : List Int),3))) = some (r1,r2):=H;have A2:=aA.mk A20;clear A20
 by_cases c3 : aKh = true
 ·subst c3
  have H1 : (bN.l0 k ([] : List Int) 0 0 aK aI aQ) = some (r1,r2):=by rw [if_pos rfl] at H;exact H
  clear H;have H:=H1;clear H1;have H':=aA.mk H;clear H;go_enter Try.func61,Try.ntmps61;go_wp2_with (first | ((with_reducible refine bK (N:=1) rfl ?_);refine lS (N:=1) (cs:=#[.int .i64 aK,.int .i64 aI,.slice bI aQ.length bH]) (t:=24) ?_;intro HQ hg w4 hbox hb;have eT:=aA.mk (hbox);have aZR:=aA.mk (eP hg (cX HB) : w.heap.size≤HQ);have IH:=aA.mk (eP hg (cX HB) : w.heap.size≤HQ);replace HB:=aA.mk (aN (cX HB) hb);clear hb hbox hg;have aNC:=bL eT 0 (.int .i64 aK) rfl;have aNB:=bL eT 1 (.int .i64 aI) rfl;have aNA:=bL eT 2 (.slice bI aQ.length bH) rfl;have aNz:=aC eT.out 0;have aNy:=aC eT.out 1;have aNx:=aC eT.out 2) | ((with_reducible refine bE (f:=17) rfl ?_);refine cO (some 10) rfl rfl Try.func17 (by kernel_rfl) rfl #[.agg #[.int .i64 aK,.int .i64 aI,.slice bI aQ.length bH]] rfl lU ?_;(with_reducible refine (bA.calls aK aI _ _ aQ true _ ?side1 ?side2 A2.out).mono ?_);(case side1 => exact nY (Kd.cP dY.out HB.out));(case side2 => exact eC.out);rintro e w6 ⟨rfl,hb⟩;refine ⟨_,rfl,?_⟩;replace eT:=aA.mk (aJ (cH eT) hb);replace HB:=aA.mk (aN (cL HB IH) hb);(try clear hb);(try clear hb2);(try clear hk);(try clear hi)))
  go_loopg [4,5,6] k (fun kq v4 v5 v6 w' => ∃ (iI : List Int) (iH : Int) (iF : Int),v5 = .int .i64 iH∧v6 = .int .i64 iF∧aA (bN.l0 kq iI iH iF aK aI aQ = some (r1,r2))∧aA (kq≤k)∧aA (Kd.R (Kd.int .i64) 3 w' w.heap.size (fun _ => True) v4 iI)∧aA (w'.heap[HQ]? = some (.cells #[.int .i64 aK,.int .i64 aI,(.slice bI aQ.length bH)] 24 (0,0)))∧aA (Below w.heap.size w w'))
  case atStart => exact ⟨(([] : List Int)),(0),(0),mU,mU,H',⟨Nat.le_refl _⟩,⟨IW⟩,⟨gP eT.out⟩,⟨cL HB IH⟩⟩
  case round =>
   clear H';(try clear c1);(try clear p2);(try clear c3);(try clear c6);(try clear aNC);(try clear aNB);(try clear aNA);(try clear aNz);(try clear aNy);(try clear aNx);obtain ⟨iI,iH,iF,rfl,rfl,HA,yS,iW,eT,HB⟩:=hrel
   cases gk with
   | zero => exact absurd HA.out (by simp [bN.l0])
   | succ k1 =>
    have H:=HA.out;clear HA;simp only [bN.l0] at H
    by_cases c7 : iF < aK
    ·rw [if_pos c7] at H
     have bFC : decide (iF < aK) = true:=decide_eq_true c7;clear c7;obtain ⟨ji8,aNu⟩ : ∃ j_ : Int,(wrap64 ((wrap64 (iF + 1)) * aI)) = j_:=⟨_,rfl⟩
     replace H : (if 0≤(ji8) then (if (ji8)≤(aQ.length : Int) then ((dZ.f (wrap64 (iF + 1)) aI (aQ.take ((ji8) : Int).toNat)).bind fun aFU => (if aFU.1 > iH then (if iI.length < 17592186044416 then (bN.l0 k1 (iI ++ [iF]) aFU.1 (wrap64 (iF + 1)) aK aI aQ) else (none)) else (bN.l0 k1 iI iH (wrap64 (iF + 1)) aK aI aQ))) else (none)) else (none)) = some (r1,r2):=by first | (rw [aNu] at H;exact H) | (simp only [aNu] at H ⊢;exact H)
     have bGO : (IntKind.i64.wrap ((wrap64 (iF + 1)) * aI)) = ji8:=(bF _).trans aNu
     by_cases c9 : 0≤(ji8)
     ·rw [if_pos c9] at H
      have QV:=eq_true c9;have aRs : decide (0≤(ji8)) = true:=decide_eq_true c9;clear c9
      by_cases QW : (ji8)≤(aQ.length : Int)
      ·rw [if_pos QW] at H
       have aOl:=eq_true QW;have bHb : decide ((ji8)≤(aQ.length : Int)) = true:=decide_eq_true QW;clear QW;replace H:=Option.bind_eq_some_iff.mp H;obtain ⟨⟨aCz,aVR⟩,bAU,H⟩:=H;replace H : (if aCz > iH then (if iI.length < 17592186044416 then (bN.l0 k1 (iI ++ [iF]) aCz (wrap64 (iF + 1)) aK aI aQ) else (none)) else (bN.l0 k1 iI iH (wrap64 (iF + 1)) aK aI aQ)) = some (r1,r2):=H;have A11:=aA.mk bAU;clear bAU
       by_cases yR : aCz > iH
       ·rw [if_pos yR] at H
        have UI : decide (iH < aCz) = true:=decide_eq_true yR;clear yR
        by_cases c13 : iI.length < 17592186044416
        ·rw [if_pos c13] at H
         have LMc13:=aA.mk c13;clear c13;obtain ⟨y783,hy783⟩ : ∃ y_ : List Int,y_ = (iI ++ [iF]):=⟨_,rfl⟩
         replace H : (bN.l0 k1 y783 aCz (wrap64 (iF + 1)) aK aI aQ) = some (r1,r2):=by first | (rw [hy783];with_reducible exact H) | (have H2_:=(Option.bind_some _ _).symm.trans H;rw [hy783];with_reducible exact H2_) | (have H2_:=(Option.bind_some _ _).symm.trans H;with_reducible exact H2_) | with_reducible exact H | (rw [hy783];exact H) | exact H
         have Ny783:=aA.mk hy783;clear hy783;have H':=aA.mk H;clear H;have tV:=bL eT 0 (.int .i64 aK) rfl;have tU:=bL eT 1 (.int .i64 aI) rfl;have tT:=bL eT 2 (.slice bI aQ.length bH) rfl;have tP:=aC eT.out 0;have tO:=aC eT.out 1;have tN:=aC eT.out 2
         try go_wp2
         replace iW:=aA.mk (Kd.bP iW.out);replace eT:=aA.mk (aG eT.out);replace HB:=aA.mk (eD HB.out);obtain ⟨bIE,aSN,_,aSb,_⟩:=info_parts wT;obtain ⟨bFy,aYm,aYk⟩:=MH (P:=Try.prog) (Value.int .u8) 0 22 5 .i64 Try.underlying22 aSN aSb bI bH aQ (ji8) (of_decide_eq_true mD) (of_decide_eq_true mD) eC.out;have aGh:=aA.mk (Kd.aAt (h1:=fun _ => rfl) (aYm _ (Kd.FW dY.out)));have aOM:=aA.mk aYk;clear aYm aYk aSN aSb;refine qD (n:=19) (S:=fun w' => w'.cell? ⟨HQ,0,none⟩ = some (.int .i64 aK)∧w'.cell? ⟨HQ,1,none⟩ = some (.int .i64 aI)∧w'.cell? ⟨HQ,2,none⟩ = some (.slice bI aQ.length bH)) (ds:=[]) #[false,false,false,false,false,false,false,false,false,false,false,false,false,false,false,false,false,false,false] (by kernel_rfl) rfl rfl ⟨(bB eT.out 0).trans rfl,(bB eT.out 1).trans rfl,(bB eT.out 2).trans rfl⟩ (fun hHeld => ?_);refine jR bN.aPD bN.aJH (fun HT_ HW_ => ?_);generalize wr.drew = w15 at iW eT HB aGh hHeld ⊢;refine bZ (i:=0) (N:=some 19) (v:=?_) (a':=?_) (eB 19 1) rfl rfl (bM HT_.out (by kernel_rfl)) (fun _ _ _ h => h) (Or.inl ⟨by rfl,?_⟩) ?_ ?_;rotate_left
         ·intro w'
          go_simp;(with_reducible rfl)
         rotate_left
         ·simp only [Act.put,cT,cS,cU,bF,bG]
          rfl
         refine bZ (i:=1) (N:=some 20) (v:=?_) (a':=?_) (eB 19 3) rfl rfl (bM HT_.out (by kernel_rfl)) (fun _ _ _ h => h) (Or.inl ⟨by rfl,?_⟩) ?_ ?_;rotate_left
         ·intro w'
          go_simp;(with_reducible rfl)
         rotate_left
         ·simp only [Act.put,cT,cS,cU,bF,bG]
          rfl
         refine bZ (i:=2) (N:=some 21) (v:=?_) (a':=?_) (eB 19 7) rfl rfl (bM HT_.out (by kernel_rfl)) (fun _ _ _ h => h) (Or.inl ⟨by rfl,?_⟩) ?_ ?_;rotate_left
         ·intro w'
          go_simp;(with_reducible rfl)
         rotate_left
         ·simp only [Act.put,cT,cS,cU,bF,bG]
          rfl
         refine bZ (i:=4) (N:=some 23) (v:=?_) (a':=?_) (eB 19 23) rfl rfl (bM HT_.out (by kernel_rfl)) (fun _ _ _ h => h) (Or.inl ⟨by rfl,?_⟩) ?_ ?_;rotate_left
         ·intro w'
          go_simp;(with_reducible rfl)
         rotate_left
         ·simp only [Act.put,cT,cS,cU,bF,bG]
          rfl
         refine bZ (i:=6) (N:=some 25) (v:=?_) (a':=?_) (eB 19 87) rfl rfl (bM HT_.out (by kernel_rfl)) (fun _ _ _ h => h) (Or.inl ⟨by rfl,?_⟩) ?_ ?_;rotate_left
         ·intro w'
          go_simp;(with_reducible rfl)
         rotate_left
         ·simp only [Act.put,cT,cS,cU,bF,bG]
          rfl
         refine bZ (i:=7) (N:=some 26) (v:=?_) (a':=?_) (eB 19 215) rfl rfl (bM HT_.out (by kernel_rfl)) (fun _ _ _ h => h) (Or.inl ⟨by rfl,?_⟩) ?_ ?_;rotate_left
         ·intro w'
          go_simp;(with_reducible rfl)
         rotate_left
         ·simp only [Act.put,cT,cS,cU,bF,bG]
          rfl
         refine bZ (i:=8) (N:=some 27) (v:=?_) (a':=?_) (eB 19 471) rfl rfl (bM HT_.out (by kernel_rfl)) (fun _ _ _ h => h) (Or.inl ⟨by rfl,?_⟩) ?_ ?_;rotate_left
         ·intro w'
          go_simp;(with_reducible rfl)
         rotate_left
         ·simp only [Act.put,cT,cS,cU,bF,bG]
          rfl
         refine gN (i:=3) (N:=some 22) (v:=?_) (a':=?_) (eB 19 479) rfl rfl (dT HT_.out HW_.out (by kernel_rfl)) (fun _ _ _ h => h) (Or.inl ⟨by rfl,?_⟩) hHeld ?_ ?_;rotate_left
         ·rintro w' ⟨s0,s1,s2⟩
          go_simp;(with_reducible rfl)
         rotate_left
         ·simp only [Act.put,cT,cS,cU,bF,bG]
          rfl
         refine gN (i:=5) (N:=some 24) (v:=?_) (a':=?_) (eB 19 511) rfl rfl (dT HT_.out HW_.out (by kernel_rfl)) (fun _ _ _ h => h) (Or.inl ⟨by rfl,?_⟩) hHeld ?_ ?_;rotate_left
         ·rintro w' ⟨s0,s1,s2⟩
          go_simp;(with_reducible rfl)
         rotate_left
         ·simp only [Act.put,cT,cS,cU,bF,bG]
          rfl
         refine gN (i:=9) (N:=some 28) (v:=?_) (a':=?_) (eB 19 1023) rfl rfl (dT HT_.out HW_.out (by kernel_rfl)) (fun _ _ _ h => h) (Or.inl ⟨by rfl,?_⟩) hHeld ?_ ?_;rotate_left
         ·rintro w' ⟨s0,s1,s2⟩
          go_simp;(with_reducible rfl)
         rotate_left
         ·simp only [Act.put,cT,cS,cU,bF,bG]
          rfl
         refine bZ (i:=10) (N:=some 29) (v:=?_) (a':=?_) (eB 19 2047) rfl rfl (bM HT_.out (by kernel_rfl)) (fun _ _ _ h => h) (Or.inl ⟨by rfl,?_⟩) ?_ ?_;rotate_left
         ·intro w'
          go_simp;(with_reducible rfl)
         rotate_left
         ·simp only [Act.put,cT,cS,cU,bF,bG]
          rfl
         refine bZ (i:=11) (N:=some 30) (v:=?_) (a':=?_) (eB 19 4095) rfl rfl (bM HT_.out (by kernel_rfl)) (fun _ _ _ h => h) (Or.inl ⟨by rfl,?_⟩) ?_ ?_;rotate_left
         ·intro w'
          go_simp;(with_reducible rfl)
         rotate_left
         ·simp only [Act.put,cT,cS,cU,bF,bG]
          rfl
         refine bZ (i:=12) (N:=some 31) (v:=?_) (a':=?_) (eB 19 8191) rfl rfl (bM HT_.out (by kernel_rfl)) (fun _ _ _ h => h) (Or.inl ⟨by rfl,?_⟩) ?_ ?_;rotate_left
         ·intro w'
          go_simp;(with_reducible rfl)
         rotate_left
         ·simp only [Act.put,cT,cS,cU,bF,bG]
          rfl
         refine EK (i:=13) (N:=some 32) (eB 19 16383) rfl rfl (jY HT_.out (by kernel_rfl)) (by decide) (fun K hK => ?_);refine DN Try.func26 (by kernel_rfl) rfl #[.agg #[.int .i64 (wrap64 (iF + 1)),.int .i64 aI,.slice bI (aQ.take ((ji8) : Int).toNat).length bH]] (by rfl) rfl rfl (by (try simp only [List.map_toArray,List.map_cons,List.map_nil]);first | done | (rw [show (aQ.take ((ji8) : Int).toNat).length = (ji8).toNat from (by rw [List.length_take];have h_ : ((ji8) : Int)≤(aQ.length : Int):=of_decide_eq_true mD;omega)] <;> rfl) | (simp only [aNu];rfl) | rfl | (simp only [List.length_drop,List.length_take];rfl)) ?_
         with_reducible refine (dZ.calls (wrap64 (iF + 1)) aI _ _ (aQ.take ((ji8) : Int).toNat) aCz aVR _ ?side1 ?side2 A11.out).mono ?_
         (case side1 => exact nY (Kd.cP aGh.out HB.out))
         (case side2 => exact aOM.out);rintro e w17 ⟨rfl,hb⟩;refine ⟨_,rfl,?_⟩;replace iW:=aA.mk (Kd.bV (dB iW.out) hb);replace eT:=aA.mk (aJ (cH eT) hb);replace HB:=aA.mk (aN (cL HB IH) hb);(try clear hb);(try clear hb2);(try clear hk);(try clear hi);refine hK.out _ _ ⟨(bB eT.out 0).trans rfl,(bB eT.out 1).trans rfl,(bB eT.out 2).trans rfl⟩ (fun hHeld => ?_);clear hK K;refine qL (a':=?_) ?_ ?_;rotate_left
         ·show Act.put _ (some 32) _ = _
          simp only [Act.put,cT,cS,cU,bF,bG];rfl
         refine bZ (i:=14) (N:=some 18) (v:=?_) (a':=?_) (eB 19 32767) rfl rfl (bM HT_.out (by kernel_rfl)) (fun _ _ _ h => h) (Or.inl ⟨by rfl,?_⟩) ?_ ?_;rotate_left
         ·intro w'
          go_simp;(with_reducible rfl)
         rotate_left
         ·simp only [Act.put,cT,cS,cU,bF,bG]
          rfl
         refine bZ (i:=15) (N:=some 33) (v:=?_) (a':=?_) (eB 19 65535) rfl rfl (bM HT_.out (by kernel_rfl)) (fun _ _ _ h => h) (Or.inl ⟨by rfl,?_⟩) ?_ ?_;rotate_left
         ·intro w'
          go_simp;(with_reducible rfl)
         rotate_left
         ·simp only [Act.put,cT,cS,cU,bF,bG]
          rfl
         refine bZ (i:=16) (N:=some 34) (v:=?_) (a':=?_) (eB 19 131071) rfl rfl (bM HT_.out (by kernel_rfl)) (fun _ _ _ h => h) (Or.inl ⟨by rfl,?_⟩) ?_ ?_;rotate_left
         ·intro w'
          go_simp;(with_reducible rfl)
         rotate_left
         ·simp only [Act.put,cT,cS,cU,bF,bG]
          rfl
         refine bZ (i:=17) (N:=some 7) (v:=?_) (a':=?_) (eB 19 262143) rfl rfl (bM HT_.out (by kernel_rfl)) (fun _ _ _ h => h) (Or.inl ⟨by rfl,?_⟩) ?_ ?_;rotate_left
         ·intro w'
          go_simp;(with_reducible rfl)
         rotate_left
         ·simp only [Act.put,cT,cS,cU,bF,bG]
          rfl
         refine bZ (i:=18) (N:=some 8) (v:=?_) (a':=?_) (eB 19 524287) rfl rfl (bM HT_.out (by kernel_rfl)) (fun _ _ _ h => h) (Or.inl ⟨by rfl,?_⟩) ?_ ?_;rotate_left
         ·intro w'
          go_simp;(with_reducible rfl)
         rotate_left
         ·simp only [Act.put,cT,cS,cU,bF,bG]
          rfl
         refine wV (oD HT_.out (by kernel_rfl)) ?_
         try go_wp2_with (first | ((with_reducible refine rY (b:=.append) (xs:=#[.tmp 38,.tmp 40]) rfl ?_);at_builtin;refine Kd.aAm (Kd.int .i64) (w0:=w) w.heap.size rfl (.tmp 38) (.tmp 40) 37 3 (.int .i64 0) 8 rfl Try.underlying37 aRZ rfl (by decide) (by omega) u4 iI iF [.int .i64 iF] (fun _ => True) (fun _ => False) rfl rfl ?aP (fun _ hk => hk.elim) ?aF ?aO ?aB ?aS ?aL ?_;(case aP => exact rfl);(case aB => exact (cL HB IH));(case aF => exact (fun _ _ => trivial));(case aO => exact (dB iW.out));(case aS => exact (bR (cL HB IH)));(case aL => have:=LMc13.out;omega);intro bIc w18 ho hb hg hat;rw [← Ny783.out] at ho;have vG:=aA.mk (dG (cH eT) hg (Kd.iV iW.out eT.out (by decide)));have vF:=aA.mk (hb);have JD:=aA.mk (ho);clear eT HB iW;have eT:=vG;have HB:=vF;have aZG:=JD;clear vG vF JD;clear ho hb hg hat))
         go_roundg k1
         case measure => have:=yS.out;omega
         case rel => exact ⟨(y783),(aCz),(wrap64 (iF + 1)),mU,mU,H',⟨by have:=yS.out;omega⟩,⟨dB aZG.out⟩,⟨gP eT.out⟩,⟨cL HB IH⟩⟩
        ·rw [if_neg c13] at H
         exact absurd H (by simp)
       ·rw [if_neg yR] at H
        have UI : decide (iH < aCz) = false:=decide_eq_false yR;clear yR;have H':=aA.mk H;clear H;have mQ:=bL eT 0 (.int .i64 aK) rfl;have mP:=bL eT 1 (.int .i64 aI) rfl;have mO:=bL eT 2 (.slice bI aQ.length bH) rfl;have mN:=aC eT.out 0;have mM:=aC eT.out 1;have mL:=aC eT.out 2
        try go_wp2
        replace iW:=aA.mk (Kd.bP iW.out);replace eT:=aA.mk (aG eT.out);replace HB:=aA.mk (eD HB.out);obtain ⟨bID,aSM,_,aSa,_⟩:=info_parts wT;obtain ⟨bFx,aYl,aYj⟩:=MH (P:=Try.prog) (Value.int .u8) 0 22 5 .i64 Try.underlying22 aSM aSa bI bH aQ (ji8) (of_decide_eq_true mD) (of_decide_eq_true mD) eC.out;have aGh:=aA.mk (Kd.aAt (h1:=fun _ => rfl) (aYl _ (Kd.FW dY.out)));have aOM:=aA.mk aYj;clear aYl aYj aSM aSa;refine qD (n:=19) (S:=fun w' => w'.cell? ⟨HQ,0,none⟩ = some (.int .i64 aK)∧w'.cell? ⟨HQ,1,none⟩ = some (.int .i64 aI)∧w'.cell? ⟨HQ,2,none⟩ = some (.slice bI aQ.length bH)) (ds:=[]) #[false,false,false,false,false,false,false,false,false,false,false,false,false,false,false,false,false,false,false] (by kernel_rfl) rfl rfl ⟨(bB eT.out 0).trans rfl,(bB eT.out 1).trans rfl,(bB eT.out 2).trans rfl⟩ (fun hHeld => ?_);refine jR bN.aPD bN.aJH (fun HT_ HW_ => ?_);generalize wr.drew = w20 at iW eT HB aGh hHeld ⊢;refine bZ (i:=0) (N:=some 19) (v:=?_) (a':=?_) (eB 19 1) rfl rfl (bM HT_.out (by kernel_rfl)) (fun _ _ _ h => h) (Or.inl ⟨by rfl,?_⟩) ?_ ?_;rotate_left
        ·intro w'
         go_simp;(with_reducible rfl)
        rotate_left
        ·simp only [Act.put,cT,cS,cU,bF,bG]
         rfl
        refine bZ (i:=1) (N:=some 20) (v:=?_) (a':=?_) (eB 19 3) rfl rfl (bM HT_.out (by kernel_rfl)) (fun _ _ _ h => h) (Or.inl ⟨by rfl,?_⟩) ?_ ?_;rotate_left
        ·intro w'
         go_simp;(with_reducible rfl)
        rotate_left
        ·simp only [Act.put,cT,cS,cU,bF,bG]
         rfl
        refine bZ (i:=2) (N:=some 21) (v:=?_) (a':=?_) (eB 19 7) rfl rfl (bM HT_.out (by kernel_rfl)) (fun _ _ _ h => h) (Or.inl ⟨by rfl,?_⟩) ?_ ?_;rotate_left
        ·intro w'
         go_simp;(with_reducible rfl)
        rotate_left
        ·simp only [Act.put,cT,cS,cU,bF,bG]
         rfl
        refine bZ (i:=4) (N:=some 23) (v:=?_) (a':=?_) (eB 19 23) rfl rfl (bM HT_.out (by kernel_rfl)) (fun _ _ _ h => h) (Or.inl ⟨by rfl,?_⟩) ?_ ?_;rotate_left
        ·intro w'
         go_simp;(with_reducible rfl)
        rotate_left
        ·simp only [Act.put,cT,cS,cU,bF,bG]
         rfl
        refine bZ (i:=6) (N:=some 25) (v:=?_) (a':=?_) (eB 19 87) rfl rfl (bM HT_.out (by kernel_rfl)) (fun _ _ _ h => h) (Or.inl ⟨by rfl,?_⟩) ?_ ?_;rotate_left
        ·intro w'
         go_simp;(with_reducible rfl)
        rotate_left
        ·simp only [Act.put,cT,cS,cU,bF,bG]
         rfl
        refine bZ (i:=7) (N:=some 26) (v:=?_) (a':=?_) (eB 19 215) rfl rfl (bM HT_.out (by kernel_rfl)) (fun _ _ _ h => h) (Or.inl ⟨by rfl,?_⟩) ?_ ?_;rotate_left
        ·intro w'
         go_simp;(with_reducible rfl)
        rotate_left
        ·simp only [Act.put,cT,cS,cU,bF,bG]
         rfl
        refine bZ (i:=8) (N:=some 27) (v:=?_) (a':=?_) (eB 19 471) rfl rfl (bM HT_.out (by kernel_rfl)) (fun _ _ _ h => h) (Or.inl ⟨by rfl,?_⟩) ?_ ?_;rotate_left
        ·intro w'
         go_simp;(with_reducible rfl)
        rotate_left
        ·simp only [Act.put,cT,cS,cU,bF,bG]
         rfl
        refine gN (i:=3) (N:=some 22) (v:=?_) (a':=?_) (eB 19 479) rfl rfl (dT HT_.out HW_.out (by kernel_rfl)) (fun _ _ _ h => h) (Or.inl ⟨by rfl,?_⟩) hHeld ?_ ?_;rotate_left
        ·rintro w' ⟨s0,s1,s2⟩
         go_simp;(with_reducible rfl)
        rotate_left
        ·simp only [Act.put,cT,cS,cU,bF,bG]
         rfl
        refine gN (i:=5) (N:=some 24) (v:=?_) (a':=?_) (eB 19 511) rfl rfl (dT HT_.out HW_.out (by kernel_rfl)) (fun _ _ _ h => h) (Or.inl ⟨by rfl,?_⟩) hHeld ?_ ?_;rotate_left
        ·rintro w' ⟨s0,s1,s2⟩
         go_simp;(with_reducible rfl)
        rotate_left
        ·simp only [Act.put,cT,cS,cU,bF,bG]
         rfl
        refine gN (i:=9) (N:=some 28) (v:=?_) (a':=?_) (eB 19 1023) rfl rfl (dT HT_.out HW_.out (by kernel_rfl)) (fun _ _ _ h => h) (Or.inl ⟨by rfl,?_⟩) hHeld ?_ ?_;rotate_left
        ·rintro w' ⟨s0,s1,s2⟩
         go_simp;(with_reducible rfl)
        rotate_left
        ·simp only [Act.put,cT,cS,cU,bF,bG]
         rfl
        refine bZ (i:=10) (N:=some 29) (v:=?_) (a':=?_) (eB 19 2047) rfl rfl (bM HT_.out (by kernel_rfl)) (fun _ _ _ h => h) (Or.inl ⟨by rfl,?_⟩) ?_ ?_;rotate_left
        ·intro w'
         go_simp;(with_reducible rfl)
        rotate_left
        ·simp only [Act.put,cT,cS,cU,bF,bG]
         rfl
        refine bZ (i:=11) (N:=some 30) (v:=?_) (a':=?_) (eB 19 4095) rfl rfl (bM HT_.out (by kernel_rfl)) (fun _ _ _ h => h) (Or.inl ⟨by rfl,?_⟩) ?_ ?_;rotate_left
        ·intro w'
         go_simp;(with_reducible rfl)
        rotate_left
        ·simp only [Act.put,cT,cS,cU,bF,bG]
         rfl
        refine bZ (i:=12) (N:=some 31) (v:=?_) (a':=?_) (eB 19 8191) rfl rfl (bM HT_.out (by kernel_rfl)) (fun _ _ _ h => h) (Or.inl ⟨by rfl,?_⟩) ?_ ?_;rotate_left
        ·intro w'
         go_simp;(with_reducible rfl)
        rotate_left
        ·simp only [Act.put,cT,cS,cU,bF,bG]
         rfl
        refine EK (i:=13) (N:=some 32) (eB 19 16383) rfl rfl (jY HT_.out (by kernel_rfl)) (by decide) (fun K hK => ?_);refine DN Try.func26 (by kernel_rfl) rfl #[.agg #[.int .i64 (wrap64 (iF + 1)),.int .i64 aI,.slice bI (aQ.take ((ji8) : Int).toNat).length bH]] (by rfl) rfl rfl (by (try simp only [List.map_toArray,List.map_cons,List.map_nil]);first | done | (rw [show (aQ.take ((ji8) : Int).toNat).length = (ji8).toNat from (by rw [List.length_take];have h_ : ((ji8) : Int)≤(aQ.length : Int):=of_decide_eq_true mD;omega)] <;> rfl) | (simp only [aNu];rfl) | rfl | (simp only [List.length_drop,List.length_take];rfl)) ?_
        with_reducible refine (dZ.calls (wrap64 (iF + 1)) aI _ _ (aQ.take ((ji8) : Int).toNat) aCz aVR _ ?side1 ?side2 A11.out).mono ?_
        (case side1 => exact nY (Kd.cP aGh.out HB.out))
        (case side2 => exact aOM.out);rintro e w22 ⟨rfl,hb⟩;refine ⟨_,rfl,?_⟩;replace iW:=aA.mk (Kd.bV (dB iW.out) hb);replace eT:=aA.mk (aJ (cH eT) hb);replace HB:=aA.mk (aN (cL HB IH) hb);(try clear hb);(try clear hb2);(try clear hk);(try clear hi);refine hK.out _ _ ⟨(bB eT.out 0).trans rfl,(bB eT.out 1).trans rfl,(bB eT.out 2).trans rfl⟩ (fun hHeld => ?_);clear hK K;refine qL (a':=?_) ?_ ?_;rotate_left
        ·show Act.put _ (some 32) _ = _
         simp only [Act.put,cT,cS,cU,bF,bG];rfl
        refine bZ (i:=14) (N:=some 18) (v:=?_) (a':=?_) (eB 19 32767) rfl rfl (bM HT_.out (by kernel_rfl)) (fun _ _ _ h => h) (Or.inl ⟨by rfl,?_⟩) ?_ ?_;rotate_left
        ·intro w'
         go_simp;(with_reducible rfl)
        rotate_left
        ·simp only [Act.put,cT,cS,cU,bF,bG]
         rfl
        refine bZ (i:=15) (N:=some 33) (v:=?_) (a':=?_) (eB 19 65535) rfl rfl (bM HT_.out (by kernel_rfl)) (fun _ _ _ h => h) (Or.inl ⟨by rfl,?_⟩) ?_ ?_;rotate_left
        ·intro w'
         go_simp;(with_reducible rfl)
        rotate_left
        ·simp only [Act.put,cT,cS,cU,bF,bG]
         rfl
        refine bZ (i:=16) (N:=some 34) (v:=?_) (a':=?_) (eB 19 131071) rfl rfl (bM HT_.out (by kernel_rfl)) (fun _ _ _ h => h) (Or.inl ⟨by rfl,?_⟩) ?_ ?_;rotate_left
        ·intro w'
         go_simp;(with_reducible rfl)
        rotate_left
        ·simp only [Act.put,cT,cS,cU,bF,bG]
         rfl
        refine bZ (i:=17) (N:=some 7) (v:=?_) (a':=?_) (eB 19 262143) rfl rfl (bM HT_.out (by kernel_rfl)) (fun _ _ _ h => h) (Or.inl ⟨by rfl,?_⟩) ?_ ?_;rotate_left
        ·intro w'
         go_simp;(with_reducible rfl)
        rotate_left
        ·simp only [Act.put,cT,cS,cU,bF,bG]
         rfl
        refine bZ (i:=18) (N:=some 8) (v:=?_) (a':=?_) (eB 19 524287) rfl rfl (bM HT_.out (by kernel_rfl)) (fun _ _ _ h => h) (Or.inl ⟨by rfl,?_⟩) ?_ ?_;rotate_left
        ·intro w'
         go_simp;(with_reducible rfl)
        rotate_left
        ·simp only [Act.put,cT,cS,cU,bF,bG]
         rfl
        refine wV (oD HT_.out (by kernel_rfl)) ?_
        try go_wp2
        go_roundg k1
        case measure => have:=yS.out;omega
        case rel => exact ⟨(iI),(iH),(wrap64 (iF + 1)),mU,mU,H',⟨by have:=yS.out;omega⟩,⟨dB iW.out⟩,⟨gP eT.out⟩,⟨cL HB IH⟩⟩
      ·rw [if_neg QW] at H
       exact absurd H (by simp)
     ·rw [if_neg c9] at H
      exact absurd H (by simp)
    ·rw [if_neg c7] at H
     have bFC : decide (iF < aK) = false:=decide_eq_false c7;clear c7;simp only [Option.some.injEq,Prod.mk.injEq] at H;obtain ⟨rfl,rfl⟩:=H;have LK:=bL eT 0 (.int .i64 aK) rfl;have LJ:=bL eT 1 (.int .i64 aI) rfl;have LI:=bL eT 2 (.slice bI aQ.length bH) rfl;have LH:=aC eT.out 0;have LG:=aC eT.out 1;have LF:=aC eT.out 2
     go_wp2
     go_ret2
     exact ⟨_,tZ,dB iW.out,cL HB IH⟩
 ·replace c3:=Bool.eq_false_iff.mpr c3
  subst c3;have H1 : (some (([] : List Int),3)) = some (r1,r2):=by rw [if_neg (show ¬ (false = true) by decide)] at H;exact H
  clear H;have H:=H1;clear H1;simp only [Option.some.injEq,Prod.mk.injEq] at H;obtain ⟨rfl,rfl⟩:=H;go_enter Try.func61,Try.ntmps61;go_wp2_with (first | ((with_reducible refine bK (N:=1) rfl ?_);refine lS (N:=1) (cs:=#[.int .i64 aK,.int .i64 aI,.slice bI aQ.length bH]) (t:=24) ?_;intro HQ hg w24 hbox hb;have eT:=aA.mk (hbox);have aZR:=aA.mk (eP hg (cX HB) : w.heap.size≤HQ);have IH:=aA.mk (eP hg (cX HB) : w.heap.size≤HQ);replace HB:=aA.mk (aN (cX HB) hb);clear hb hbox hg;have vV:=bL eT 0 (.int .i64 aK) rfl;have vU:=bL eT 1 (.int .i64 aI) rfl;have vT:=bL eT 2 (.slice bI aQ.length bH) rfl;have vM:=aC eT.out 0;have vL:=aC eT.out 1;have vK:=aC eT.out 2) | ((with_reducible refine bE (f:=17) rfl ?_);refine cO (some 10) rfl rfl Try.func17 (by kernel_rfl) rfl #[.agg #[.int .i64 aK,.int .i64 aI,.slice bI aQ.length bH]] rfl lU ?_;(with_reducible refine (bA.calls aK aI _ _ aQ false _ ?side1 ?side2 A2.out).mono ?_);(case side1 => exact nY (Kd.cP dY.out HB.out));(case side2 => exact eC.out);rintro e w26 ⟨rfl,hb⟩;refine ⟨_,rfl,?_⟩;replace eT:=aA.mk (aJ (cH eT) hb);replace HB:=aA.mk (aN (cL HB IH) hb);(try clear hb);(try clear hb2);(try clear hk);(try clear hi)))
  go_ret2
  exact ⟨_,tZ,IW,cL HB IH⟩
end Go.Proofs.Yteofcbkjhdadpaa.Pr
