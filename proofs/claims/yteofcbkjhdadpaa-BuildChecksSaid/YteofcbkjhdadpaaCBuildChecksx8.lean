import Derived.Test.YteofcbkjhdadpaaCBuildChecksx0
import Derived.Test.YteofcbkjhdadpaaCBuildChecksx1
import Derived.Test.YteofcbkjhdadpaaCBuildChecksx2
import Derived.Test.YteofcbkjhdadpaaCBuildChecksq
set_option maxHeartbeats 8000000
set_option maxRecDepth 100000
set_option linter.unusedSimpArgs false
set_option linter.unusedVariables false
namespace Go.Proofs.Yteofcbkjhdadpaa.Pr
open Go.RowKit Go.Proofs.aH.bJ Go.Proofs.aH.eI Go.Proofs.aH.fW
attribute [local go_sem] iN iL kP kO gK gJ iM iK   -- for this text's walks alone
mutual
def aX.j0 : Nat→Bool→Int→Int→List Int→Int→Int→List Int→Option (Int×Int×List Int×Int)
 | 0,_,_,_,_,_,_,_ => none
 | k + 1,x24,tF,uV,xX,xW,tE,xV => if x24 = true then (some (0,0,([] : List Int),3)) else ((gH.f tF tE).bind fun aAa => (aX.l0 k 0 tF uV xX xW tE xV aAa.1 aAa.2.1 aAa.2.2))
def aX.l0 : Nat→Int→Int→Int→List Int→Int→Int→List Int→Int→Int→List Int→Option (Int×Int×List Int×Int)
 | 0,_,_,_,_,_,_,_,_,_,_ => none
 | k + 1,x7,tF,uV,xX,xW,tE,xV,CR,tD,xU => if x7 < tF then (aX.l1 k x7 0 tF uV xX xW tE xV CR tD xU) else (some (CR,tD,xU,0))
def aX.l1 : Nat→Int→Int→Int→Int→List Int→Int→Int→List Int→Int→Int→List Int→Option (Int×Int×List Int×Int)
 | 0,_,_,_,_,_,_,_,_,_,_,_ => none
 | k + 1,x7,x8,tF,uV,xX,xW,tE,xV,CR,tD,xU => if x8 < tE then (aX.l2 k x7 x8 0 tF uV xX xW tE xV CR tD xU) else (aX.l0 k (wrap64 (x7 + 1)) tF uV xX xW tE xV CR tD xU)
def aX.l2 : Nat→Int→Int→Int→Int→Int→List Int→Int→Int→List Int→Int→Int→List Int→Option (Int×Int×List Int×Int)
 | 0,_,_,_,_,_,_,_,_,_,_,_,_ => none
 | k + 1,x7,x8,x9,tF,uV,xX,xW,tE,xV,CR,tD,xU => if x9 < uV then (if 0≤(wrap64 ((wrap64 (x7 * tD)) + x8)) then (if (wrap64 ((wrap64 (x7 * tD)) + x8)) < (xU.length : Int) then ((cF.f tF uV xX x7 x9).bind fun aCH => ((cF.f xW tE xV x9 x8).bind fun aAN => ((dD.f aCH aAN).bind fun UY => (aX.l2 k x7 x8 (wrap64 (x9 + 1)) tF uV xX xW tE xV CR tD (xU.set ((wrap64 ((wrap64 (x7 * tD)) + x8)) : Int).toNat (Go.bits .xor .u8 (rd xU (wrap64 ((wrap64 (x7 * tD)) + x8))) UY)))))) else (none)) else (none)) else (aX.l1 k x7 (wrap64 (x8 + 1)) tF uV xX xW tE xV CR tD xU)
end
def aX.f (k : Nat) (aK : Int) (aI : Int) (aQ : List Int) (fS : Int) (fR : Int) (fZ : List Int) : Option (Int×Int×List Int×Int):=(bA.f aK aI aQ).bind fun aKs => (if aKs = true then ((bA.f fS fR fZ).bind fun aAO => (if aAO = true then (aX.j0 k (aI != fS) aK aI aQ fS fR fZ) else (aX.j0 k true aK aI aQ fS fR fZ))) else (aX.j0 k true aK aI aQ fS fR fZ))
def aX.T13 : Bool×List (List Nat×List Nat):=(true,[([],[]),([0],[0]),([],[]),([],[]),([3],[3]),([2,4],[2,4]),([],[]),([5,6],[5,6]),([1,7],[1,7]),([8],[8]),([],[]),([],[]),([],[]),([10,11,12],[10,11,12]),([],[]),([],[]),([],[]),([14,15,16,13],[14,15,16]),([13,17,17],[13,17]),([9,18],[9,18]),([1,7,0,1,2,3,4,5,6,7,8,9,10,11,12,13,14,15,16,17,18,19],[1,7]),([20,19,18,0,1,2,3,4,5,6,7,8,9,10,11,12,13,14,15,16,17,18,19],[19,20])])
def aX.B13 : List Nat:=[0,1,0,0,8,28,0,124,255,511,0,0,0,7168,0,0,0,130048,261120,524287,1048575,2097151]
theorem aX.aMi : rV .any (opsOf Try.f53 13) = aX.T13:=by kernel_rfl
theorem aX.aHD : nB aX.T13.2 aX.B13 = true:=by kernel_rfl
theorem aX.calls (k : Nat) (aK : Int) (aI : Int) (bI : Option Addr) (bH : Nat) (aQ : List Int) (fS : Int) (fR : Int) (wQ : Option Addr) (wF : Nat) (fZ : List Int) (r1 : Int) (r2 : Int) (r3 : List Int) (r4 : Int) (w : World) (hr0_2 : Kd.C (Kd.int .u8) w bI aQ.length aQ) (hc0_2 : aQ.length≤bH) (hr1_2 : Kd.C (Kd.int .u8) w wQ fZ.length fZ) (hc1_2 : fZ.length≤wF) (h : aX.f k aK aI aQ fS fR fZ = some (r1,r2,r3,r4)) :
  Calls Try.prog 53 #[.agg #[.int .i64 aK,.int .i64 aI,.slice bI aQ.length bH],.agg #[.int .i64 fS,.int .i64 fR,.slice wQ fZ.length wF]] w fun e w' => ∃ uT : Value,e = .returned (.tuple #[.agg #[.int .i64 r1,.int .i64 r2,uT],.int .i64 r4])∧Kd.R (Kd.int .u8) 5 w' w.heap.size (fun _ => True) uT r3∧Below w.heap.size w w':=by
 have zL:=Try.underlying24;have dY:=aA.mk hr0_2;have eC:=aA.mk hc0_2;clear hr0_2 hc0_2;have aGi:=aA.mk hr1_2;have aGn:=aA.mk hc1_2;clear hr1_2 hc1_2;have HB:=aA.mk (Below.refl w.heap.size w);have H : ((bA.f aK aI aQ).bind fun aKs => (if aKs = true then ((bA.f fS fR fZ).bind fun aAO => (if aAO = true then (aX.j0 k (aI != fS) aK aI aQ fS fR fZ) else (aX.j0 k true aK aI aQ fS fR fZ))) else (aX.j0 k true aK aI aQ fS fR fZ))) = some (r1,r2,r3,r4):=h;clear h;have HC3:=aA.mk H;clear H;go_enter Try.func53,Try.ntmps53;go_upto_region 1 with (first | ((with_reducible refine bK (N:=2) rfl ?_);refine lS (N:=2) (cs:=#[.int .i64 aK,.int .i64 aI,.slice bI aQ.length bH]) (t:=24) ?_;intro QR hg w4 hbox hb;have cW:=aA.mk (hbox);have bHz:=aA.mk (eP hg (cX HB) : w.heap.size≤QR);have nX:=aA.mk (eP hg (cX HB) : w.heap.size≤QR);replace HB:=aA.mk (aN (cX HB) hb);clear hb hbox hg) | ((with_reducible refine bK (N:=3) rfl ?_);refine lS (N:=3) (cs:=#[.int .i64 fS,.int .i64 fR,.slice wQ fZ.length wF]) (t:=24) ?_;intro QQ hg w5 hbox hb;have dL:=aA.mk (hbox);have bHy:=aA.mk (eP hg (cL HB nX) : w.heap.size≤QQ);have pH:=aA.mk (eP hg (cL HB nX) : w.heap.size≤QQ);replace HB:=aA.mk (aN (cL HB nX) hb);have qB:=aA.mk (sU hg (cH cW));have qA:=aA.mk (sV hg (cH cW));replace cW:=aA.mk (aJ (cH cW) hb);clear hb hbox hg) | ((with_reducible refine bK (N:=4) rfl ?_);refine lS (N:=4) (cs:=#[.int .i64 0,.int .i64 0,.slice none 0 0]) (t:=24) ?_;intro JM hg w6 hbox hb;have gC:=aA.mk (hbox);have bHx:=aA.mk (eP hg (dA HB nX pH) : w.heap.size≤JM);have rO:=aA.mk (eP hg (dA HB nX pH) : w.heap.size≤JM);replace HB:=aA.mk (aN (dA HB nX pH) hb);have sL:=aA.mk (sU hg (cH cW));have sK:=aA.mk (sV hg (cH cW));replace cW:=aA.mk (aJ (cH cW) hb);have xQ:=aA.mk (sU hg (cH dL));have xO:=aA.mk (sV hg (cH dL));replace dL:=aA.mk (aJ (cH dL) hb);clear hb hbox hg))
 (try simp only [Act.put,cT,cS,cU])
 go_cut [24] (fun v24 wc => ∃ (kq : Nat) (OU : Bool),v24 = .bool OU∧aA (aX.j0 kq OU aK aI aQ fS fR fZ = some (r1,r2,r3,r4))∧aA (kq≤k)∧aA (wc.heap[QR]? = some (.cells #[.int .i64 aK,.int .i64 aI,(.slice bI aQ.length bH)] 24 (0,0)))∧aA (wc.heap[QQ]? = some (.cells #[.int .i64 fS,.int .i64 fR,(.slice wQ fZ.length wF)] 24 (0,0)))∧aA (wc.heap[JM]? = some (.cells #[.int .i64 0,.int .i64 0,(.slice none 0 0)] 24 (0,0)))∧aA (Below w.heap.size w wc))
 case first =>
  have H:=HC3.out;clear HC3;replace H:=Option.bind_eq_some_iff.mp H;obtain ⟨aKs,A70,H⟩:=H;replace H : (if aKs = true then ((bA.f fS fR fZ).bind fun aAO => (if aAO = true then (aX.j0 k (aI != fS) aK aI aQ fS fR fZ) else (aX.j0 k true aK aI aQ fS fR fZ))) else (aX.j0 k true aK aI aQ fS fR fZ)) = some (r1,r2,r3,r4):=H;have A7:=aA.mk A70;clear A70
  by_cases c8 : aKs = true
  ·subst c8
   have H1 : ((bA.f fS fR fZ).bind fun aAO => (if aAO = true then (aX.j0 k (aI != fS) aK aI aQ fS fR fZ) else (aX.j0 k true aK aI aQ fS fR fZ))) = some (r1,r2,r3,r4):=by rw [if_pos rfl] at H;exact H
   clear H;have H:=H1;clear H1;replace H:=Option.bind_eq_some_iff.mp H;obtain ⟨aAO,A90,H⟩:=H;replace H : (if aAO = true then (aX.j0 k (aI != fS) aK aI aQ fS fR fZ) else (aX.j0 k true aK aI aQ fS fR fZ)) = some (r1,r2,r3,r4):=H;have A9:=aA.mk A90;clear A90
   by_cases QW : aAO = true
   ·subst QW
    have H1 : (aX.j0 k (aI != fS) aK aI aQ fS fR fZ) = some (r1,r2,r3,r4):=by rw [if_pos rfl] at H;exact H
    clear H;have H:=H1;clear H1;have H':=aA.mk H;clear H;have aFy:=qB.out;have aFv:=qA.out;have aNt:=sL.out;have aNo:=sK.out;have kW:=bL cW 0 (.int .i64 aK) rfl;have kV:=bL cW 1 (.int .i64 aI) rfl;have kU:=bL cW 2 (.slice bI aQ.length bH) rfl;have kT:=aC cW.out 0;have kS:=aC cW.out 1;have kR:=aC cW.out 2;go_wp2_with (first | ((with_reducible refine bE (f:=17) rfl ?_);refine cO (some 11) rfl rfl Try.func17 (by kernel_rfl) rfl #[.agg #[.int .i64 aK,.int .i64 aI,.slice bI aQ.length bH]] rfl lU ?_;(with_reducible refine (bA.calls aK aI _ _ aQ true _ ?side1 ?side2 A7.out).mono ?_);(case side1 => exact nY (Kd.cP dY.out HB.out));(case side2 => exact eC.out);rintro e w14 ⟨rfl,hb⟩;refine ⟨_,rfl,?_⟩;replace cW:=aA.mk (aJ (cH cW) hb);replace dL:=aA.mk (aJ (cH dL) hb);replace gC:=aA.mk (aJ (cH gC) hb);replace HB:=aA.mk (aN (fE HB nX pH rO) hb);(try clear hb);(try clear hb2);(try clear hk);(try clear hi);have aNs:=xQ.out;have aNn:=xO.out;have DL:=bL dL 0 (.int .i64 fS) rfl;have DK:=bL dL 1 (.int .i64 fR) rfl;have DJ:=bL dL 2 (.slice wQ fZ.length wF) rfl;have DE:=aC dL.out 0;have DD:=aC dL.out 1;have DC:=aC dL.out 2) | (go_at_call 17;(with_reducible refine (bA.calls fS fR _ _ fZ true _ ?side1 ?side2 A9.out).mono ?_);(case side1 => exact nY (Kd.cP aGi.out HB.out));(case side2 => exact aGn.out);rintro e w17 ⟨rfl,hb⟩;replace cW:=aA.mk (aJ (cH cW) hb);replace dL:=aA.mk (aJ (cH dL) hb);replace gC:=aA.mk (aJ (cH gC) hb);replace HB:=aA.mk (aN (fE HB nX pH rO) hb);(try clear hb);(try clear hb2);(try clear hk);(try clear hi);have yP:=bL cW 0 (.int .i64 aK) rfl;have yO:=bL cW 1 (.int .i64 aI) rfl;have yN:=bL cW 2 (.slice bI aQ.length bH) rfl;have yG:=aC cW.out 0;have yF:=aC cW.out 1;have yE:=aC cW.out 2;have mQ:=bL dL 0 (.int .i64 fS) rfl;have mP:=bL dL 1 (.int .i64 fR) rfl;have mO:=bL dL 2 (.slice wQ fZ.length wF) rfl;have mN:=aC dL.out 0;have mM:=aC dL.out 1;have mL:=aC dL.out 2))
    go_meet
    case rel => exact ⟨_,((aI != fS)),mU,H',⟨q_o⟩,⟨gP cW.out⟩,⟨gP dL.out⟩,⟨gP gC.out⟩,⟨fE HB nX pH rO⟩⟩
   ·replace QW:=Bool.eq_false_iff.mpr QW
    subst QW;have H1 : (aX.j0 k true aK aI aQ fS fR fZ) = some (r1,r2,r3,r4):=by rw [if_neg (show ¬ (false = true) by decide)] at H;exact H
    clear H;have H:=H1;clear H1;have H':=aA.mk H;clear H;have aXz:=qB.out;have aWU:=qA.out;have aSJ:=sL.out;have aSr:=sK.out;have DI:=bL cW 0 (.int .i64 aK) rfl;have DH:=bL cW 1 (.int .i64 aI) rfl;have DG:=bL cW 2 (.slice bI aQ.length bH) rfl;have DB:=aC cW.out 0;have DA:=aC cW.out 1;have CZ:=aC cW.out 2;go_wp2_with (first | ((with_reducible refine bE (f:=17) rfl ?_);refine cO (some 11) rfl rfl Try.func17 (by kernel_rfl) rfl #[.agg #[.int .i64 aK,.int .i64 aI,.slice bI aQ.length bH]] rfl lU ?_;(with_reducible refine (bA.calls aK aI _ _ aQ true _ ?side1 ?side2 A7.out).mono ?_);(case side1 => exact nY (Kd.cP dY.out HB.out));(case side2 => exact eC.out);rintro e w23 ⟨rfl,hb⟩;refine ⟨_,rfl,?_⟩;replace cW:=aA.mk (aJ (cH cW) hb);replace dL:=aA.mk (aJ (cH dL) hb);replace gC:=aA.mk (aJ (cH gC) hb);replace HB:=aA.mk (aN (fE HB nX pH rO) hb);(try clear hb);(try clear hb2);(try clear hk);(try clear hi);have aSI:=xQ.out;have aSq:=xO.out;have vV:=bL dL 0 (.int .i64 fS) rfl;have vU:=bL dL 1 (.int .i64 fR) rfl;have vT:=bL dL 2 (.slice wQ fZ.length wF) rfl;have vM:=aC dL.out 0;have vL:=aC dL.out 1;have vK:=aC dL.out 2) | (go_at_call 17;(with_reducible refine (bA.calls fS fR _ _ fZ false _ ?side1 ?side2 A9.out).mono ?_);(case side1 => exact nY (Kd.cP aGi.out HB.out));(case side2 => exact aGn.out);rintro e w26 ⟨rfl,hb⟩;replace cW:=aA.mk (aJ (cH cW) hb);replace dL:=aA.mk (aJ (cH dL) hb);replace gC:=aA.mk (aJ (cH gC) hb);replace HB:=aA.mk (aN (fE HB nX pH rO) hb);(try clear hb);(try clear hb2);(try clear hk);(try clear hi)))
    go_meet
    case rel => exact ⟨_,(true),mU,H',⟨q_o⟩,⟨gP cW.out⟩,⟨gP dL.out⟩,⟨gP gC.out⟩,⟨fE HB nX pH rO⟩⟩
  ·replace c8:=Bool.eq_false_iff.mpr c8
   subst c8;have H1 : (aX.j0 k true aK aI aQ fS fR fZ) = some (r1,r2,r3,r4):=by rw [if_neg (show ¬ (false = true) by decide)] at H;exact H
   clear H;have H:=H1;clear H1;have H':=aA.mk H;clear H;have aSG:=qB.out;have aSo:=qA.out;have aXx:=sL.out;have aWS:=sK.out;have GN:=bL cW 0 (.int .i64 aK) rfl;have GM:=bL cW 1 (.int .i64 aI) rfl;have GL:=bL cW 2 (.slice bI aQ.length bH) rfl;have GH:=aC cW.out 0;have GG:=aC cW.out 1;have GF:=aC cW.out 2;go_wp2_with (first | ((with_reducible refine bE (f:=17) rfl ?_);refine cO (some 11) rfl rfl Try.func17 (by kernel_rfl) rfl #[.agg #[.int .i64 aK,.int .i64 aI,.slice bI aQ.length bH]] rfl lU ?_;(with_reducible refine (bA.calls aK aI _ _ aQ false _ ?side1 ?side2 A7.out).mono ?_);(case side1 => exact nY (Kd.cP dY.out HB.out));(case side2 => exact eC.out);rintro e w30 ⟨rfl,hb⟩;refine ⟨_,rfl,?_⟩;replace cW:=aA.mk (aJ (cH cW) hb);replace dL:=aA.mk (aJ (cH dL) hb);replace gC:=aA.mk (aJ (cH gC) hb);replace HB:=aA.mk (aN (fE HB nX pH rO) hb);(try clear hb);(try clear hb2);(try clear hk);(try clear hi)))
   go_meet
   case rel => exact ⟨_,(true),mU,H',⟨q_o⟩,⟨gP cW.out⟩,⟨gP dL.out⟩,⟨gP gC.out⟩,⟨fE HB nX pH rO⟩⟩
 case rest =>
  clear HC3;(try clear c1);(try clear c2);(try clear p2);(try clear c5);(try clear c8);(try clear QW);(try clear DR);(try clear yR);(try clear c15);(try clear IU);(try clear NY);(try clear DQ);(try clear XM);(try clear c27);(try clear c28);(try clear kW);(try clear kV);(try clear kU);(try clear DL);(try clear DK);(try clear DJ);(try clear yP);(try clear yO);(try clear yN);(try clear mQ);(try clear mP);(try clear mO);(try clear DI);(try clear DH);(try clear DG);(try clear vV);(try clear vU);(try clear vT);(try clear GN);(try clear GM);(try clear GL);(try clear kT);(try clear kS);(try clear kR);(try clear DE);(try clear DD);(try clear DC);(try clear yG);(try clear yF);(try clear yE);(try clear mN);(try clear mM);(try clear mL);(try clear DB);(try clear DA);(try clear CZ);(try clear vM);(try clear vL);(try clear vK);(try clear GH);(try clear GG);(try clear GF);obtain ⟨kq,OU,rfl,HA,HJ2,cW,dL,gC,HB⟩:=hcut
  cases kq with
  | zero => exact absurd HA.out (by simp [aX.j0])
  | succ kj2 =>
   have H:=HA.out;clear HA;simp only [aX.j0] at H
   by_cases IT : OU = true
   ·subst IT
    have H1 : (some (0,0,([] : List Int),3)) = some (r1,r2,r3,r4):=by rw [if_pos rfl] at H;exact H
    clear H;have H:=H1;clear H1;simp only [Option.some.injEq,Prod.mk.injEq] at H;obtain ⟨rfl,rfl,rfl,rfl⟩:=H;have aNq:=sK.out;have aNl:=sL.out;have aFw:=xO.out;have aFt:=xQ.out;have yM:=bL gC 0 (.int .i64 0) rfl;have yL:=bL gC 1 (.int .i64 0) rfl;have yK:=bL gC 2 (.slice none 0 0) rfl;have yD:=aC gC.out 0;have yC:=aC gC.out 1;have yB:=aC gC.out 2
    go_wp2
    refine bodyPost_ret (dU rfl _ _ JM 24 #[.int .i64 0,.int .i64 0,.slice none 0 0] (0,0) _ rfl (by (with_reducible repeat first | apply aE | apply aG | apply aD);refine aZ (cs:=#[.int .i64 0,.int .i64 0,.slice none 0 0]) ?_ 2 _ rfl;(with_reducible repeat first | apply aE | apply aG | apply aD);refine aZ (cs:=#[.int .i64 0,.int .i64 0,.slice none 0 0]) ?_ 1 _ rfl;(with_reducible repeat first | apply aE | apply aG | apply aD);refine aZ (cs:=#[.int .i64 0,.int .i64 0,.slice none 0 0]) ?_ 0 _ rfl;(with_reducible repeat first | apply aE | apply aG | apply aD);exact gC.out) Try.underlying24 rfl (by kernel_rfl)) rfl ?_;exact ⟨_,tZ,IW,fE HB nX pH rO⟩
   ·replace IT:=Bool.eq_false_iff.mpr IT
    subst IT;have H1 : ((gH.f aK fR).bind fun aAa => (aX.l0 kj2 0 aK aI aQ fS fR fZ aAa.1 aAa.2.1 aAa.2.2)) = some (r1,r2,r3,r4):=by rw [if_neg (show ¬ (false = true) by decide)] at H;exact H
    clear H;have H:=H1;clear H1;replace H:=Option.bind_eq_some_iff.mp H;obtain ⟨⟨CE,CD,aMm⟩,bAL,H⟩:=H;replace H : (aX.l0 kj2 0 aK aI aQ fS fR fZ CE CD aMm) = some (r1,r2,r3,r4):=H;have A35:=aA.mk bAL;clear bAL;have H':=aA.mk H;clear H;have aSE:=qB.out;have aSm:=qA.out;have aSD:=sL.out;have aSl:=sK.out;have WY:=bL cW 0 (.int .i64 aK) rfl;have WX:=bL cW 1 (.int .i64 aI) rfl;have WW:=bL cW 2 (.slice bI aQ.length bH) rfl;have WE:=aC cW.out 0;have WD:=aC cW.out 1;have WC:=aC cW.out 2;have bGM:=xQ.out;have bGt:=xO.out;have aEf:=bL dL 0 (.int .i64 fS) rfl;have aEe:=bL dL 1 (.int .i64 fR) rfl;have aEd:=bL dL 2 (.slice wQ fZ.length wF) rfl;have aDB:=aC dL.out 0;have aDA:=aC dL.out 1;have aDz:=aC dL.out 2;go_wp2_with (first | ((with_reducible refine bE (f:=45) rfl ?_);refine cO (some 30) rfl rfl Try.func45 (by kernel_rfl) rfl #[.int .i64 aK,.int .i64 fR] rfl lU ?_;(with_reducible refine (gH.calls aK fR CE CD aMm _ A35.out).mono ?_);rintro e w41 ⟨bIq,rfl,ho0,hb⟩;refine ⟨_,rfl,?_⟩;have aJQ:=aA.mk (Kd.dI ho0 (bR (fE HB nX pH rO)));replace cW:=aA.mk (aJ (cH cW) hb);replace dL:=aA.mk (aJ (cH dL) hb);replace gC:=aA.mk (aJ (cH gC) hb);replace HB:=aA.mk (aN (fE HB nX pH rO) hb);(try clear hb);(try clear hb2);(try clear hk);(try clear hi);(try clear ho0)) | ((with_reducible refine bK (N:=6) rfl ?_);refine lS (N:=6) (cs:=#[.int .i64 0,.int .i64 0,.slice none 0 0]) (t:=24) ?_;intro JL hg w42 hbox hb;replace aJQ:=aA.mk (Kd.bV (dB aJQ.out) hb);have iT:=aA.mk (hbox);have bHw:=aA.mk (eP hg (fE HB nX pH rO) : w.heap.size≤JL);have RF:=aA.mk (eP hg (fE HB nX pH rO) : w.heap.size≤JL);replace HB:=aA.mk (aN (fE HB nX pH rO) hb);have uO:=aA.mk (sU hg (cH cW));have FB:=aA.mk (sV hg (cH cW));replace cW:=aA.mk (aJ (cH cW) hb);have xP:=aA.mk (sU hg (cH dL));have LV:=aA.mk (sV hg (cH dL));replace dL:=aA.mk (aJ (cH dL) hb);have FC:=aA.mk (sU hg (cH gC));have aCd:=aA.mk (sV hg (cH gC));replace gC:=aA.mk (aJ (cH gC) hb);clear hb hbox hg;have aXq:=FB.out;have aWL:=uO.out;have aSB:=LV.out;have aSj:=xP.out;have bGL:=aCd.out;have bGs:=FC.out;have aEc:=bL iT 0 (.int .i64 0) rfl;have aEb:=bL iT 1 (.int .i64 0) rfl;have aEa:=bL iT 2 (.slice none 0 0) rfl;have aDy:=aC iT.out 0;have aDx:=aC iT.out 1;have aDw:=aC iT.out 2;obtain ⟨bAw,aYJ,eo47⟩:=Kd.cK aJQ.out;subst eo47))
    go_loopg [7] kj2 (fun kq v7 w' => ∃ (iG : Int) (AS : List Int) (oC : Value),v7 = .int .i64 iG∧aA (aX.l0 kq iG aK aI aQ fS fR fZ CE CD AS = some (r1,r2,r3,r4))∧aA (kq≤kj2)∧aA (Kd.R (Kd.int .u8) 5 w' w.heap.size (fun _ => True) oC AS)∧aA (w'.heap[QR]? = some (.cells #[.int .i64 aK,.int .i64 aI,(.slice bI aQ.length bH)] 24 (0,0)))∧aA (w'.heap[QQ]? = some (.cells #[.int .i64 fS,.int .i64 fR,(.slice wQ fZ.length wF)] 24 (0,0)))∧aA (w'.heap[JM]? = some (.cells #[.int .i64 0,.int .i64 0,(.slice none 0 0)] 24 (0,0)))∧aA (w'.heap[JL]? = some (.cells #[.int .i64 CE,.int .i64 CD,oC] 24 (0,0)))∧aA (Below w.heap.size w w'))
    case atStart => exact ⟨(0),(aMm),(.slice bAw aMm.length aYJ),mU,H',⟨Nat.le_refl _⟩,⟨by (with_reducible repeat first | apply Kd.bX | apply Kd.bW | apply Kd.bP);exact Kd.cC (Kd.cY (p:=⟨JL,2,none⟩) (Kd.cY (p:=⟨JL,1,none⟩) (Kd.cY (p:=⟨JL,0,none⟩) (Kd.dM aJQ.out iT.out (by decide)) (fun _ hk => hk.2) (.int .i64 CE)) (fun _ hk => hk.2) (.int .i64 CD)) (fun _ hk => hk.2) (.slice bAw aMm.length aYJ)) (fun _ hk => trivial)⟩,⟨by (with_reducible repeat first | apply aE | apply aG | apply aD);refine aV ?_ uO.out _;(with_reducible repeat first | apply aE | apply aG | apply aD);refine aV ?_ uO.out _;(with_reducible repeat first | apply aE | apply aG | apply aD);refine aV ?_ uO.out _;(with_reducible repeat first | apply aE | apply aG | apply aD);exact cW.out⟩,⟨by (with_reducible repeat first | apply aE | apply aG | apply aD);refine aV ?_ xP.out _;(with_reducible repeat first | apply aE | apply aG | apply aD);refine aV ?_ xP.out _;(with_reducible repeat first | apply aE | apply aG | apply aD);refine aV ?_ xP.out _;(with_reducible repeat first | apply aE | apply aG | apply aD);exact dL.out⟩,⟨by (with_reducible repeat first | apply aE | apply aG | apply aD);refine aV ?_ FC.out _;(with_reducible repeat first | apply aE | apply aG | apply aD);refine aV ?_ FC.out _;(with_reducible repeat first | apply aE | apply aG | apply aD);refine aV ?_ FC.out _;(with_reducible repeat first | apply aE | apply aG | apply aD);exact gC.out⟩,⟨by (with_reducible repeat first | apply aE | apply aG | apply aD);refine aZ (cs:=#[.int .i64 CE,.int .i64 CD,.slice none 0 0]) ?_ 2 _ rfl;(with_reducible repeat first | apply aE | apply aG | apply aD);refine aZ (cs:=#[.int .i64 CE,.int .i64 0,.slice none 0 0]) ?_ 1 _ rfl;(with_reducible repeat first | apply aE | apply aG | apply aD);refine aZ (cs:=#[.int .i64 0,.int .i64 0,.slice none 0 0]) ?_ 0 _ rfl;(with_reducible repeat first | apply aE | apply aG | apply aD);exact iT.out⟩,⟨oJ HB nX pH rO RF⟩⟩
    case round =>
     clear H';(try clear c1);(try clear c2);(try clear p2);(try clear c3);(try clear c4);(try clear c5);(try clear c8);(try clear QW);(try clear DR);(try clear yR);(try clear c15);(try clear IU);(try clear NY);(try clear DQ);(try clear XM);(try clear c27);(try clear c28);(try clear IT);(try clear c32);(try clear c33);(try clear c36);(try clear c37);(try clear c39);(try clear c43);(try clear XK);(try clear c45);(try clear kW);(try clear kV);(try clear kU);(try clear DL);(try clear DK);(try clear DJ);(try clear yP);(try clear yO);(try clear yN);(try clear mQ);(try clear mP);(try clear mO);(try clear DI);(try clear DH);(try clear DG);(try clear vV);(try clear vU);(try clear vT);(try clear GN);(try clear GM);(try clear GL);(try clear yM);(try clear yL);(try clear yK);(try clear WY);(try clear WX);(try clear WW);(try clear aEf);(try clear aEe);(try clear aEd);(try clear aEc);(try clear aEb);(try clear aEa);(try clear kT);(try clear kS);(try clear kR);(try clear DE);(try clear DD);(try clear DC);(try clear yG);(try clear yF);(try clear yE);(try clear mN);(try clear mM);(try clear mL);(try clear DB);(try clear DA);(try clear CZ);(try clear vM);(try clear vL);(try clear vK);(try clear GH);(try clear GG);(try clear GF)
     (try clear yD);(try clear yC);(try clear yB);(try clear WE);(try clear WD);(try clear WC);(try clear aDB);(try clear aDA);(try clear aDz);(try clear aDy);(try clear aDx);(try clear aDw);(try clear p2);obtain ⟨iG,AS,oC,rfl,HA,zU,fM,cW,dL,gC,iT,HB⟩:=hrel
     cases gk with
     | zero => exact absurd HA.out (by simp [aX.l0])
     | succ k2 =>
      have H:=HA.out;clear HA;simp only [aX.l0] at H
      by_cases RM : iG < aK
      ·rw [if_pos RM] at H
       have UE : decide (iG < aK) = true:=decide_eq_true RM;clear RM;have H':=aA.mk H;clear H;have bGJ:=qB.out;have bGq:=qA.out;have bGI:=sL.out;have bGp:=sK.out;have aSz:=uO.out;have aSh:=FB.out;have aDT:=bL cW 0 (.int .i64 aK) rfl;have aDS:=bL cW 1 (.int .i64 aI) rfl;have aDR:=bL cW 2 (.slice bI aQ.length bH) rfl;have aDp:=aC cW.out 0;have aDo:=aC cW.out 1;have aDn:=aC cW.out 2
       go_wp2
       go_loopg [8] k2 (fun kq v8 w' => ∃ (FP : Int) (EF : List Int) (oC : Value),v8 = .int .i64 FP∧aA (aX.l1 kq iG FP aK aI aQ fS fR fZ CE CD EF = some (r1,r2,r3,r4))∧aA (kq≤k2)∧aA (Kd.R (Kd.int .u8) 5 w' w.heap.size (fun _ => True) oC EF)∧aA (w'.heap[QR]? = some (.cells #[.int .i64 aK,.int .i64 aI,(.slice bI aQ.length bH)] 24 (0,0)))∧aA (w'.heap[QQ]? = some (.cells #[.int .i64 fS,.int .i64 fR,(.slice wQ fZ.length wF)] 24 (0,0)))∧aA (w'.heap[JM]? = some (.cells #[.int .i64 0,.int .i64 0,(.slice none 0 0)] 24 (0,0)))∧aA (w'.heap[JL]? = some (.cells #[.int .i64 CE,.int .i64 CD,oC] 24 (0,0)))∧aA (Below w.heap.size w w'))
       case atStart => exact ⟨(0),(AS),(oC),mU,H',⟨Nat.le_refl _⟩,⟨dB fM.out⟩,⟨gP cW.out⟩,⟨gP dL.out⟩,⟨gP gC.out⟩,⟨gP iT.out⟩,⟨oJ HB nX pH rO RF⟩⟩
       case round =>
        clear H';(try clear c1);(try clear c2);(try clear p2);(try clear c3);(try clear c4);(try clear c5);(try clear c8);(try clear QW);(try clear DR);(try clear yR);(try clear c15);(try clear IU);(try clear NY);(try clear DQ);(try clear XM);(try clear c27);(try clear c28);(try clear IT);(try clear c32);(try clear c33);(try clear c36);(try clear c37);(try clear c39);(try clear c43);(try clear XK);(try clear c45);(try clear RM);(try clear UE);(try clear c49);(try clear c50);(try clear c51);(try clear kW);(try clear kV);(try clear kU);(try clear DL);(try clear DK);(try clear DJ);(try clear yP);(try clear yO);(try clear yN);(try clear mQ);(try clear mP);(try clear mO);(try clear DI);(try clear DH);(try clear DG);(try clear vV);(try clear vU);(try clear vT);(try clear GN);(try clear GM);(try clear GL);(try clear yM);(try clear yL);(try clear yK);(try clear WY);(try clear WX);(try clear WW);(try clear aEf);(try clear aEe);(try clear aEd);(try clear aEc);(try clear aEb);(try clear aEa);(try clear aDT);(try clear aDS);(try clear aDR);(try clear kT);(try clear kS);(try clear kR);(try clear DE);(try clear DD);(try clear DC);(try clear yG);(try clear yF);(try clear yE);(try clear mN);(try clear mM);(try clear mL);(try clear DB);(try clear DA)
        (try clear CZ);(try clear vM);(try clear vL);(try clear vK);(try clear GH);(try clear GG);(try clear GF);(try clear yD);(try clear yC);(try clear yB);(try clear WE);(try clear WD);(try clear WC);(try clear aDB);(try clear aDA);(try clear aDz);(try clear aDy);(try clear aDx);(try clear aDw);(try clear aDp);(try clear aDo);(try clear aDn);(try clear p2);obtain ⟨FP,EF,oC,rfl,HA,OF,fM,cW,dL,gC,iT,HB⟩:=hrel
        cases gk with
        | zero => exact absurd HA.out (by simp [aX.l1])
        | succ k3 =>
         have H:=HA.out;clear HA;simp only [aX.l1] at H
         by_cases XJ : FP < fR
         ·rw [if_pos XJ] at H
          have JV : decide (FP < fR) = true:=decide_eq_true XJ;clear XJ;have H':=aA.mk H;clear H;have aNp:=qA.out;have aNk:=qB.out;have aXo:=xQ.out;have aWJ:=xO.out;have aSx:=xP.out;have aSf:=LV.out;have WS:=bL dL 0 (.int .i64 fS) rfl;have WR:=bL dL 1 (.int .i64 fR) rfl;have WQ:=bL dL 2 (.slice wQ fZ.length wF) rfl;have VY:=aC dL.out 0;have VX:=aC dL.out 1;have VW:=aC dL.out 2
          go_wp2
          go_loopg [9] k3 (fun kq v9 w' => ∃ (FO : Int) (fU : List Int) (oC : Value),v9 = .int .i64 FO∧aA (aX.l2 kq iG FP FO aK aI aQ fS fR fZ CE CD fU = some (r1,r2,r3,r4))∧aA (kq≤k3)∧aA (Kd.R (Kd.int .u8) 5 w' w.heap.size (fun _ => True) oC fU)∧aA (w'.heap[QR]? = some (.cells #[.int .i64 aK,.int .i64 aI,(.slice bI aQ.length bH)] 24 (0,0)))∧aA (w'.heap[QQ]? = some (.cells #[.int .i64 fS,.int .i64 fR,(.slice wQ fZ.length wF)] 24 (0,0)))∧aA (w'.heap[JM]? = some (.cells #[.int .i64 0,.int .i64 0,(.slice none 0 0)] 24 (0,0)))∧aA (w'.heap[JL]? = some (.cells #[.int .i64 CE,.int .i64 CD,oC] 24 (0,0)))∧aA (Below w.heap.size w w'))
          case atStart => exact ⟨(0),(EF),(oC),mU,H',⟨Nat.le_refl _⟩,⟨dB fM.out⟩,⟨gP cW.out⟩,⟨gP dL.out⟩,⟨gP gC.out⟩,⟨gP iT.out⟩,⟨oJ HB nX pH rO RF⟩⟩
          case round =>
           clear H';(try clear c1);(try clear c2);(try clear p2);(try clear c3);(try clear c4);(try clear c5);(try clear c8);(try clear QW);(try clear DR);(try clear yR);(try clear c15);(try clear IU);(try clear NY);(try clear DQ);(try clear XM);(try clear c27);(try clear c28);(try clear IT);(try clear c32);(try clear c33);(try clear c36);(try clear c37);(try clear c39);(try clear c43);(try clear XK);(try clear c45);(try clear RM);(try clear UE);(try clear c49);(try clear c50);(try clear c51);(try clear XJ);(try clear JV);(try clear c54);(try clear c55);(try clear c56);(try clear kW);(try clear kV);(try clear kU);(try clear DL);(try clear DK);(try clear DJ);(try clear yP);(try clear yO);(try clear yN);(try clear mQ);(try clear mP);(try clear mO);(try clear DI);(try clear DH);(try clear DG);(try clear vV);(try clear vU);(try clear vT);(try clear GN);(try clear GM);(try clear GL);(try clear yM);(try clear yL);(try clear yK);(try clear WY);(try clear WX);(try clear WW);(try clear aEf);(try clear aEe);(try clear aEd);(try clear aEc);(try clear aEb);(try clear aEa);(try clear aDT);(try clear aDS);(try clear aDR);(try clear WS);(try clear WR);(try clear WQ);(try clear kT);(try clear kS);(try clear kR);(try clear DE);(try clear DD);(try clear DC);(try clear yG)
           (try clear yF);(try clear yE);(try clear mN);(try clear mM);(try clear mL);(try clear DB);(try clear DA);(try clear CZ);(try clear vM);(try clear vL);(try clear vK);(try clear GH);(try clear GG);(try clear GF);(try clear yD);(try clear yC);(try clear yB);(try clear WE);(try clear WD);(try clear WC);(try clear aDB);(try clear aDA);(try clear aDz);(try clear aDy);(try clear aDx);(try clear aDw);(try clear aDp);(try clear aDo);(try clear aDn);(try clear VY);(try clear VX);(try clear VW);(try clear p2);obtain ⟨FO,fU,oC,rfl,HA,HK4,fM,cW,dL,gC,iT,HB⟩:=hrel
           cases gk with
           | zero => exact absurd HA.out (by simp [aX.l2])
           | succ k4 =>
            have H:=HA.out;clear HA;simp only [aX.l2] at H
            by_cases c58 : FO < aI
            ·rw [if_pos c58] at H
             have aYV : decide (FO < aI) = true:=decide_eq_true c58;clear c58;obtain ⟨kH,ZD⟩ : ∃ j_ : Int,(wrap64 ((wrap64 (iG * CD)) + FP)) = j_:=⟨_,rfl⟩
             replace H : (if 0≤(kH) then (if (kH) < (fU.length : Int) then ((cF.f aK aI aQ iG FO).bind fun aCH => ((cF.f fS fR fZ FO FP).bind fun aAN => ((dD.f aCH aAN).bind fun UY => (aX.l2 k4 iG FP (wrap64 (FO + 1)) aK aI aQ fS fR fZ CE CD (fU.set ((kH) : Int).toNat (Go.bits .xor .u8 (rd fU (kH)) UY)))))) else (none)) else (none)) = some (r1,r2,r3,r4):=by first | (rw [ZD] at H;exact H) | (simp only [ZD] at H ⊢;exact H)
             have aUB : (IntKind.i64.wrap ((wrap64 (iG * CD)) + FP)) = kH:=(bF _).trans ZD
             by_cases c60 : 0≤(kH)
             ·rw [if_pos c60] at H
              have aSU : decide (0≤(kH)) = true:=decide_eq_true c60;clear c60
              by_cases c61 : (kH) < (fU.length : Int)
              ·rw [if_pos c61] at H
               have aYU : decide ((kH) < (fU.length : Int)) = true:=decide_eq_true c61;clear c61;replace H:=Option.bind_eq_some_iff.mp H;obtain ⟨aCH,aPc,H⟩:=H;replace H : ((cF.f fS fR fZ FO FP).bind fun aAN => ((dD.f aCH aAN).bind fun UY => (aX.l2 k4 iG FP (wrap64 (FO + 1)) aK aI aQ fS fR fZ CE CD (fU.set ((kH) : Int).toNat (Go.bits .xor .u8 (rd fU (kH)) UY))))) = some (r1,r2,r3,r4):=H;have A62:=aA.mk aPc;clear aPc;replace H:=Option.bind_eq_some_iff.mp H;obtain ⟨aAN,aPb,H⟩:=H;replace H : ((dD.f aCH aAN).bind fun UY => (aX.l2 k4 iG FP (wrap64 (FO + 1)) aK aI aQ fS fR fZ CE CD (fU.set ((kH) : Int).toNat (Go.bits .xor .u8 (rd fU (kH)) UY)))) = some (r1,r2,r3,r4):=H;have A63:=aA.mk aPb;clear aPb;replace H:=Option.bind_eq_some_iff.mp H;obtain ⟨UY,bAH,H⟩:=H;replace H : (aX.l2 k4 iG FP (wrap64 (FO + 1)) aK aI aQ fS fR fZ CE CD (fU.set ((kH) : Int).toNat (Go.bits .xor .u8 (rd fU (kH)) UY))) = some (r1,r2,r3,r4):=H;have A64:=aA.mk bAH;clear bAH;obtain ⟨y288,hy288⟩ : ∃ y_ : List Int,y_ = (fU.set ((kH) : Int).toNat (Go.bits .xor .u8 (rd fU (kH)) UY)):=⟨_,rfl⟩
               replace H : (aX.l2 k4 iG FP (wrap64 (FO + 1)) aK aI aQ fS fR fZ CE CD y288) = some (r1,r2,r3,r4):=by first | (rw [hy288];with_reducible exact H) | (have H2_:=(Option.bind_some _ _).symm.trans H;rw [hy288];with_reducible exact H2_) | (have H2_:=(Option.bind_some _ _).symm.trans H;with_reducible exact H2_) | with_reducible exact H | (rw [hy288];exact H) | exact H
               have Ny288:=aA.mk hy288;clear hy288;have H':=aA.mk H;clear H;have aXk:=qB.out;have aWF:=qA.out;have bGA:=sL.out;have bGh:=sK.out;have aXj:=uO.out;have aWE:=FB.out;have bDi:=bL cW 0 (.int .i64 aK) rfl;have bDh:=bL cW 1 (.int .i64 aI) rfl;have bDg:=bL cW 2 (.slice bI aQ.length bH) rfl;have bBL:=aC cW.out 0;have bBK:=aC cW.out 1;have bBJ:=aC cW.out 2
               try go_wp2
               replace fM:=aA.mk (Kd.bP fM.out);replace cW:=aA.mk (aG cW.out);replace dL:=aA.mk (aG dL.out);replace gC:=aA.mk (aG gC.out);replace iT:=aA.mk (aG iT.out);replace HB:=aA.mk (eD HB.out);obtain ⟨bJx,aYE,eo71⟩:=Kd.cK fM.out
               (first | subst eo71 | (injection eo71 with f1_ f2_ f3_;have f4_:=f1_.symm;have f5_:=f3_.symm;clear f1_ f2_ f3_;subst f4_;subst f5_));have aUq : 0≤((kH) : Int):=of_decide_eq_true mD;have q284 : (kH) < (fU.length : Int):=of_decide_eq_true mD;obtain ⟨ad284,e284,hx284_0⟩:=Kd.mX (Kd.bQ fM.out).2.2 (kH) aUq q284
               cases e284
               replace aUq:=eq_true aUq;replace q284:=eq_true q284;refine qD (n:=22) (S:=fun w' => w'.cell? ⟨JL,0,none⟩ = some (.int .i64 CE)∧w'.cell? ⟨JL,1,none⟩ = some (.int .i64 CD)∧w'.cell? ⟨JL,2,none⟩ = some (.slice (some ad284) fU.length aYE)∧w'.cell? ⟨QR,0,none⟩ = some (.int .i64 aK)∧w'.cell? ⟨QR,1,none⟩ = some (.int .i64 aI)∧w'.cell? ⟨QR,2,none⟩ = some (.slice bI aQ.length bH)∧w'.cell? ⟨QQ,0,none⟩ = some (.int .i64 fS)∧w'.cell? ⟨QQ,1,none⟩ = some (.int .i64 fR)∧w'.cell? ⟨QQ,2,none⟩ = some (.slice wQ fZ.length wF)∧w'.cell? (ad284.add ((kH)).toNat) = some (.int .u8 (rd fU (kH)))) (ds:=[21]) #[false,false,false,false,false,false,false,false,false,false,false,false,false,false,false,false,false,false,false,false,false,false] (by kernel_rfl) rfl rfl ⟨(bB iT.out 0).trans rfl,(bB iT.out 1).trans rfl,(bB iT.out 2).trans rfl,(bB cW.out 0).trans rfl,(bB cW.out 1).trans rfl,(bB cW.out 2).trans rfl,(bB dL.out 0).trans rfl,(bB dL.out 1).trans rfl,(bB dL.out 2).trans rfl,hx284_0⟩ (fun hHeld => ?_);refine jR aX.aMi aX.aHD (fun HT_ HW_ => ?_);generalize wr.drew = w70 at fM cW dL gC iT HB hx284_0 hHeld ⊢;refine bZ (i:=0) (N:=some 49) (v:=?_) (a':=?_) (eB 22 1) rfl rfl (bM HT_.out (by kernel_rfl)) (fun _ _ _ h => h) (Or.inl ⟨by rfl,?_⟩) ?_ ?_
               rotate_left
               ·intro w'
                go_simp;(with_reducible rfl)
               rotate_left
               ·simp only [Act.put,cT,cS,cU,bF,bG]
                rfl
               refine bZ (i:=2) (N:=some 51) (v:=?_) (a':=?_) (eB 22 5) rfl rfl (bM HT_.out (by kernel_rfl)) (fun _ _ _ h => h) (Or.inl ⟨by rfl,?_⟩) ?_ ?_;rotate_left
               ·intro w'
                go_simp;(with_reducible rfl)
               rotate_left
               ·simp only [Act.put,cT,cS,cU,bF,bG]
                rfl
               refine bZ (i:=3) (N:=some 52) (v:=?_) (a':=?_) (eB 22 13) rfl rfl (bM HT_.out (by kernel_rfl)) (fun _ _ _ h => h) (Or.inl ⟨by rfl,?_⟩) ?_ ?_;rotate_left
               ·intro w'
                go_simp;(with_reducible rfl)
               rotate_left
               ·simp only [Act.put,cT,cS,cU,bF,bG]
                rfl
               refine bZ (i:=6) (N:=some 55) (v:=?_) (a':=?_) (eB 22 77) rfl rfl (bM HT_.out (by kernel_rfl)) (fun _ _ _ h => h) (Or.inl ⟨by rfl,?_⟩) ?_ ?_;rotate_left
               ·intro w'
                go_simp;(with_reducible rfl)
               rotate_left
               ·simp only [Act.put,cT,cS,cU,bF,bG]
                rfl
               refine bZ (i:=11) (N:=some 60) (v:=?_) (a':=?_) (eB 22 2125) rfl rfl (bM HT_.out (by kernel_rfl)) (fun _ _ _ h => h) (Or.inl ⟨by rfl,?_⟩) ?_ ?_;rotate_left
               ·intro w'
                go_simp;(with_reducible rfl)
               rotate_left
               ·simp only [Act.put,cT,cS,cU,bF,bG]
                rfl
               refine bZ (i:=12) (N:=some 61) (v:=?_) (a':=?_) (eB 22 6221) rfl rfl (bM HT_.out (by kernel_rfl)) (fun _ _ _ h => h) (Or.inl ⟨by rfl,?_⟩) ?_ ?_;rotate_left
               ·intro w'
                go_simp;(with_reducible rfl)
               rotate_left
               ·simp only [Act.put,cT,cS,cU,bF,bG]
                rfl
               refine bZ (i:=15) (N:=some 64) (v:=?_) (a':=?_) (eB 22 38989) rfl rfl (bM HT_.out (by kernel_rfl)) (fun _ _ _ h => h) (Or.inl ⟨by rfl,?_⟩) ?_ ?_;rotate_left
               ·intro w'
                go_simp;(with_reducible rfl)
               rotate_left
               ·simp only [Act.put,cT,cS,cU,bF,bG]
                rfl
               refine bZ (i:=16) (N:=some 65) (v:=?_) (a':=?_) (eB 22 104525) rfl rfl (bM HT_.out (by kernel_rfl)) (fun _ _ _ h => h) (Or.inl ⟨by rfl,?_⟩) ?_ ?_;rotate_left
               ·intro w'
                go_simp;(with_reducible rfl)
               rotate_left
               ·simp only [Act.put,cT,cS,cU,bF,bG]
                rfl
               refine gN (i:=1) (N:=some 50) (v:=?_) (a':=?_) (eB 22 104527) rfl rfl (dT HT_.out HW_.out (by kernel_rfl)) (fun _ _ _ h => h) (Or.inl ⟨by rfl,?_⟩) hHeld ?_ ?_;rotate_left
               ·rintro w' ⟨s0,s1,s2,s3,s4,s5,s6,s7,s8,s9⟩
                go_simp;(with_reducible rfl)
               rotate_left
               ·simp only [Act.put,cT,cS,cU,bF,bG]
                rfl
               refine gN (i:=4) (N:=some 53) (v:=?_) (a':=?_) (eB 22 104543) rfl rfl (dT HT_.out HW_.out (by kernel_rfl)) (fun _ _ _ h => h) (Or.inl ⟨by rfl,?_⟩) hHeld ?_ ?_;rotate_left
               ·rintro w' ⟨s0,s1,s2,s3,s4,s5,s6,s7,s8,s9⟩
                go_simp;(with_reducible rfl)
               rotate_left
               ·simp only [Act.put,cT,cS,cU,bF,bG]
                rfl
               refine bZ (i:=5) (N:=some 54) (v:=?_) (a':=?_) (eB 22 104575) rfl rfl (bM HT_.out (by kernel_rfl)) (fun _ _ _ h => h) (Or.inl ⟨by rfl,?_⟩) ?_ ?_;rotate_left
               ·intro w'
                go_simp;(with_reducible rfl)
               rotate_left
               ·simp only [Act.put,cT,cS,cU,bF,bG]
                rfl
               refine bZ (i:=7) (N:=some 56) (v:=?_) (a':=?_) (eB 22 104703) rfl rfl (bM HT_.out (by kernel_rfl)) (fun _ _ _ h => h) (Or.inl ⟨by rfl,?_⟩) ?_ ?_;rotate_left
               ·intro w'
                go_simp;(with_reducible rfl)
               rotate_left
               ·simp only [Act.put,cT,cS,cU,bF,bG]
                rfl
               refine bZ (i:=8) (N:=some 57) (v:=?_) (a':=?_) (eB 22 104959) rfl rfl (bM HT_.out (by kernel_rfl)) (fun _ _ _ h => h) (Or.inl ⟨by rfl,?_⟩) ?_ ?_;rotate_left
               ·intro w'
                go_simp;(with_reducible rfl)
               rotate_left
               ·simp only [Act.put,cT,cS,cU,bF,bG]
                rfl
               refine gN (i:=9) (N:=some 58) (v:=?_) (a':=?_) (eB 22 105471) rfl rfl (dT HT_.out HW_.out (by kernel_rfl)) (fun _ _ _ h => h) (Or.inl ⟨by rfl,?_⟩) hHeld ?_ ?_;rotate_left
               ·rintro w' ⟨s0,s1,s2,s3,s4,s5,s6,s7,s8,s9⟩
                go_simp;(with_reducible rfl)
               rotate_left
               ·simp only [Act.put,cT,cS,cU,bF,bG]
                rfl
               refine gN (i:=10) (N:=some 59) (v:=?_) (a':=?_) (eB 22 106495) rfl rfl (dT HT_.out HW_.out (by kernel_rfl)) (fun _ _ _ h => h) (Or.inl ⟨by rfl,?_⟩) hHeld ?_ ?_;rotate_left
               ·rintro w' ⟨s0,s1,s2,s3,s4,s5,s6,s7,s8,s9⟩
                go_simp;(with_reducible rfl)
               rotate_left
               ·simp only [Act.put,cT,cS,cU,bF,bG]
                rfl
               refine gN (i:=14) (N:=some 63) (v:=?_) (a':=?_) (eB 22 122879) rfl rfl (dT HT_.out HW_.out (by kernel_rfl)) (fun _ _ _ h => h) (Or.inl ⟨by rfl,?_⟩) hHeld ?_ ?_;rotate_left
               ·rintro w' ⟨s0,s1,s2,s3,s4,s5,s6,s7,s8,s9⟩
                go_simp;(with_reducible rfl)
               rotate_left
               ·simp only [Act.put,cT,cS,cU,bF,bG]
                rfl
               refine EK (i:=13) (N:=some 62) (eB 22 131071) rfl rfl (jY HT_.out (by kernel_rfl)) (by decide) (fun K hK => ?_);refine DN Try.func25 (by kernel_rfl) rfl #[.agg #[.int .i64 aK,.int .i64 aI,.slice bI aQ.length bH],.int .i64 iG,.int .i64 FO] (by rfl) rfl rfl lU ?_
               with_reducible refine (cF.calls aK aI _ _ aQ iG FO aCH _ ?side1 ?side2 A62.out).mono ?_
               (case side1 => exact nY (Kd.cP dY.out HB.out))
               (case side2 => exact eC.out);rintro e w72 ⟨rfl,hb⟩;have HS9_:=(hb.cell (World.block_lt_of_cell? _ _ (hHeld.2.2.2.2.2.2.2.2.2))).trans (hHeld.2.2.2.2.2.2.2.2.2);refine ⟨_,rfl,?_⟩;replace fM:=aA.mk (Kd.bV (dB fM.out) hb);replace cW:=aA.mk (aJ (cH cW) hb);replace dL:=aA.mk (aJ (cH dL) hb);replace gC:=aA.mk (aJ (cH gC) hb);replace iT:=aA.mk (aJ (cH iT) hb);replace HB:=aA.mk (aN (oJ HB nX pH rO RF) hb);(try clear hb);(try clear hb2);(try clear hk);(try clear hi);refine hK.out _ _ ⟨(bB iT.out 0).trans rfl,(bB iT.out 1).trans rfl,(bB iT.out 2).trans rfl,(bB cW.out 0).trans rfl,(bB cW.out 1).trans rfl,(bB cW.out 2).trans rfl,(bB dL.out 0).trans rfl,(bB dL.out 1).trans rfl,(bB dL.out 2).trans rfl,HS9_⟩ (fun hHeld => ?_);clear hK K;refine qL (a':=?_) ?_ ?_;rotate_left
               ·show Act.put _ (some 62) _ = _
                simp only [Act.put,cT,cS,cU,bF,bG];rfl
               refine EK (i:=17) (N:=some 66) (eB 22 262143) rfl rfl (jY HT_.out (by kernel_rfl)) (by decide) (fun K hK => ?_);refine DN Try.func25 (by kernel_rfl) rfl #[.agg #[.int .i64 fS,.int .i64 fR,.slice wQ fZ.length wF],.int .i64 FO,.int .i64 FP] (by rfl) rfl rfl lU ?_
               with_reducible refine (cF.calls fS fR _ _ fZ FO FP aAN _ ?side1 ?side2 A63.out).mono ?_
               (case side1 => exact nY (Kd.cP aGi.out HB.out))
               (case side2 => exact aGn.out);rintro e w73 ⟨rfl,hb⟩;have HS9_:=(hb.cell (World.block_lt_of_cell? _ _ (hHeld.2.2.2.2.2.2.2.2.2))).trans (hHeld.2.2.2.2.2.2.2.2.2);refine ⟨_,rfl,?_⟩;replace fM:=aA.mk (Kd.bV (dB fM.out) hb);replace cW:=aA.mk (aJ (cH cW) hb);replace dL:=aA.mk (aJ (cH dL) hb);replace gC:=aA.mk (aJ (cH gC) hb);replace iT:=aA.mk (aJ (cH iT) hb);replace HB:=aA.mk (aN (oJ HB nX pH rO RF) hb);(try clear hb);(try clear hb2);(try clear hk);(try clear hi);refine hK.out _ _ ⟨(bB iT.out 0).trans rfl,(bB iT.out 1).trans rfl,(bB iT.out 2).trans rfl,(bB cW.out 0).trans rfl,(bB cW.out 1).trans rfl,(bB cW.out 2).trans rfl,(bB dL.out 0).trans rfl,(bB dL.out 1).trans rfl,(bB dL.out 2).trans rfl,HS9_⟩ (fun hHeld => ?_);clear hK K;refine qL (a':=?_) ?_ ?_;rotate_left
               ·show Act.put _ (some 66) _ = _
                simp only [Act.put,cT,cS,cU,bF,bG];rfl
               refine EK (i:=18) (N:=some 67) (eB 22 524287) rfl rfl (jY HT_.out (by kernel_rfl)) (by decide) (fun K hK => ?_);refine DN Try.func24 (by kernel_rfl) rfl #[.int .u8 aCH,.int .u8 aAN] (by rfl) rfl rfl lU ?_
               with_reducible refine (dD.calls aCH aAN UY _ A64.out).mono ?_
               rintro e w' ⟨rfl,⟨nd,rfl⟩⟩;refine ⟨_,rfl,?_⟩;have p65 : 0≤((kH) : Int):=of_decide_eq_true mD;have q65 : ((kH) : Int) < ((fU.length : Int) : Int):=of_decide_eq_true mD;obtain ⟨go65,aYF,eo65,aYo,gl65,cl65,HG65⟩:=Kd.GV fM.out (by omega)
               (first | cases eo65 | (injection eo65 with ea_ en_ ec_;(first | subst ea_ | (injection ea_ with ea_;subst ea_));subst ec_;clear en_));have GB65:=aA.mk aYo;have GG65:=aA.mk HG65;clear aYo gl65 HG65
               (first | simp only [add_plain] at hx284_0 | skip);obtain ⟨hx65_0,hf65_0⟩:=Kd.pN 0 fM.out ((kH) : Int) p65 q65;replace p65:=eq_true p65;replace q65:=eq_true q65;have HP74:=Kd.OB fM.out ((kH) : Int) (Go.bits .xor .u8 (rd fU (kH)) UY);rw [← Ny288.out] at HP74;have HQ74:=aA.mk HP74;clear HP74;refine hK.out _ _ ⟨(bB iT.out 0).trans rfl,(bB iT.out 1).trans rfl,(bB iT.out 2).trans rfl,(bB cW.out 0).trans rfl,(bB cW.out 1).trans rfl,(bB cW.out 2).trans rfl,(bB dL.out 0).trans rfl,(bB dL.out 1).trans rfl,(bB dL.out 2).trans rfl,hHeld.2.2.2.2.2.2.2.2.2⟩ (fun hHeld => ?_);clear hK K;refine qL (a':=?_) ?_ ?_;rotate_left
               ·show Act.put _ (some 67) _ = _
                simp only [Act.put,cT,cS,cU,bF,bG];rfl
               refine bZ (i:=19) (N:=some 68) (v:=?_) (a':=?_) (eB 22 1048575) rfl rfl (bM HT_.out (by kernel_rfl)) (fun _ _ _ h => h) (Or.inl ⟨by rfl,?_⟩) ?_ ?_;rotate_left
               ·intro w'
                go_simp;(with_reducible rfl)
               rotate_left
               ·simp only [Act.put,cT,cS,cU,bF,bG]
                rfl
               refine bZ (i:=20) (N:=some 69) (v:=?_) (a':=?_) (eB 22 2097151) rfl rfl (bM HT_.out (by kernel_rfl)) (fun _ _ _ h => h) (Or.inl ⟨by rfl,?_⟩) ?_ ?_;rotate_left
               ·intro w'
                go_simp;(with_reducible rfl)
               rotate_left
               ·simp only [Act.put,cT,cS,cU,bF,bG]
                rfl
               refine PX (i:=21) (N:=none) (eB 22 4194303) rfl rfl (jY HT_.out (by kernel_rfl)) (by decide) (fun K hK => ?_);refine PG (w1:=?_) (by rfl) rfl ?_ ?_;rotate_left
               ·go_simp
                rfl
               refine hK.out _ _ ?_;clear hK K;refine wV (oD HT_.out (by kernel_rfl)) ?_
               try go_wp2
               go_roundg k4
               case measure => have:=HJ2.out;have:=zU.out;have:=OF.out;have:=HK4.out;omega
               case rel => exact ⟨(wrap64 (FO + 1)),(y288),(.slice (some ⟨go65,0,none⟩) fU.length aYE),mU,H',⟨by have:=HJ2.out;have:=zU.out;have:=OF.out;have:=HK4.out;omega⟩,⟨dB HQ74.out⟩,⟨by (with_reducible repeat first | apply aE | apply aG | apply aD);refine aV ?_ (by have h_:=Kd.iV fM.out cW.out (by decide);intro e_;exact h_ (by rw [e_];rfl)) _;(with_reducible repeat first | apply aE | apply aG | apply aD);exact cW.out⟩,⟨by (with_reducible repeat first | apply aE | apply aG | apply aD);refine aV ?_ (by have h_:=Kd.iV fM.out dL.out (by decide);intro e_;exact h_ (by rw [e_];rfl)) _;(with_reducible repeat first | apply aE | apply aG | apply aD);exact dL.out⟩,⟨by (with_reducible repeat first | apply aE | apply aG | apply aD);refine aV ?_ (by have h_:=Kd.iV fM.out gC.out (by decide);intro e_;exact h_ (by rw [e_];rfl)) _;(with_reducible repeat first | apply aE | apply aG | apply aD);exact gC.out⟩,⟨by (with_reducible repeat first | apply aE | apply aG | apply aD);refine aV ?_ (by have h_:=Kd.iV fM.out iT.out (by decide);intro e_;exact h_ (by rw [e_];rfl)) _;(with_reducible repeat first | apply aE | apply aG | apply aD);exact iT.out⟩,⟨aWj HB GB65 nX pH rO RF⟩⟩
              ·rw [if_neg c61] at H
               exact absurd H (by simp)
             ·rw [if_neg c60] at H
              exact absurd H (by simp)
            ·rw [if_neg c58] at H
             have aYV : decide (FO < aI) = false:=decide_eq_false c58;clear c58;have H':=aA.mk H;clear H;have aXd:=qB.out;have aWy:=qA.out;have aXc:=sL.out;have aWx:=sK.out;have bGy:=uO.out;have bGf:=FB.out;have bCQ:=bL cW 0 (.int .i64 aK) rfl;have bCP:=bL cW 1 (.int .i64 aI) rfl;have bCO:=bL cW 2 (.slice bI aQ.length bH) rfl;have bBt:=aC cW.out 0;have bBs:=aC cW.out 1;have bBr:=aC cW.out 2
             go_wp2
             go_roundg k4
             case measure => have:=HJ2.out;have:=zU.out;have:=OF.out;have:=HK4.out;omega
             case rel => exact ⟨(wrap64 (FP + 1)),(fU),(oC),mU,H',⟨by have:=HJ2.out;have:=zU.out;have:=OF.out;have:=HK4.out;omega⟩,⟨dB fM.out⟩,⟨gP cW.out⟩,⟨gP dL.out⟩,⟨gP gC.out⟩,⟨gP iT.out⟩,⟨oJ HB nX pH rO RF⟩⟩
         ·rw [if_neg XJ] at H
          have JV : decide (FP < fR) = false:=decide_eq_false XJ;clear XJ;have H':=aA.mk H;clear H;have aXb:=qA.out;have aWw:=qB.out;have aSw:=xQ.out;have aSe:=xO.out;have aSv:=xP.out;have aSd:=LV.out;have aIS:=bL dL 0 (.int .i64 fS) rfl;have aIR:=bL dL 1 (.int .i64 fR) rfl;have aIQ:=bL dL 2 (.slice wQ fZ.length wF) rfl;have aIA:=aC dL.out 0;have aIz:=aC dL.out 1;have aIy:=aC dL.out 2
          go_wp2
          go_roundg k3
          case measure => have:=HJ2.out;have:=zU.out;have:=OF.out;omega
          case rel => exact ⟨(wrap64 (iG + 1)),(EF),(oC),mU,H',⟨by have:=HJ2.out;have:=zU.out;have:=OF.out;omega⟩,⟨dB fM.out⟩,⟨gP cW.out⟩,⟨gP dL.out⟩,⟨gP gC.out⟩,⟨gP iT.out⟩,⟨oJ HB nX pH rO RF⟩⟩
      ·rw [if_neg RM] at H
       have UE : decide (iG < aK) = false:=decide_eq_false RM;clear RM;simp only [Option.some.injEq,Prod.mk.injEq] at H;obtain ⟨rfl,rfl,rfl,rfl⟩:=H;have aXa:=qB.out;have aWv:=qA.out;have aSu:=sL.out;have aSc:=sK.out;have bGx:=uO.out;have bGe:=FB.out;have bCH:=bL cW 0 (.int .i64 aK) rfl;have bCG:=bL cW 1 (.int .i64 aI) rfl;have bCF:=bL cW 2 (.slice bI aQ.length bH) rfl;have bBk:=aC cW.out 0;have bBj:=aC cW.out 1;have bBi:=aC cW.out 2;have bGw:=LV.out;have bGd:=xP.out;have aWZ:=aCd.out;have aWu:=FC.out;have bCB:=bL iT 0 (.int .i64 CE) rfl;have bCA:=bL iT 1 (.int .i64 CD) rfl;have bCz:=bL iT 2 oC rfl;have bBe:=aC iT.out 0;have bBd:=aC iT.out 1;have bBc:=aC iT.out 2;have aWY:=xO.out;have aWt:=xQ.out;have aQO:=bL gC 0 (.int .i64 0) rfl;have aQN:=bL gC 1 (.int .i64 0) rfl;have aQM:=bL gC 2 (.slice none 0 0) rfl;have aQq:=aC gC.out 0;have aQp:=aC gC.out 1;have aQo:=aC gC.out 2;obtain ⟨IV,GR,eo92⟩:=Kd.cK fM.out;subst eo92
       go_wp2
       refine bodyPost_ret (dU rfl _ _ JM 24 #[.int .i64 CE,.int .i64 CD,.slice IV AS.length GR] (0,0) _ rfl (by (with_reducible repeat first | apply aE | apply aG | apply aD);refine aZ (cs:=#[.int .i64 CE,.int .i64 CD,.slice none 0 0]) ?_ 2 _ rfl;(with_reducible repeat first | apply aE | apply aG | apply aD);refine aZ (cs:=#[.int .i64 CE,.int .i64 0,.slice none 0 0]) ?_ 1 _ rfl;(with_reducible repeat first | apply aE | apply aG | apply aD);refine aZ (cs:=#[.int .i64 0,.int .i64 0,.slice none 0 0]) ?_ 0 _ rfl;(with_reducible repeat first | apply aE | apply aG | apply aD);exact gC.out) Try.underlying24 rfl (by kernel_rfl)) rfl ?_;exact ⟨_,tZ,by (with_reducible repeat first | apply Kd.bX | apply Kd.bW | apply Kd.bP);exact Kd.cC (Kd.cY (p:=⟨JM,2,none⟩) (Kd.cY (p:=⟨JM,1,none⟩) (Kd.cY (p:=⟨JM,0,none⟩) (Kd.dM fM.out gC.out (by decide)) (fun _ hk => hk.2) (.int .i64 CE)) (fun _ hk => hk.2) (.int .i64 CD)) (fun _ hk => hk.2) (.slice IV AS.length GR)) (fun _ hk => trivial),oJ HB nX pH rO RF⟩
end Go.Proofs.Yteofcbkjhdadpaa.Pr
