-- Out of the translation,by this session's turn of the print (wip/gp.py).
import Derived.Test.YteofcbkjhdadpaaCBuildFreshx0
import Derived.Test.YteofcbkjhdadpaaCBuildFreshx1
import Derived.Test.YteofcbkjhdadpaaCBuildFreshx2
import Derived.Test.YteofcbkjhdadpaaCBuildFreshq
set_option maxHeartbeats 8000000
set_option maxRecDepth 100000
set_option linter.unusedSimpArgs false
set_option linter.unusedVariables false
namespace Go.Proofs.Yteofcbkjhdadpaa.Pr
open Go.RowKit Go.Proofs.aG.aX Go.Proofs.aG.dI Go.Proofs.aG.eN
attribute [local go_sem] fZ fX gZ gY fD fC fY fW   -- for this text's walks alone
mutual
def aV.j0 : Nat→Bool→Int→Int→List Int→Int→Int→List Int→Option (Int×Int×List Int×Int)
 | 0,_,_,_,_,_,_,_ => none
 | k + 1,x24,pD,qD,sV,sU,pC,sT => if x24 = true then (some (0,0,([] : List Int),3)) else ((dF.f pD pC).bind fun RE => (aV.l0 k 0 pD qD sV sU pC sT RE.1 RE.2.1 RE.2.2))
def aV.l0 : Nat→Int→Int→Int→List Int→Int→Int→List Int→Int→Int→List Int→Option (Int×Int×List Int×Int)
 | 0,_,_,_,_,_,_,_,_,_,_ => none
 | k + 1,x7,pD,qD,sV,sU,pC,sT,wT,pB,sS => if x7 < pD then (aV.l1 k x7 0 pD qD sV sU pC sT wT pB sS) else (some (wT,pB,sS,0))
def aV.l1 : Nat→Int→Int→Int→Int→List Int→Int→Int→List Int→Int→Int→List Int→Option (Int×Int×List Int×Int)
 | 0,_,_,_,_,_,_,_,_,_,_,_ => none
 | k + 1,x7,x8,pD,qD,sV,sU,pC,sT,wT,pB,sS => if x8 < pC then (aV.l2 k x7 x8 0 pD qD sV sU pC sT wT pB sS) else (aV.l0 k (wrap64 (x7 + 1)) pD qD sV sU pC sT wT pB sS)
def aV.l2 : Nat→Int→Int→Int→Int→Int→List Int→Int→Int→List Int→Int→Int→List Int→Option (Int×Int×List Int×Int)
 | 0,_,_,_,_,_,_,_,_,_,_,_,_ => none
 | k + 1,x7,x8,x9,pD,qD,sV,sU,pC,sT,wT,pB,sS => if x9 < qD then (if 0≤(wrap64 ((wrap64 (x7 * pB)) + x8)) then (if (wrap64 ((wrap64 (x7 * pB)) + x8)) < (sS.length : Int) then ((bV.f pD qD sV x7 x9).bind fun VY => ((bV.f sU pC sT x9 x8).bind fun SK => ((cI.f VY SK).bind fun MO => (aV.l2 k x7 x8 (wrap64 (x9 + 1)) pD qD sV sU pC sT wT pB (sS.set ((wrap64 ((wrap64 (x7 * pB)) + x8)) : Int).toNat (Go.bits .xor .u8 (rd sS (wrap64 ((wrap64 (x7 * pB)) + x8))) MO)))))) else (none)) else (none)) else (aV.l1 k x7 (wrap64 (x8 + 1)) pD qD sV sU pC sT wT pB sS)
end
def aV.f (k : Nat) (aN : Int) (aJ : Int) (aT : List Int) (eR : Int) (eV : Int) (eZ : List Int) : Option (Int×Int×List Int×Int):=(bN.f aN aJ aT).bind fun aFi => (if aFi = true then ((bN.f eR eV eZ).bind fun SL => (if SL = true then (aV.j0 k (aJ != eR) aN aJ aT eR eV eZ) else (aV.j0 k true aN aJ aT eR eV eZ))) else (aV.j0 k true aN aJ aT eR eV eZ))
def aV.T13 : Bool×List (List Nat×List Nat):=(true,[([],[]),([0],[0]),([],[]),([],[]),([3],[3]),([2,4],[2,4]),([],[]),([5,6],[5,6]),([1,7],[1,7]),([8],[8]),([],[]),([],[]),([],[]),([10,11,12],[10,11,12]),([],[]),([],[]),([],[]),([14,15,16,13],[14,15,16]),([13,17,17],[13,17]),([9,18],[9,18]),([1,7,0,1,2,3,4,5,6,7,8,9,10,11,12,13,14,15,16,17,18,19],[1,7]),([20,19,18,0,1,2,3,4,5,6,7,8,9,10,11,12,13,14,15,16,17,18,19],[19,20])])
def aV.B13 : List Nat:=[0,1,0,0,8,28,0,124,255,511,0,0,0,7168,0,0,0,130048,261120,524287,1048575,2097151]
theorem aV.aPt : pI .any (opsOf Try.f53 13) = aV.T13:=by kernel_rfl
theorem aV.aOA : mQ aV.T13.2 aV.B13 = true:=by kernel_rfl
theorem aV.calls (k : Nat) (aN : Int) (aJ : Int) (bL : Option Addr) (bK : Nat) (aT : List Int) (eR : Int) (eV : Int) (rR : Option Addr) (rL : Nat) (eZ : List Int) (r1 : Int) (r2 : Int) (r3 : List Int) (r4 : Int) (w : World) (hr0_2 : Kd.C (Kd.int .u8) w bL aT.length aT) (hc0_2 : aT.length≤bK) (hr1_2 : Kd.C (Kd.int .u8) w rR eZ.length eZ) (hc1_2 : eZ.length≤rL) (h : aV.f k aN aJ aT eR eV eZ = some (r1,r2,r3,r4)) :
  Calls Try.prog 53 #[.agg #[.int .i64 aN,.int .i64 aJ,.slice bL aT.length bK],.agg #[.int .i64 eR,.int .i64 eV,.slice rR eZ.length rL]] w fun e w' => ∃ pF : Value,e = .returned (.tuple #[.agg #[.int .i64 r1,.int .i64 r2,pF],.int .i64 r4])∧Kd.R (Kd.int .u8) 5 w' w.heap.size (fun _ => True) pF r3∧Below w.heap.size w w':=by
 have wM:=Try.underlying24;have eP:=aA.mk hr0_2;have eS:=aA.mk hc0_2;clear hr0_2 hc0_2;have aBl:=aA.mk hr1_2;have aBo:=aA.mk hc1_2;clear hr1_2 hc1_2;have HB:=aA.mk (Below.refl w.heap.size w);have H : ((bN.f aN aJ aT).bind fun aFi => (if aFi = true then ((bN.f eR eV eZ).bind fun SL => (if SL = true then (aV.j0 k (aJ != eR) aN aJ aT eR eV eZ) else (aV.j0 k true aN aJ aT eR eV eZ))) else (aV.j0 k true aN aJ aT eR eV eZ))) = some (r1,r2,r3,r4):=h;clear h;have HC3:=aA.mk H;clear H;go_enter Try.func53,Try.ntmps53;go_upto_region 1 with (first | ((with_reducible refine bH (N:=2) rfl ?_);refine lK (N:=2) (cs:=#[.int .i64 aN,.int .i64 aJ,.slice bL aT.length bK]) (t:=24) ?_;intro JA hg w4 hbox hb;have cB:=aA.mk (hbox);have aZG:=aA.mk (eW hg (cG HB) : w.heap.size≤JA);have kF:=aA.mk (eW hg (cG HB) : w.heap.size≤JA);replace HB:=aA.mk (aQ (cG HB) hb);clear hb hbox hg) | ((with_reducible refine bH (N:=3) rfl ?_);refine lK (N:=3) (cs:=#[.int .i64 eR,.int .i64 eV,.slice rR eZ.length rL]) (t:=24) ?_;intro IZ hg w5 hbox hb;have cQ:=aA.mk (hbox);have aZF:=aA.mk (eW hg (cE HB kF) : w.heap.size≤IZ);have lP:=aA.mk (eW hg (cE HB kF) : w.heap.size≤IZ);replace HB:=aA.mk (aQ (cE HB kF) hb);have mI:=aA.mk (wJ hg (cH cB));have mH:=aA.mk (wK hg (cH cB));replace cB:=aA.mk (aM (cH cB) hb);clear hb hbox hg) | ((with_reducible refine bH (N:=4) rfl ?_);refine lK (N:=4) (cs:=#[.int .i64 0,.int .i64 0,.slice none 0 0]) (t:=24) ?_;intro BW hg w6 hbox hb;have eX:=aA.mk (hbox);have aZE:=aA.mk (eW hg (cR HB kF lP) : w.heap.size≤BW);have nW:=aA.mk (eW hg (cR HB kF lP) : w.heap.size≤BW);replace HB:=aA.mk (aQ (cR HB kF lP) hb);have oQ:=aA.mk (wJ hg (cH cB));have oP:=aA.mk (wK hg (cH cB));replace cB:=aA.mk (aM (cH cB) hb);have sP:=aA.mk (wJ hg (cH cQ));have sN:=aA.mk (wK hg (cH cQ));replace cQ:=aA.mk (aM (cH cQ) hb);clear hb hbox hg))
 (try simp only [Act.put,cO,cL,cP])
 go_cut [24] (fun v24 wc => ∃ (kq : Nat) (FY : Bool),v24 = .bool FY∧aA (aV.j0 kq FY aN aJ aT eR eV eZ = some (r1,r2,r3,r4))∧aA (kq≤k)∧aA (wc.heap[JA]? = some (.cells #[.int .i64 aN,.int .i64 aJ,(.slice bL aT.length bK)] 24 (0,0)))∧aA (wc.heap[IZ]? = some (.cells #[.int .i64 eR,.int .i64 eV,(.slice rR eZ.length rL)] 24 (0,0)))∧aA (wc.heap[BW]? = some (.cells #[.int .i64 0,.int .i64 0,(.slice none 0 0)] 24 (0,0)))∧aA (Below w.heap.size w wc))
 case first =>
  have H:=HC3.out;clear HC3;replace H:=Option.bind_eq_some_iff.mp H;obtain ⟨aFi,A70,H⟩:=H;replace H : (if aFi = true then ((bN.f eR eV eZ).bind fun SL => (if SL = true then (aV.j0 k (aJ != eR) aN aJ aT eR eV eZ) else (aV.j0 k true aN aJ aT eR eV eZ))) else (aV.j0 k true aN aJ aT eR eV eZ)) = some (r1,r2,r3,r4):=H;have A7:=aA.mk A70;clear A70
  by_cases c8 : aFi = true
  ·subst c8
   have H1 : ((bN.f eR eV eZ).bind fun SL => (if SL = true then (aV.j0 k (aJ != eR) aN aJ aT eR eV eZ) else (aV.j0 k true aN aJ aT eR eV eZ))) = some (r1,r2,r3,r4):=by rw [if_pos rfl] at H;exact H
   clear H;have H:=H1;clear H1;replace H:=Option.bind_eq_some_iff.mp H;obtain ⟨SL,A90,H⟩:=H;replace H : (if SL = true then (aV.j0 k (aJ != eR) aN aJ aT eR eV eZ) else (aV.j0 k true aN aJ aT eR eV eZ)) = some (r1,r2,r3,r4):=H;have A9:=aA.mk A90;clear A90
   by_cases c10 : SL = true
   ·subst c10
    have H1 : (aV.j0 k (aJ != eR) aN aJ aT eR eV eZ) = some (r1,r2,r3,r4):=by rw [if_pos rfl] at H;exact H
    clear H;have H:=H1;clear H1;have H':=aA.mk H;clear H;have aDs:=mI.out;have aDr:=mH.out;have aQD:=oQ.out;have aQf:=oP.out;have mZ:=bO cB 0 (.int .i64 aN) rfl;have mY:=bO cB 1 (.int .i64 aJ) rfl;have mX:=bO cB 2 (.slice bL aT.length bK) rfl;have mW:=aC cB.out 0;have mU:=aC cB.out 1;have mT:=aC cB.out 2;go_wp2_with (first | ((with_reducible refine bB (f:=17) rfl ?_);refine cS (some 11) rfl rfl Try.func17 (by kernel_rfl) rfl #[.agg #[.int .i64 aN,.int .i64 aJ,.slice bL aT.length bK]] rfl mS ?_;(with_reducible refine (bN.calls aN aJ _ _ aT true _ ?side1 ?side2 A7.out).mono ?_);(case side1 => exact pZ (Kd.cV eP.out HB.out));(case side2 => exact eS.out);rintro e w14 ⟨rfl,hb⟩;refine ⟨_,rfl,?_⟩;replace cB:=aA.mk (aM (cH cB) hb);replace cQ:=aA.mk (aM (cH cQ) hb);replace eX:=aA.mk (aM (cH eX) hb);replace HB:=aA.mk (aQ (jU HB kF lP nW) hb);(try clear hb);(try clear hb2);(try clear hk);(try clear hi);have aId:=sP.out;have aIc:=sN.out;have qW:=bO cQ 0 (.int .i64 eR) rfl;have qV:=bO cQ 1 (.int .i64 eV) rfl;have qU:=bO cQ 2 (.slice rR eZ.length rL) rfl;have qQ:=aC cQ.out 0;have qP:=aC cQ.out 1;have qO:=aC cQ.out 2) | (go_at_call 17;(with_reducible refine (bN.calls eR eV _ _ eZ true _ ?side1 ?side2 A9.out).mono ?_);(case side1 => exact pZ (Kd.cV aBl.out HB.out));(case side2 => exact aBo.out);rintro e w17 ⟨rfl,hb⟩;replace cB:=aA.mk (aM (cH cB) hb);replace cQ:=aA.mk (aM (cH cQ) hb);replace eX:=aA.mk (aM (cH eX) hb);replace HB:=aA.mk (aQ (jU HB kF lP nW) hb);(try clear hb);(try clear hb2);(try clear hk);(try clear hi);have tI:=bO cB 0 (.int .i64 aN) rfl;have tH:=bO cB 1 (.int .i64 aJ) rfl;have tG:=bO cB 2 (.slice bL aT.length bK) rfl;have tC:=aC cB.out 0;have tB:=aC cB.out 1;have tA:=aC cB.out 2;have tF:=bO cQ 0 (.int .i64 eR) rfl;have tE:=bO cQ 1 (.int .i64 eV) rfl;have tD:=bO cQ 2 (.slice rR eZ.length rL) rfl;have sZ:=aC cQ.out 0;have sY:=aC cQ.out 1;have sX:=aC cQ.out 2))
    go_meet
    case rel => exact ⟨_,((aJ != eR)),nL,H',⟨q_o⟩,⟨gM cB.out⟩,⟨gM cQ.out⟩,⟨gM eX.out⟩,⟨jU HB kF lP nW⟩⟩
   ·replace c10:=Bool.eq_false_iff.mpr c10
    subst c10;have H1 : (aV.j0 k true aN aJ aT eR eV eZ) = some (r1,r2,r3,r4):=by rw [if_neg (show ¬ (false = true) by decide)] at H;exact H
    clear H;have H:=H1;clear H1;have H':=aA.mk H;clear H;have aQB:=mI.out;have aQd:=mH.out;have aMB:=oQ.out;have aMu:=oP.out;have uV:=bO cB 0 (.int .i64 aN) rfl;have uU:=bO cB 1 (.int .i64 aJ) rfl;have uT:=bO cB 2 (.slice bL aT.length bK) rfl;have uS:=aC cB.out 0;have uR:=aC cB.out 1;have uQ:=aC cB.out 2;go_wp2_with (first | ((with_reducible refine bB (f:=17) rfl ?_);refine cS (some 11) rfl rfl Try.func17 (by kernel_rfl) rfl #[.agg #[.int .i64 aN,.int .i64 aJ,.slice bL aT.length bK]] rfl mS ?_;(with_reducible refine (bN.calls aN aJ _ _ aT true _ ?side1 ?side2 A7.out).mono ?_);(case side1 => exact pZ (Kd.cV eP.out HB.out));(case side2 => exact eS.out);rintro e w23 ⟨rfl,hb⟩;refine ⟨_,rfl,?_⟩;replace cB:=aA.mk (aM (cH cB) hb);replace cQ:=aA.mk (aM (cH cQ) hb);replace eX:=aA.mk (aM (cH eX) hb);replace HB:=aA.mk (aQ (jU HB kF lP nW) hb);(try clear hb);(try clear hb2);(try clear hk);(try clear hi);have aYQ:=sP.out;have aYc:=sN.out;have IV:=bO cQ 0 (.int .i64 eR) rfl;have IU:=bO cQ 1 (.int .i64 eV) rfl;have IT:=bO cQ 2 (.slice rR eZ.length rL) rfl;have IH:=aC cQ.out 0;have IG:=aC cQ.out 1;have IF:=aC cQ.out 2) | (go_at_call 17;(with_reducible refine (bN.calls eR eV _ _ eZ false _ ?side1 ?side2 A9.out).mono ?_);(case side1 => exact pZ (Kd.cV aBl.out HB.out));(case side2 => exact aBo.out);rintro e w26 ⟨rfl,hb⟩;replace cB:=aA.mk (aM (cH cB) hb);replace cQ:=aA.mk (aM (cH cQ) hb);replace eX:=aA.mk (aM (cH eX) hb);replace HB:=aA.mk (aQ (jU HB kF lP nW) hb);(try clear hb);(try clear hb2);(try clear hk);(try clear hi)))
    go_meet
    case rel => exact ⟨_,(true),nL,H',⟨q_o⟩,⟨gM cB.out⟩,⟨gM cQ.out⟩,⟨gM eX.out⟩,⟨jU HB kF lP nW⟩⟩
  ·replace c8:=Bool.eq_false_iff.mpr c8
   subst c8;have H1 : (aV.j0 k true aN aJ aT eR eV eZ) = some (r1,r2,r3,r4):=by rw [if_neg (show ¬ (false = true) by decide)] at H;exact H
   clear H;have H:=H1;clear H1;have H':=aA.mk H;clear H;have aMA:=mI.out;have aMt:=mH.out;have aQA:=oQ.out;have aQc:=oP.out;have IN:=bO cB 0 (.int .i64 aN) rfl;have IM:=bO cB 1 (.int .i64 aJ) rfl;have IL:=bO cB 2 (.slice bL aT.length bK) rfl;have IB:=aC cB.out 0;have IA:=aC cB.out 1;have HQ:=aC cB.out 2;go_wp2_with (first | ((with_reducible refine bB (f:=17) rfl ?_);refine cS (some 11) rfl rfl Try.func17 (by kernel_rfl) rfl #[.agg #[.int .i64 aN,.int .i64 aJ,.slice bL aT.length bK]] rfl mS ?_;(with_reducible refine (bN.calls aN aJ _ _ aT false _ ?side1 ?side2 A7.out).mono ?_);(case side1 => exact pZ (Kd.cV eP.out HB.out));(case side2 => exact eS.out);rintro e w30 ⟨rfl,hb⟩;refine ⟨_,rfl,?_⟩;replace cB:=aA.mk (aM (cH cB) hb);replace cQ:=aA.mk (aM (cH cQ) hb);replace eX:=aA.mk (aM (cH eX) hb);replace HB:=aA.mk (aQ (jU HB kF lP nW) hb);(try clear hb);(try clear hb2);(try clear hk);(try clear hi)))
   go_meet
   case rel => exact ⟨_,(true),nL,H',⟨q_o⟩,⟨gM cB.out⟩,⟨gM cQ.out⟩,⟨gM eX.out⟩,⟨jU HB kF lP nW⟩⟩
 case rest =>
  clear HC3;(try clear c1);(try clear c2);(try clear p2);(try clear c5);(try clear c8);(try clear c10);(try clear BB);(try clear AO);(try clear YZ);(try clear CE);(try clear c20);(try clear BA);(try clear c24);(try clear c27);(try clear c28);(try clear mZ);(try clear mY);(try clear mX);(try clear qW);(try clear qV);(try clear qU);(try clear tI);(try clear tH);(try clear tG);(try clear tF);(try clear tE);(try clear tD);(try clear uV);(try clear uU);(try clear uT);(try clear IV);(try clear IU);(try clear IT);(try clear IN);(try clear IM);(try clear IL);(try clear mW);(try clear mU);(try clear mT);(try clear qQ);(try clear qP);(try clear qO);(try clear tC);(try clear tB);(try clear tA);(try clear sZ);(try clear sY);(try clear sX);(try clear uS);(try clear uR);(try clear uQ);(try clear IH);(try clear IG);(try clear IF);(try clear IB);(try clear IA);(try clear HQ);obtain ⟨kq,FY,rfl,HA,HJ2,cB,cQ,eX,HB⟩:=hcut
  cases kq with
  | zero => exact absurd HA.out (by simp [aV.j0])
  | succ kj2 =>
   have H:=HA.out;clear HA;simp only [aV.j0] at H
   by_cases FQ : FY = true
   ·subst FQ
    have H1 : (some (0,0,([] : List Int),3)) = some (r1,r2,r3,r4):=by rw [if_pos rfl] at H;exact H
    clear H;have H:=H1;clear H1;simp only [Option.some.injEq,Prod.mk.injEq] at H;obtain ⟨rfl,rfl,rfl,rfl⟩:=H;have aQy:=oP.out;have aQa:=oQ.out;have aMz:=sN.out;have aMs:=sP.out;have xJ:=bO eX 0 (.int .i64 0) rfl;have xI:=bO eX 1 (.int .i64 0) rfl;have xH:=bO eX 2 (.slice none 0 0) rfl;have xC:=aC eX.out 0;have xB:=aC eX.out 1;have xA:=aC eX.out 2
    go_wp2
    refine bodyPost_ret (dE rfl _ _ BW 24 #[.int .i64 0,.int .i64 0,.slice none 0 0] (0,0) _ rfl (by (with_reducible repeat first | apply aD | apply aH | apply aE);refine bA (cs:=#[.int .i64 0,.int .i64 0,.slice none 0 0]) ?_ 2 _ rfl;(with_reducible repeat first | apply aD | apply aH | apply aE);refine bA (cs:=#[.int .i64 0,.int .i64 0,.slice none 0 0]) ?_ 1 _ rfl;(with_reducible repeat first | apply aD | apply aH | apply aE);refine bA (cs:=#[.int .i64 0,.int .i64 0,.slice none 0 0]) ?_ 0 _ rfl;(with_reducible repeat first | apply aD | apply aH | apply aE);exact eX.out) Try.underlying24 rfl (by kernel_rfl)) rfl ?_;exact ⟨_,uB,MR,jU HB kF lP nW⟩
   ·replace FQ:=Bool.eq_false_iff.mpr FQ
    subst FQ;have H1 : ((dF.f aN eV).bind fun RE => (aV.l0 kj2 0 aN aJ aT eR eV eZ RE.1 RE.2.1 RE.2.2)) = some (r1,r2,r3,r4):=by rw [if_neg (show ¬ (false = true) by decide)] at H;exact H
    clear H;have H:=H1;clear H1;replace H:=Option.bind_eq_some_iff.mp H;obtain ⟨⟨wI,wH,aHe⟩,aJv,H⟩:=H;replace H : (aV.l0 kj2 0 aN aJ aT eR eV eZ wI wH aHe) = some (r1,r2,r3,r4):=H;have A35:=aA.mk aJv;clear aJv;have H':=aA.mk H;clear H;have aYL:=mI.out;have aXX:=mH.out;have aYK:=oQ.out;have aXW:=oP.out;have YC:=bO cB 0 (.int .i64 aN) rfl;have YB:=bO cB 1 (.int .i64 aJ) rfl;have YA:=bO cB 2 (.slice bL aT.length bK) rfl;have XH:=aC cB.out 0;have XG:=aC cB.out 1;have XF:=aC cB.out 2;have aYI:=sP.out;have aXU:=sN.out;have XZ:=bO cQ 0 (.int .i64 eR) rfl;have XY:=bO cQ 1 (.int .i64 eV) rfl;have XX:=bO cQ 2 (.slice rR eZ.length rL) rfl;have XE:=aC cQ.out 0;have XD:=aC cQ.out 1;have XC:=aC cQ.out 2;go_wp2_with (first | ((with_reducible refine bB (f:=45) rfl ?_);refine cS (some 30) rfl rfl Try.func45 (by kernel_rfl) rfl #[.int .i64 aN,.int .i64 eV] rfl mS ?_;(with_reducible refine (dF.calls aN eV wI wH aHe _ A35.out).mono ?_);rintro e w41 ⟨bAk,rfl,ho0,hb⟩;refine ⟨_,rfl,?_⟩;have aEL:=aA.mk (Kd.dS ho0 (bU (jU HB kF lP nW)));replace cB:=aA.mk (aM (cH cB) hb);replace cQ:=aA.mk (aM (cH cQ) hb);replace eX:=aA.mk (aM (cH eX) hb);replace HB:=aA.mk (aQ (jU HB kF lP nW) hb);(try clear hb);(try clear hb2);(try clear hk);(try clear hi);(try clear ho0)) | ((with_reducible refine bH (N:=6) rfl ?_);refine lK (N:=6) (cs:=#[.int .i64 0,.int .i64 0,.slice none 0 0]) (t:=24) ?_;intro BV hg w42 hbox hb;replace aEL:=aA.mk (Kd.cW (eQ aEL.out) hb);have gE:=aA.mk (hbox);have aZD:=aA.mk (eW hg (jU HB kF lP nW) : w.heap.size≤BV);have JO:=aA.mk (eW hg (jU HB kF lP nW) : w.heap.size≤BV);replace HB:=aA.mk (aQ (jU HB kF lP nW) hb);have pR:=aA.mk (wJ hg (cH cB));have zD:=aA.mk (wK hg (cH cB));replace cB:=aA.mk (aM (cH cB) hb);have sO:=aA.mk (wJ hg (cH cQ));have DO:=aA.mk (wK hg (cH cQ));replace cQ:=aA.mk (aM (cH cQ) hb);have zE:=aA.mk (wJ hg (cH eX));have VE:=aA.mk (wK hg (cH eX));replace eX:=aA.mk (aM (cH eX) hb);clear hb hbox hg;have aQw:=zD.out;have aPY:=pR.out;have aQv:=DO.out;have aPX:=sO.out;have aYF:=VE.out;have aXR:=zE.out;have XW:=bO gE 0 (.int .i64 0) rfl;have XV:=bO gE 1 (.int .i64 0) rfl;have XU:=bO gE 2 (.slice none 0 0) rfl;have XB:=aC gE.out 0;have XA:=aC gE.out 1;have WZ:=aC gE.out 2;obtain ⟨aSw,aQZ,eo47⟩:=Kd.cM aEL.out;subst eo47))
    go_loopg [7] kj2 (fun kq v7 w' => ∃ (cX : Int) (vB : List Int) (kJ : Value),v7 = .int .i64 cX∧aA (aV.l0 kq cX aN aJ aT eR eV eZ wI wH vB = some (r1,r2,r3,r4))∧aA (kq≤kj2)∧aA (Kd.R (Kd.int .u8) 5 w' w.heap.size (fun _ => True) kJ vB)∧aA (w'.heap[JA]? = some (.cells #[.int .i64 aN,.int .i64 aJ,(.slice bL aT.length bK)] 24 (0,0)))∧aA (w'.heap[IZ]? = some (.cells #[.int .i64 eR,.int .i64 eV,(.slice rR eZ.length rL)] 24 (0,0)))∧aA (w'.heap[BW]? = some (.cells #[.int .i64 0,.int .i64 0,(.slice none 0 0)] 24 (0,0)))∧aA (w'.heap[BV]? = some (.cells #[.int .i64 wI,.int .i64 wH,kJ] 24 (0,0)))∧aA (Below w.heap.size w w'))
    case atStart => exact ⟨(0),(aHe),(.slice aSw aHe.length aQZ),nL,H',⟨Nat.le_refl _⟩,⟨by (with_reducible repeat first | apply Kd.cK | apply Kd.cJ | apply Kd.cC);exact Kd.cN (Kd.dD (p:=⟨BV,2,none⟩) (Kd.dD (p:=⟨BV,1,none⟩) (Kd.dD (p:=⟨BV,0,none⟩) (Kd.eC aEL.out gE.out (by decide)) (fun _ hk => hk.2) (.int .i64 wI)) (fun _ hk => hk.2) (.int .i64 wH)) (fun _ hk => hk.2) (.slice aSw aHe.length aQZ)) (fun _ hk => trivial)⟩,⟨by (with_reducible repeat first | apply aD | apply aH | apply aE);refine bF ?_ pR.out _;(with_reducible repeat first | apply aD | apply aH | apply aE);refine bF ?_ pR.out _;(with_reducible repeat first | apply aD | apply aH | apply aE);refine bF ?_ pR.out _;(with_reducible repeat first | apply aD | apply aH | apply aE);exact cB.out⟩,⟨by (with_reducible repeat first | apply aD | apply aH | apply aE);refine bF ?_ sO.out _;(with_reducible repeat first | apply aD | apply aH | apply aE);refine bF ?_ sO.out _;(with_reducible repeat first | apply aD | apply aH | apply aE);refine bF ?_ sO.out _;(with_reducible repeat first | apply aD | apply aH | apply aE);exact cQ.out⟩,⟨by (with_reducible repeat first | apply aD | apply aH | apply aE);refine bF ?_ zE.out _;(with_reducible repeat first | apply aD | apply aH | apply aE);refine bF ?_ zE.out _;(with_reducible repeat first | apply aD | apply aH | apply aE);refine bF ?_ zE.out _;(with_reducible repeat first | apply aD | apply aH | apply aE);exact eX.out⟩,⟨by (with_reducible repeat first | apply aD | apply aH | apply aE);refine bA (cs:=#[.int .i64 wI,.int .i64 wH,.slice none 0 0]) ?_ 2 _ rfl;(with_reducible repeat first | apply aD | apply aH | apply aE);refine bA (cs:=#[.int .i64 wI,.int .i64 0,.slice none 0 0]) ?_ 1 _ rfl;(with_reducible repeat first | apply aD | apply aH | apply aE);refine bA (cs:=#[.int .i64 0,.int .i64 0,.slice none 0 0]) ?_ 0 _ rfl;(with_reducible repeat first | apply aD | apply aH | apply aE);exact gE.out⟩,⟨wL HB kF lP nW JO⟩⟩
    case round =>
     clear H';(try clear c1);(try clear c2);(try clear p2);(try clear c3);(try clear c4);(try clear c5);(try clear c8);(try clear c10);(try clear BB);(try clear AO);(try clear YZ);(try clear CE);(try clear c20);(try clear BA);(try clear c24);(try clear c27);(try clear c28);(try clear FQ);(try clear c32);(try clear c33);(try clear c36);(try clear c37);(try clear c39);(try clear c43);(try clear c44);(try clear c45);(try clear mZ);(try clear mY);(try clear mX);(try clear qW);(try clear qV);(try clear qU);(try clear tI);(try clear tH);(try clear tG);(try clear tF);(try clear tE);(try clear tD);(try clear uV);(try clear uU);(try clear uT);(try clear IV);(try clear IU);(try clear IT);(try clear IN);(try clear IM);(try clear IL);(try clear xJ);(try clear xI);(try clear xH);(try clear YC);(try clear YB);(try clear YA);(try clear XZ);(try clear XY);(try clear XX);(try clear XW);(try clear XV);(try clear XU);(try clear mW);(try clear mU);(try clear mT);(try clear qQ);(try clear qP);(try clear qO);(try clear tC);(try clear tB);(try clear tA);(try clear sZ);(try clear sY);(try clear sX);(try clear uS);(try clear uR);(try clear uQ);(try clear IH);(try clear IG);(try clear IF);(try clear IB);(try clear IA);(try clear HQ)
     (try clear xC);(try clear xB);(try clear xA);(try clear XH);(try clear XG);(try clear XF);(try clear XE);(try clear XD);(try clear XC);(try clear XB);(try clear XA);(try clear WZ);(try clear p2);obtain ⟨cX,vB,kJ,rfl,HA,vJ,eD,cB,cQ,eX,gE,HB⟩:=hrel
     cases gk with
     | zero => exact absurd HA.out (by simp [aV.l0])
     | succ k2 =>
      have H:=HA.out;clear HA;simp only [aV.l0] at H
      by_cases c48 : cX < aN
      ·rw [if_pos c48] at H
       have aEy : decide (cX < aN) = true:=decide_eq_true c48;clear c48;have H':=aA.mk H;clear H;have aYD:=mI.out;have aXP:=mH.out;have aYC:=oQ.out;have aXO:=oP.out;have aQs:=pR.out;have aPU:=zD.out;have aDU:=bO cB 0 (.int .i64 aN) rfl;have aDT:=bO cB 1 (.int .i64 aJ) rfl;have aDS:=bO cB 2 (.slice bL aT.length bK) rfl;have aDw:=aC cB.out 0;have aDv:=aC cB.out 1;have aDu:=aC cB.out 2
       go_wp2
       go_loopg [8] k2 (fun kq v8 w' => ∃ (jM : Int) (yO : List Int) (kJ : Value),v8 = .int .i64 jM∧aA (aV.l1 kq cX jM aN aJ aT eR eV eZ wI wH yO = some (r1,r2,r3,r4))∧aA (kq≤k2)∧aA (Kd.R (Kd.int .u8) 5 w' w.heap.size (fun _ => True) kJ yO)∧aA (w'.heap[JA]? = some (.cells #[.int .i64 aN,.int .i64 aJ,(.slice bL aT.length bK)] 24 (0,0)))∧aA (w'.heap[IZ]? = some (.cells #[.int .i64 eR,.int .i64 eV,(.slice rR eZ.length rL)] 24 (0,0)))∧aA (w'.heap[BW]? = some (.cells #[.int .i64 0,.int .i64 0,(.slice none 0 0)] 24 (0,0)))∧aA (w'.heap[BV]? = some (.cells #[.int .i64 wI,.int .i64 wH,kJ] 24 (0,0)))∧aA (Below w.heap.size w w'))
       case atStart => exact ⟨(0),(vB),(kJ),nL,H',⟨Nat.le_refl _⟩,⟨eQ eD.out⟩,⟨gM cB.out⟩,⟨gM cQ.out⟩,⟨gM eX.out⟩,⟨gM gE.out⟩,⟨wL HB kF lP nW JO⟩⟩
       case round =>
        clear H';(try clear c1);(try clear c2);(try clear p2);(try clear c3);(try clear c4);(try clear c5);(try clear c8);(try clear c10);(try clear BB);(try clear AO);(try clear YZ);(try clear CE);(try clear c20);(try clear BA);(try clear c24);(try clear c27);(try clear c28);(try clear FQ);(try clear c32);(try clear c33);(try clear c36);(try clear c37);(try clear c39);(try clear c43);(try clear c44);(try clear c45);(try clear c48);(try clear aEy);(try clear c49);(try clear c50);(try clear c51);(try clear mZ);(try clear mY);(try clear mX);(try clear qW);(try clear qV);(try clear qU);(try clear tI);(try clear tH);(try clear tG);(try clear tF);(try clear tE);(try clear tD);(try clear uV);(try clear uU);(try clear uT);(try clear IV);(try clear IU);(try clear IT);(try clear IN);(try clear IM);(try clear IL);(try clear xJ);(try clear xI);(try clear xH);(try clear YC);(try clear YB);(try clear YA);(try clear XZ);(try clear XY);(try clear XX);(try clear XW);(try clear XV);(try clear XU);(try clear aDU);(try clear aDT);(try clear aDS);(try clear mW);(try clear mU);(try clear mT);(try clear qQ);(try clear qP);(try clear qO);(try clear tC);(try clear tB);(try clear tA);(try clear sZ);(try clear sY);(try clear sX);(try clear uS);(try clear uR)
        (try clear uQ);(try clear IH);(try clear IG);(try clear IF);(try clear IB);(try clear IA);(try clear HQ);(try clear xC);(try clear xB);(try clear xA);(try clear XH);(try clear XG);(try clear XF);(try clear XE);(try clear XD);(try clear XC);(try clear XB);(try clear XA);(try clear WZ);(try clear aDw);(try clear aDv);(try clear aDu);(try clear p2);obtain ⟨jM,yO,kJ,rfl,HA,zN,eD,cB,cQ,eX,gE,HB⟩:=hrel
        cases gk with
        | zero => exact absurd HA.out (by simp [aV.l1])
        | succ k3 =>
         have H:=HA.out;clear HA;simp only [aV.l1] at H
         by_cases KT : jM < eV
         ·rw [if_pos KT] at H
          have AN : decide (jM < eV) = true:=decide_eq_true KT;clear KT;have H':=aA.mk H;clear H;have aQq:=mH.out;have aPS:=mI.out;have aQp:=sP.out;have aPR:=sN.out;have aMx:=sO.out;have aMq:=DO.out;have OE:=bO cQ 0 (.int .i64 eR) rfl;have OD:=bO cQ 1 (.int .i64 eV) rfl;have OC:=bO cQ 2 (.slice rR eZ.length rL) rfl;have NP:=aC cQ.out 0;have NO:=aC cQ.out 1;have NN:=aC cQ.out 2
          go_wp2
          go_loopg [9] k3 (fun kq v9 w' => ∃ (zP : Int) (eL : List Int) (kJ : Value),v9 = .int .i64 zP∧aA (aV.l2 kq cX jM zP aN aJ aT eR eV eZ wI wH eL = some (r1,r2,r3,r4))∧aA (kq≤k3)∧aA (Kd.R (Kd.int .u8) 5 w' w.heap.size (fun _ => True) kJ eL)∧aA (w'.heap[JA]? = some (.cells #[.int .i64 aN,.int .i64 aJ,(.slice bL aT.length bK)] 24 (0,0)))∧aA (w'.heap[IZ]? = some (.cells #[.int .i64 eR,.int .i64 eV,(.slice rR eZ.length rL)] 24 (0,0)))∧aA (w'.heap[BW]? = some (.cells #[.int .i64 0,.int .i64 0,(.slice none 0 0)] 24 (0,0)))∧aA (w'.heap[BV]? = some (.cells #[.int .i64 wI,.int .i64 wH,kJ] 24 (0,0)))∧aA (Below w.heap.size w w'))
          case atStart => exact ⟨(0),(yO),(kJ),nL,H',⟨Nat.le_refl _⟩,⟨eQ eD.out⟩,⟨gM cB.out⟩,⟨gM cQ.out⟩,⟨gM eX.out⟩,⟨gM gE.out⟩,⟨wL HB kF lP nW JO⟩⟩
          case round =>
           clear H';(try clear c1);(try clear c2);(try clear p2);(try clear c3);(try clear c4);(try clear c5);(try clear c8);(try clear c10);(try clear BB);(try clear AO);(try clear YZ);(try clear CE);(try clear c20);(try clear BA);(try clear c24);(try clear c27);(try clear c28);(try clear FQ);(try clear c32);(try clear c33);(try clear c36);(try clear c37);(try clear c39);(try clear c43);(try clear c44);(try clear c45);(try clear c48);(try clear aEy);(try clear c49);(try clear c50);(try clear c51);(try clear KT);(try clear AN);(try clear c54);(try clear c55);(try clear c56);(try clear mZ);(try clear mY);(try clear mX);(try clear qW);(try clear qV);(try clear qU);(try clear tI);(try clear tH);(try clear tG);(try clear tF);(try clear tE);(try clear tD);(try clear uV);(try clear uU);(try clear uT);(try clear IV);(try clear IU);(try clear IT);(try clear IN);(try clear IM);(try clear IL);(try clear xJ);(try clear xI);(try clear xH);(try clear YC);(try clear YB);(try clear YA);(try clear XZ);(try clear XY);(try clear XX);(try clear XW);(try clear XV);(try clear XU);(try clear aDU);(try clear aDT);(try clear aDS);(try clear OE);(try clear OD);(try clear OC);(try clear mW);(try clear mU);(try clear mT);(try clear qQ);(try clear qP);(try clear qO);(try clear tC)
           (try clear tB);(try clear tA);(try clear sZ);(try clear sY);(try clear sX);(try clear uS);(try clear uR);(try clear uQ);(try clear IH);(try clear IG);(try clear IF);(try clear IB);(try clear IA);(try clear HQ);(try clear xC);(try clear xB);(try clear xA);(try clear XH);(try clear XG);(try clear XF);(try clear XE);(try clear XD);(try clear XC);(try clear XB);(try clear XA);(try clear WZ);(try clear aDw);(try clear aDv);(try clear aDu);(try clear NP);(try clear NO);(try clear NN);(try clear p2);obtain ⟨zP,eL,kJ,rfl,HA,ZM,eD,cB,cQ,eX,gE,HB⟩:=hrel
           cases gk with
           | zero => exact absurd HA.out (by simp [aV.l2])
           | succ k4 =>
            have H:=HA.out;clear HA;simp only [aV.l2] at H
            by_cases c58 : zP < aJ
            ·rw [if_pos c58] at H
             have aRi : decide (zP < aJ) = true:=decide_eq_true c58;clear c58;obtain ⟨gV,QL⟩ : ∃ j_ : Int,(wrap64 ((wrap64 (cX * wH)) + jM)) = j_:=⟨_,rfl⟩
             replace H : (if 0≤(gV) then (if (gV) < (eL.length : Int) then ((bV.f aN aJ aT cX zP).bind fun VY => ((bV.f eR eV eZ zP jM).bind fun SK => ((cI.f VY SK).bind fun MO => (aV.l2 k4 cX jM (wrap64 (zP + 1)) aN aJ aT eR eV eZ wI wH (eL.set ((gV) : Int).toNat (Go.bits .xor .u8 (rd eL (gV)) MO)))))) else (none)) else (none)) = some (r1,r2,r3,r4):=by first | (rw [QL] at H;exact H) | (simp only [QL] at H ⊢;exact H)
             have aOe : (IntKind.i64.wrap ((wrap64 (cX * wH)) + jM)) = gV:=(bE _).trans QL
             by_cases c60 : 0≤(gV)
             ·rw [if_pos c60] at H
              have aML : decide (0≤(gV)) = true:=decide_eq_true c60;clear c60
              by_cases c61 : (gV) < (eL.length : Int)
              ·rw [if_pos c61] at H
               have aRh : decide ((gV) < (eL.length : Int)) = true:=decide_eq_true c61;clear c61;replace H:=Option.bind_eq_some_iff.mp H;obtain ⟨VY,aJu,H⟩:=H;replace H : ((bV.f eR eV eZ zP jM).bind fun SK => ((cI.f VY SK).bind fun MO => (aV.l2 k4 cX jM (wrap64 (zP + 1)) aN aJ aT eR eV eZ wI wH (eL.set ((gV) : Int).toNat (Go.bits .xor .u8 (rd eL (gV)) MO))))) = some (r1,r2,r3,r4):=H;have A62:=aA.mk aJu;clear aJu;replace H:=Option.bind_eq_some_iff.mp H;obtain ⟨SK,aJt,H⟩:=H;replace H : ((cI.f VY SK).bind fun MO => (aV.l2 k4 cX jM (wrap64 (zP + 1)) aN aJ aT eR eV eZ wI wH (eL.set ((gV) : Int).toNat (Go.bits .xor .u8 (rd eL (gV)) MO)))) = some (r1,r2,r3,r4):=H;have A63:=aA.mk aJt;clear aJt;replace H:=Option.bind_eq_some_iff.mp H;obtain ⟨MO,aSE,H⟩:=H;replace H : (aV.l2 k4 cX jM (wrap64 (zP + 1)) aN aJ aT eR eV eZ wI wH (eL.set ((gV) : Int).toNat (Go.bits .xor .u8 (rd eL (gV)) MO))) = some (r1,r2,r3,r4):=H;have A64:=aA.mk aSE;clear aSE;obtain ⟨y288,hy288⟩ : ∃ y_ : List Int,y_ = (eL.set ((gV) : Int).toNat (Go.bits .xor .u8 (rd eL (gV)) MO)):=⟨_,rfl⟩
               replace H : (aV.l2 k4 cX jM (wrap64 (zP + 1)) aN aJ aT eR eV eZ wI wH y288) = some (r1,r2,r3,r4):=by first | (rw [hy288];with_reducible exact H) | (have H2_:=(Option.bind_some _ _).symm.trans H;rw [hy288];with_reducible exact H2_) | (have H2_:=(Option.bind_some _ _).symm.trans H;with_reducible exact H2_) | with_reducible exact H | (rw [hy288];exact H) | exact H
               have Ny288:=aA.mk hy288;clear hy288;have H':=aA.mk H;clear H;have aYu:=mI.out;have aXG:=mH.out;have aQn:=oQ.out;have aPP:=oP.out;have aQm:=pR.out;have aPO:=zD.out;have aLd:=bO cB 0 (.int .i64 aN) rfl;have aLc:=bO cB 1 (.int .i64 aJ) rfl;have aLb:=bO cB 2 (.slice bL aT.length bK) rfl;have aKI:=aC cB.out 0;have aKH:=aC cB.out 1;have aKG:=aC cB.out 2
               try go_wp2
               replace eD:=aA.mk (Kd.cC eD.out);replace cB:=aA.mk (aH cB.out);replace cQ:=aA.mk (aH cQ.out);replace eX:=aA.mk (aH eX.out);replace gE:=aA.mk (aH gE.out);replace HB:=aA.mk (dT HB.out);obtain ⟨bBh,aQW,eo71⟩:=Kd.cM eD.out
               (first | subst eo71 | (injection eo71 with f1_ f2_ f3_;have f4_:=f1_.symm;have f5_:=f3_.symm;clear f1_ f2_ f3_;subst f4_;subst f5_));have aNV : 0≤((gV) : Int):=of_decide_eq_true mK;have q284 : (gV) < (eL.length : Int):=of_decide_eq_true mK;obtain ⟨ad284,e284,hx284_0⟩:=Kd.nU (Kd.cD eD.out).2.2 (gV) aNV q284
               cases e284
               replace aNV:=eq_true aNV;replace q284:=eq_true q284;refine sG (n:=22) (S:=fun w' => w'.cell? ⟨BV,0,none⟩ = some (.int .i64 wI)∧w'.cell? ⟨BV,1,none⟩ = some (.int .i64 wH)∧w'.cell? ⟨BV,2,none⟩ = some (.slice (some ad284) eL.length aQW)∧w'.cell? ⟨JA,0,none⟩ = some (.int .i64 aN)∧w'.cell? ⟨JA,1,none⟩ = some (.int .i64 aJ)∧w'.cell? ⟨JA,2,none⟩ = some (.slice bL aT.length bK)∧w'.cell? ⟨IZ,0,none⟩ = some (.int .i64 eR)∧w'.cell? ⟨IZ,1,none⟩ = some (.int .i64 eV)∧w'.cell? ⟨IZ,2,none⟩ = some (.slice rR eZ.length rL)∧w'.cell? (ad284.add ((gV)).toNat) = some (.int .u8 (rd eL (gV)))) (ds:=[21]) #[false,false,false,false,false,false,false,false,false,false,false,false,false,false,false,false,false,false,false,false,false,false] (by kernel_rfl) rfl rfl ⟨(aY gE.out 0).trans rfl,(aY gE.out 1).trans rfl,(aY gE.out 2).trans rfl,(aY cB.out 0).trans rfl,(aY cB.out 1).trans rfl,(aY cB.out 2).trans rfl,(aY cQ.out 0).trans rfl,(aY cQ.out 1).trans rfl,(aY cQ.out 2).trans rfl,hx284_0⟩ (fun hHeld => ?_);refine kL aV.aPt aV.aOA (fun HT_ HW_ => ?_);generalize wr.drew = w70 at eD cB cQ eX gE HB hx284_0 hHeld ⊢;refine bY (i:=0) (N:=some 49) (v:=?_) (a':=?_) (eH 22 1) rfl rfl (bS HT_.out (by kernel_rfl)) (fun _ _ _ h => h) (Or.inl ⟨by rfl,?_⟩) ?_ ?_
               rotate_left
               ·intro w'
                go_simp;(with_reducible rfl)
               rotate_left
               ·simp only [Act.put,cO,cL,cP,bE,bJ]
                rfl
               refine bY (i:=2) (N:=some 51) (v:=?_) (a':=?_) (eH 22 5) rfl rfl (bS HT_.out (by kernel_rfl)) (fun _ _ _ h => h) (Or.inl ⟨by rfl,?_⟩) ?_ ?_;rotate_left
               ·intro w'
                go_simp;(with_reducible rfl)
               rotate_left
               ·simp only [Act.put,cO,cL,cP,bE,bJ]
                rfl
               refine bY (i:=3) (N:=some 52) (v:=?_) (a':=?_) (eH 22 13) rfl rfl (bS HT_.out (by kernel_rfl)) (fun _ _ _ h => h) (Or.inl ⟨by rfl,?_⟩) ?_ ?_;rotate_left
               ·intro w'
                go_simp;(with_reducible rfl)
               rotate_left
               ·simp only [Act.put,cO,cL,cP,bE,bJ]
                rfl
               refine bY (i:=6) (N:=some 55) (v:=?_) (a':=?_) (eH 22 77) rfl rfl (bS HT_.out (by kernel_rfl)) (fun _ _ _ h => h) (Or.inl ⟨by rfl,?_⟩) ?_ ?_;rotate_left
               ·intro w'
                go_simp;(with_reducible rfl)
               rotate_left
               ·simp only [Act.put,cO,cL,cP,bE,bJ]
                rfl
               refine bY (i:=11) (N:=some 60) (v:=?_) (a':=?_) (eH 22 2125) rfl rfl (bS HT_.out (by kernel_rfl)) (fun _ _ _ h => h) (Or.inl ⟨by rfl,?_⟩) ?_ ?_;rotate_left
               ·intro w'
                go_simp;(with_reducible rfl)
               rotate_left
               ·simp only [Act.put,cO,cL,cP,bE,bJ]
                rfl
               refine bY (i:=12) (N:=some 61) (v:=?_) (a':=?_) (eH 22 6221) rfl rfl (bS HT_.out (by kernel_rfl)) (fun _ _ _ h => h) (Or.inl ⟨by rfl,?_⟩) ?_ ?_;rotate_left
               ·intro w'
                go_simp;(with_reducible rfl)
               rotate_left
               ·simp only [Act.put,cO,cL,cP,bE,bJ]
                rfl
               refine bY (i:=15) (N:=some 64) (v:=?_) (a':=?_) (eH 22 38989) rfl rfl (bS HT_.out (by kernel_rfl)) (fun _ _ _ h => h) (Or.inl ⟨by rfl,?_⟩) ?_ ?_;rotate_left
               ·intro w'
                go_simp;(with_reducible rfl)
               rotate_left
               ·simp only [Act.put,cO,cL,cP,bE,bJ]
                rfl
               refine bY (i:=16) (N:=some 65) (v:=?_) (a':=?_) (eH 22 104525) rfl rfl (bS HT_.out (by kernel_rfl)) (fun _ _ _ h => h) (Or.inl ⟨by rfl,?_⟩) ?_ ?_;rotate_left
               ·intro w'
                go_simp;(with_reducible rfl)
               rotate_left
               ·simp only [Act.put,cO,cL,cP,bE,bJ]
                rfl
               refine gP (i:=1) (N:=some 50) (v:=?_) (a':=?_) (eH 22 104527) rfl rfl (dM HT_.out HW_.out (by kernel_rfl)) (fun _ _ _ h => h) (Or.inl ⟨by rfl,?_⟩) hHeld ?_ ?_;rotate_left
               ·rintro w' ⟨s0,s1,s2,s3,s4,s5,s6,s7,s8,s9⟩
                go_simp;(with_reducible rfl)
               rotate_left
               ·simp only [Act.put,cO,cL,cP,bE,bJ]
                rfl
               refine gP (i:=4) (N:=some 53) (v:=?_) (a':=?_) (eH 22 104543) rfl rfl (dM HT_.out HW_.out (by kernel_rfl)) (fun _ _ _ h => h) (Or.inl ⟨by rfl,?_⟩) hHeld ?_ ?_;rotate_left
               ·rintro w' ⟨s0,s1,s2,s3,s4,s5,s6,s7,s8,s9⟩
                go_simp;(with_reducible rfl)
               rotate_left
               ·simp only [Act.put,cO,cL,cP,bE,bJ]
                rfl
               refine bY (i:=5) (N:=some 54) (v:=?_) (a':=?_) (eH 22 104575) rfl rfl (bS HT_.out (by kernel_rfl)) (fun _ _ _ h => h) (Or.inl ⟨by rfl,?_⟩) ?_ ?_;rotate_left
               ·intro w'
                go_simp;(with_reducible rfl)
               rotate_left
               ·simp only [Act.put,cO,cL,cP,bE,bJ]
                rfl
               refine bY (i:=7) (N:=some 56) (v:=?_) (a':=?_) (eH 22 104703) rfl rfl (bS HT_.out (by kernel_rfl)) (fun _ _ _ h => h) (Or.inl ⟨by rfl,?_⟩) ?_ ?_;rotate_left
               ·intro w'
                go_simp;(with_reducible rfl)
               rotate_left
               ·simp only [Act.put,cO,cL,cP,bE,bJ]
                rfl
               refine bY (i:=8) (N:=some 57) (v:=?_) (a':=?_) (eH 22 104959) rfl rfl (bS HT_.out (by kernel_rfl)) (fun _ _ _ h => h) (Or.inl ⟨by rfl,?_⟩) ?_ ?_;rotate_left
               ·intro w'
                go_simp;(with_reducible rfl)
               rotate_left
               ·simp only [Act.put,cO,cL,cP,bE,bJ]
                rfl
               refine gP (i:=9) (N:=some 58) (v:=?_) (a':=?_) (eH 22 105471) rfl rfl (dM HT_.out HW_.out (by kernel_rfl)) (fun _ _ _ h => h) (Or.inl ⟨by rfl,?_⟩) hHeld ?_ ?_;rotate_left
               ·rintro w' ⟨s0,s1,s2,s3,s4,s5,s6,s7,s8,s9⟩
                go_simp;(with_reducible rfl)
               rotate_left
               ·simp only [Act.put,cO,cL,cP,bE,bJ]
                rfl
               refine gP (i:=10) (N:=some 59) (v:=?_) (a':=?_) (eH 22 106495) rfl rfl (dM HT_.out HW_.out (by kernel_rfl)) (fun _ _ _ h => h) (Or.inl ⟨by rfl,?_⟩) hHeld ?_ ?_;rotate_left
               ·rintro w' ⟨s0,s1,s2,s3,s4,s5,s6,s7,s8,s9⟩
                go_simp;(with_reducible rfl)
               rotate_left
               ·simp only [Act.put,cO,cL,cP,bE,bJ]
                rfl
               refine gP (i:=14) (N:=some 63) (v:=?_) (a':=?_) (eH 22 122879) rfl rfl (dM HT_.out HW_.out (by kernel_rfl)) (fun _ _ _ h => h) (Or.inl ⟨by rfl,?_⟩) hHeld ?_ ?_;rotate_left
               ·rintro w' ⟨s0,s1,s2,s3,s4,s5,s6,s7,s8,s9⟩
                go_simp;(with_reducible rfl)
               rotate_left
               ·simp only [Act.put,cO,cL,cP,bE,bJ]
                rfl
               refine DS (i:=13) (N:=some 62) (eH 22 131071) rfl rfl (jO HT_.out (by kernel_rfl)) (by decide) (fun K hK => ?_);refine BR Try.func25 (by kernel_rfl) rfl #[.agg #[.int .i64 aN,.int .i64 aJ,.slice bL aT.length bK],.int .i64 cX,.int .i64 zP] (by rfl) rfl rfl mS ?_
               with_reducible refine (bV.calls aN aJ _ _ aT cX zP VY _ ?side1 ?side2 A62.out).mono ?_
               (case side1 => exact pZ (Kd.cV eP.out HB.out))
               (case side2 => exact eS.out);rintro e w72 ⟨rfl,hb⟩;have HS9_:=(hb.cell (World.block_lt_of_cell? _ _ (hHeld.2.2.2.2.2.2.2.2.2))).trans (hHeld.2.2.2.2.2.2.2.2.2);refine ⟨_,rfl,?_⟩;replace eD:=aA.mk (Kd.cW (eQ eD.out) hb);replace cB:=aA.mk (aM (cH cB) hb);replace cQ:=aA.mk (aM (cH cQ) hb);replace eX:=aA.mk (aM (cH eX) hb);replace gE:=aA.mk (aM (cH gE) hb);replace HB:=aA.mk (aQ (wL HB kF lP nW JO) hb);(try clear hb);(try clear hb2);(try clear hk);(try clear hi);refine hK.out _ _ ⟨(aY gE.out 0).trans rfl,(aY gE.out 1).trans rfl,(aY gE.out 2).trans rfl,(aY cB.out 0).trans rfl,(aY cB.out 1).trans rfl,(aY cB.out 2).trans rfl,(aY cQ.out 0).trans rfl,(aY cQ.out 1).trans rfl,(aY cQ.out 2).trans rfl,HS9_⟩ (fun hHeld => ?_);clear hK K;refine qM (a':=?_) ?_ ?_;rotate_left
               ·show Act.put _ (some 62) _ = _
                simp only [Act.put,cO,cL,cP,bE,bJ];rfl
               refine DS (i:=17) (N:=some 66) (eH 22 262143) rfl rfl (jO HT_.out (by kernel_rfl)) (by decide) (fun K hK => ?_);refine BR Try.func25 (by kernel_rfl) rfl #[.agg #[.int .i64 eR,.int .i64 eV,.slice rR eZ.length rL],.int .i64 zP,.int .i64 jM] (by rfl) rfl rfl mS ?_
               with_reducible refine (bV.calls eR eV _ _ eZ zP jM SK _ ?side1 ?side2 A63.out).mono ?_
               (case side1 => exact pZ (Kd.cV aBl.out HB.out))
               (case side2 => exact aBo.out);rintro e w73 ⟨rfl,hb⟩;have HS9_:=(hb.cell (World.block_lt_of_cell? _ _ (hHeld.2.2.2.2.2.2.2.2.2))).trans (hHeld.2.2.2.2.2.2.2.2.2);refine ⟨_,rfl,?_⟩;replace eD:=aA.mk (Kd.cW (eQ eD.out) hb);replace cB:=aA.mk (aM (cH cB) hb);replace cQ:=aA.mk (aM (cH cQ) hb);replace eX:=aA.mk (aM (cH eX) hb);replace gE:=aA.mk (aM (cH gE) hb);replace HB:=aA.mk (aQ (wL HB kF lP nW JO) hb);(try clear hb);(try clear hb2);(try clear hk);(try clear hi);refine hK.out _ _ ⟨(aY gE.out 0).trans rfl,(aY gE.out 1).trans rfl,(aY gE.out 2).trans rfl,(aY cB.out 0).trans rfl,(aY cB.out 1).trans rfl,(aY cB.out 2).trans rfl,(aY cQ.out 0).trans rfl,(aY cQ.out 1).trans rfl,(aY cQ.out 2).trans rfl,HS9_⟩ (fun hHeld => ?_);clear hK K;refine qM (a':=?_) ?_ ?_;rotate_left
               ·show Act.put _ (some 66) _ = _
                simp only [Act.put,cO,cL,cP,bE,bJ];rfl
               refine DS (i:=18) (N:=some 67) (eH 22 524287) rfl rfl (jO HT_.out (by kernel_rfl)) (by decide) (fun K hK => ?_);refine BR Try.func24 (by kernel_rfl) rfl #[.int .u8 VY,.int .u8 SK] (by rfl) rfl rfl mS ?_
               with_reducible refine (cI.calls VY SK MO _ A64.out).mono ?_
               rintro e w' ⟨rfl,⟨nd,rfl⟩⟩;refine ⟨_,rfl,?_⟩;have p65 : 0≤((gV) : Int):=of_decide_eq_true mK;have q65 : ((gV) : Int) < ((eL.length : Int) : Int):=of_decide_eq_true mK;obtain ⟨go65,bAI,eo65,aQH,gl65,cl65,HG65⟩:=Kd.AE eD.out (by omega)
               (first | cases eo65 | (injection eo65 with ea_ en_ ec_;(first | subst ea_ | (injection ea_ with ea_;subst ea_));subst ec_;clear en_));have GB65:=aA.mk aQH;have GG65:=aA.mk HG65;clear aQH gl65 HG65
               (first | simp only [add_plain] at hx284_0 | skip);obtain ⟨hx65_0,hf65_0⟩:=Kd.nG 0 eD.out ((gV) : Int) p65 q65;replace p65:=eq_true p65;replace q65:=eq_true q65;have HP74:=Kd.KX eD.out ((gV) : Int) (Go.bits .xor .u8 (rd eL (gV)) MO);rw [← Ny288.out] at HP74;have HQ74:=aA.mk HP74;clear HP74;refine hK.out _ _ ⟨(aY gE.out 0).trans rfl,(aY gE.out 1).trans rfl,(aY gE.out 2).trans rfl,(aY cB.out 0).trans rfl,(aY cB.out 1).trans rfl,(aY cB.out 2).trans rfl,(aY cQ.out 0).trans rfl,(aY cQ.out 1).trans rfl,(aY cQ.out 2).trans rfl,hHeld.2.2.2.2.2.2.2.2.2⟩ (fun hHeld => ?_);clear hK K;refine qM (a':=?_) ?_ ?_;rotate_left
               ·show Act.put _ (some 67) _ = _
                simp only [Act.put,cO,cL,cP,bE,bJ];rfl
               refine bY (i:=19) (N:=some 68) (v:=?_) (a':=?_) (eH 22 1048575) rfl rfl (bS HT_.out (by kernel_rfl)) (fun _ _ _ h => h) (Or.inl ⟨by rfl,?_⟩) ?_ ?_;rotate_left
               ·intro w'
                go_simp;(with_reducible rfl)
               rotate_left
               ·simp only [Act.put,cO,cL,cP,bE,bJ]
                rfl
               refine bY (i:=20) (N:=some 69) (v:=?_) (a':=?_) (eH 22 2097151) rfl rfl (bS HT_.out (by kernel_rfl)) (fun _ _ _ h => h) (Or.inl ⟨by rfl,?_⟩) ?_ ?_;rotate_left
               ·intro w'
                go_simp;(with_reducible rfl)
               rotate_left
               ·simp only [Act.put,cO,cL,cP,bE,bJ]
                rfl
               refine QH (i:=21) (N:=none) (eH 22 4194303) rfl rfl (jO HT_.out (by kernel_rfl)) (by decide) (fun K hK => ?_);refine LI (w1:=?_) (by rfl) rfl ?_ ?_;rotate_left
               ·go_simp
                rfl
               refine hK.out _ _ ?_;clear hK K;refine yV (rJ HT_.out (by kernel_rfl)) ?_
               try go_wp2
               go_roundg k4
               case measure => have:=HJ2.out;have:=vJ.out;have:=zN.out;have:=ZM.out;omega
               case rel => exact ⟨(wrap64 (zP + 1)),(y288),(.slice (some ⟨go65,0,none⟩) eL.length aQW),nL,H',⟨by have:=HJ2.out;have:=vJ.out;have:=zN.out;have:=ZM.out;omega⟩,⟨eQ HQ74.out⟩,⟨by (with_reducible repeat first | apply aD | apply aH | apply aE);refine bF ?_ (by have h_:=Kd.jE eD.out cB.out (by decide);intro e_;exact h_ (by rw [e_];rfl)) _;(with_reducible repeat first | apply aD | apply aH | apply aE);exact cB.out⟩,⟨by (with_reducible repeat first | apply aD | apply aH | apply aE);refine bF ?_ (by have h_:=Kd.jE eD.out cQ.out (by decide);intro e_;exact h_ (by rw [e_];rfl)) _;(with_reducible repeat first | apply aD | apply aH | apply aE);exact cQ.out⟩,⟨by (with_reducible repeat first | apply aD | apply aH | apply aE);refine bF ?_ (by have h_:=Kd.jE eD.out eX.out (by decide);intro e_;exact h_ (by rw [e_];rfl)) _;(with_reducible repeat first | apply aD | apply aH | apply aE);exact eX.out⟩,⟨by (with_reducible repeat first | apply aD | apply aH | apply aE);refine bF ?_ (by have h_:=Kd.jE eD.out gE.out (by decide);intro e_;exact h_ (by rw [e_];rfl)) _;(with_reducible repeat first | apply aD | apply aH | apply aE);exact gE.out⟩,⟨aWc HB GB65 kF lP nW JO⟩⟩
              ·rw [if_neg c61] at H
               exact absurd H (by simp)
             ·rw [if_neg c60] at H
              exact absurd H (by simp)
            ·rw [if_neg c58] at H
             have aRi : decide (zP < aJ) = false:=decide_eq_false c58;clear c58;have H':=aA.mk H;clear H;have aQj:=mI.out;have aPL:=mH.out;have aYq:=oQ.out;have aXC:=oP.out;have aYp:=pR.out;have aXB:=zD.out;have aUH:=bO cB 0 (.int .i64 aN) rfl;have aUG:=bO cB 1 (.int .i64 aJ) rfl;have aUF:=bO cB 2 (.slice bL aT.length bK) rfl;have aTt:=aC cB.out 0;have aTs:=aC cB.out 1;have aTr:=aC cB.out 2
             go_wp2
             go_roundg k4
             case measure => have:=HJ2.out;have:=vJ.out;have:=zN.out;have:=ZM.out;omega
             case rel => exact ⟨(wrap64 (jM + 1)),(eL),(kJ),nL,H',⟨by have:=HJ2.out;have:=vJ.out;have:=zN.out;have:=ZM.out;omega⟩,⟨eQ eD.out⟩,⟨gM cB.out⟩,⟨gM cQ.out⟩,⟨gM eX.out⟩,⟨gM gE.out⟩,⟨wL HB kF lP nW JO⟩⟩
         ·rw [if_neg KT] at H
          have AN : decide (jM < eV) = false:=decide_eq_false KT;clear KT;have H':=aA.mk H;clear H;have aQi:=mH.out;have aPK:=mI.out;have aYo:=sP.out;have aXA:=sN.out;have aYn:=sO.out;have aXz:=DO.out;have aUB:=bO cQ 0 (.int .i64 eR) rfl;have aUA:=bO cQ 1 (.int .i64 eV) rfl;have aUz:=bO cQ 2 (.slice rR eZ.length rL) rfl;have aTn:=aC cQ.out 0;have aTm:=aC cQ.out 1;have aTl:=aC cQ.out 2
          go_wp2
          go_roundg k3
          case measure => have:=HJ2.out;have:=vJ.out;have:=zN.out;omega
          case rel => exact ⟨(wrap64 (cX + 1)),(yO),(kJ),nL,H',⟨by have:=HJ2.out;have:=vJ.out;have:=zN.out;omega⟩,⟨eQ eD.out⟩,⟨gM cB.out⟩,⟨gM cQ.out⟩,⟨gM eX.out⟩,⟨gM gE.out⟩,⟨wL HB kF lP nW JO⟩⟩
      ·rw [if_neg c48] at H
       have aEy : decide (cX < aN) = false:=decide_eq_false c48;clear c48;simp only [Option.some.injEq,Prod.mk.injEq] at H;obtain ⟨rfl,rfl,rfl,rfl⟩:=H;have aQh:=mI.out;have aPJ:=mH.out;have aQg:=oQ.out;have aPI:=oP.out;have aYm:=pR.out;have aXy:=zD.out;have aUv:=bO cB 0 (.int .i64 aN) rfl;have aUu:=bO cB 1 (.int .i64 aJ) rfl;have aUt:=bO cB 2 (.slice bL aT.length bK) rfl;have aTh:=aC cB.out 0;have aTg:=aC cB.out 1;have aTf:=aC cB.out 2;have aYl:=DO.out;have aXx:=sO.out;have aYk:=VE.out;have aXw:=zE.out;have aUp:=bO gE 0 (.int .i64 wI) rfl;have aUo:=bO gE 1 (.int .i64 wH) rfl;have aUn:=bO gE 2 kJ rfl;have aTb:=aC gE.out 0;have aTa:=aC gE.out 1;have aSZ:=aC gE.out 2;have aYj:=sN.out;have aXv:=sP.out;have aUm:=bO eX 0 (.int .i64 0) rfl;have aUl:=bO eX 1 (.int .i64 0) rfl;have aUk:=bO eX 2 (.slice none 0 0) rfl;have aSY:=aC eX.out 0;have aSX:=aC eX.out 1;have aSW:=aC eX.out 2;obtain ⟨aSs,aQT,eo92⟩:=Kd.cM eD.out;subst eo92
       go_wp2
       refine bodyPost_ret (dE rfl _ _ BW 24 #[.int .i64 wI,.int .i64 wH,.slice aSs vB.length aQT] (0,0) _ rfl (by (with_reducible repeat first | apply aD | apply aH | apply aE);refine bA (cs:=#[.int .i64 wI,.int .i64 wH,.slice none 0 0]) ?_ 2 _ rfl;(with_reducible repeat first | apply aD | apply aH | apply aE);refine bA (cs:=#[.int .i64 wI,.int .i64 0,.slice none 0 0]) ?_ 1 _ rfl;(with_reducible repeat first | apply aD | apply aH | apply aE);refine bA (cs:=#[.int .i64 0,.int .i64 0,.slice none 0 0]) ?_ 0 _ rfl;(with_reducible repeat first | apply aD | apply aH | apply aE);exact eX.out) Try.underlying24 rfl (by kernel_rfl)) rfl ?_;exact ⟨_,uB,by (with_reducible repeat first | apply Kd.cK | apply Kd.cJ | apply Kd.cC);exact Kd.cN (Kd.dD (p:=⟨BW,2,none⟩) (Kd.dD (p:=⟨BW,1,none⟩) (Kd.dD (p:=⟨BW,0,none⟩) (Kd.eC eD.out eX.out (by decide)) (fun _ hk => hk.2) (.int .i64 wI)) (fun _ hk => hk.2) (.int .i64 wH)) (fun _ hk => hk.2) (.slice aSs vB.length aQT)) (fun _ hk => trivial),wL HB kF lP nW JO⟩
end Go.Proofs.Yteofcbkjhdadpaa.Pr
