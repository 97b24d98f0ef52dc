import Derived.Test.YteofcbkjhdadpaaCBuildChecksx0
import Derived.Test.YteofcbkjhdadpaaCBuildChecksx1
import Derived.Test.YteofcbkjhdadpaaCBuildChecksx2
import Derived.Test.YteofcbkjhdadpaaCBuildChecksx9
import Derived.Test.YteofcbkjhdadpaaCBuildChecksx11
import Derived.Test.YteofcbkjhdadpaaCBuildChecksx12
import Derived.Test.YteofcbkjhdadpaaCBuildChecksx14
import Derived.Test.YteofcbkjhdadpaaCBuildChecksx15
import Derived.Test.YteofcbkjhdadpaaCBuildChecksq
set_option maxHeartbeats 8000000
set_option maxRecDepth 100000
set_option linter.unusedSimpArgs false
set_option linter.unusedVariables false
namespace Go.Proofs.Yteofcbkjhdadpaa.Pr
open Go.RowKit Go.Proofs.aH.bJ Go.Proofs.aH.eI Go.Proofs.aH.fW
attribute [local go_sem] iN iL kP kO gK gJ iM iK   -- for this text's walks alone
mutual
def qY.j0 : Nat→Int→Int→List Int→Int→Int→Bool→Int→Int→List Int→Int→Int→List Int→Option (Bool)
 | 0,_,_,_,_,_,_,_,_,_,_,_,_ => none
 | k + 1,x0,x1,x2,x8,VO,x52,OP,OO,ON,OM,OL,OK => if x52 = true then ((cG.f k).bind fun bEE => (if bEE = true then (if x8 = 2 then (some (VO == 2)) else (some false)) else (some false))) else (if x8 = 0 then (qY.j1 k x0 x1 x2 (VO != 0) OP OO ON OM OL OK) else (qY.j1 k x0 x1 x2 true OP OO ON OM OL OK))
def qY.j1 : Nat→Int→Int→List Int→Bool→Int→Int→List Int→Int→Int→List Int→Option (Bool)
 | 0,_,_,_,_,_,_,_,_,_,_ => none
 | k + 1,x0,x1,x2,x67,OP,OO,ON,OM,OL,OK => if x67 = true then (some false) else ((gV.f k (wrap64 (x0)) (wrap64 (x1)) x2).bind fun aVZ => ((bD.f k OP OO ON aVZ).bind fun aJC => ((bD.f k OM OL OK aVZ).bind fun aJB => ((dZ.f aJC.1 aJC.2.1 aJC.2.2.1).bind fun aZr => ((dZ.f aJB.1 aJB.2.1 aJB.2.2.1).bind fun aZq => ((gV.f k (wrap64 (x0)) 0 ([] : List Int)).bind fun aVY => ((bD.f k OP OO ON aVY).bind fun aOp => ((bD.f k OM OL OK aVY).bind fun aOo => ((kY.f k (wrap64 (x0))).bind fun aBZ => ((cG.f k).bind fun bED => (if bED = true then (if aJC.2.2.2 = 0 then (if aJB.2.2.2 = 0 then (if aZr.1 = (wrap64 (x0)) then (if aZq.1 = (wrap64 (x0)) then ((gI.f aOp.1 aOp.2.1 aOp.2.2.1 aBZ.1 aBZ.2.1 aBZ.2.2.1).bind fun bEC => (if bEC = true then ((gI.f aOo.1 aOo.2.1 aOo.2.2.1 aBZ.1 aBZ.2.1 aBZ.2.2.1).bind fun bEB => (some bEB)) else (some false))) else (some false)) else (some false)) else (some false)) else (some false)) else (some false))))))))))))
end
mutual
def aW.l0 : Nat→Int→Int→Int→List Int→Int→Int→List Int→Option (Int×Int×List Int×Int)
 | 0,_,_,_,_,_,_,_ => none
 | k + 1,x5,KM,KL,OJ,OI,OH,KK => if x5 < KL then (aW.l1 k x5 0 KM KL OJ OI OH KK) else (some (OI,OH,KK,0))
def aW.l1 : Nat→Int→Int→Int→Int→List Int→Int→Int→List Int→Option (Int×Int×List Int×Int)
 | 0,_,_,_,_,_,_,_,_ => none
 | k + 1,x5,x6,KM,KL,OJ,OI,OH,KK => if x6 < KM then ((cF.f KM KL OJ x6 x5).bind fun aGD => (if KK.length < 140737488355328 then (aW.l1 k x5 (wrap64 (x6 + 1)) KM KL OJ OI OH (KK ++ [aGD])) else (none))) else (aW.l0 k (wrap64 (x5 + 1)) KM KL OJ OI OH KK)
end
def aW.f (k : Nat) (aK : Int) (aI : Int) (aQ : List Int) : Option (Int×Int×List Int×Int):=(bA.f aK aI aQ).bind fun aKq => (if aKq = true then (aW.l0 k 0 aK aI aQ aI aK ([] : List Int)) else (some (0,0,([] : List Int),3)))
def aW.T10 : Bool×List (List Nat×List Nat):=(true,[([],[]),([0],[0]),([],[]),([],[]),([],[]),([2,3,4],[2,3,4]),([5],[5]),([1,6,5],[1,6]),([0,1,2,3,4,5,6,7],[]),([8,7,7,0,1,2,3,4,5,6,7],[7,8])])
def aW.B10 : List Nat:=[0,1,0,0,0,28,60,127,255,511]
theorem aW.aVL : rV .any (opsOf Try.f19 10) = aW.T10:=by kernel_rfl
theorem aW.aUX : nB aW.T10.2 aW.B10 = true:=by kernel_rfl
theorem aW.calls (k : Nat) (aK : Int) (aI : Int) (bI : Option Addr) (bH : Nat) (aQ : List Int) (r1 : Int) (r2 : Int) (r3 : List Int) (r4 : Int) (w : World) (hr0_2 : Kd.C (Kd.int .u8) w bI aQ.length aQ) (hc0_2 : aQ.length≤bH) (h : aW.f k aK aI aQ = some (r1,r2,r3,r4)) :
  Calls Try.prog 19 #[.agg #[.int .i64 aK,.int .i64 aI,.slice bI aQ.length bH]] w fun e w' => ∃ uT : Value,e = .returned (.tuple #[.agg #[.int .i64 r1,.int .i64 r2,uT],.int .i64 r4])∧Kd.R (Kd.int .u8) 5 w' w.heap.size (fun _ => True) uT r3∧Below w.heap.size w w':=by
 have zL:=Try.underlying24;have dY:=aA.mk hr0_2;have eC:=aA.mk hc0_2;clear hr0_2 hc0_2;have HB:=aA.mk (Below.refl w.heap.size w);have H : ((bA.f aK aI aQ).bind fun aKq => (if aKq = true then (aW.l0 k 0 aK aI aQ aI aK ([] : List Int)) else (some (0,0,([] : List Int),3)))) = some (r1,r2,r3,r4):=h;clear h;replace H:=Option.bind_eq_some_iff.mp H;obtain ⟨aKq,A20,H⟩:=H;replace H : (if aKq = true then (aW.l0 k 0 aK aI aQ aI aK ([] : List Int)) else (some (0,0,([] : List Int),3))) = some (r1,r2,r3,r4):=H;have A2:=aA.mk A20;clear A20
 by_cases c3 : aKq = true
 ·subst c3
  have H1 : (aW.l0 k 0 aK aI aQ aI aK ([] : List Int)) = some (r1,r2,r3,r4):=by rw [if_pos rfl] at H;exact H
  clear H;have H:=H1;clear H1;have H':=aA.mk H;clear H;go_enter Try.func19,Try.ntmps19;go_wp2_with (first | ((with_reducible refine bK (N:=1) rfl ?_);refine lS (N:=1) (cs:=#[.int .i64 aK,.int .i64 aI,.slice bI aQ.length bH]) (t:=24) ?_;intro MM hg w4 hbox hb;have dP:=aA.mk (hbox);have bAb:=aA.mk (eP hg (cX HB) : w.heap.size≤MM);have tB:=aA.mk (eP hg (cX HB) : w.heap.size≤MM);replace HB:=aA.mk (aN (cX HB) hb);clear hb hbox hg) | ((with_reducible refine bK (N:=2) rfl ?_);refine lS (N:=2) (cs:=#[.int .i64 0,.int .i64 0,.slice none 0 0]) (t:=24) ?_;intro IA hg w5 hbox hb;have jP:=aA.mk (hbox);have bAa:=aA.mk (eP hg (cL HB tB) : w.heap.size≤IA);have CB:=aA.mk (eP hg (cL HB tB) : w.heap.size≤IA);replace HB:=aA.mk (aN (cL HB tB) hb);have xL:=aA.mk (sU hg (cH dP));have xK:=aA.mk (sV hg (cH dP));replace dP:=aA.mk (aJ (cH dP) hb);clear hb hbox hg;have aUA:=xL.out;have aUz:=xK.out;have jN:=bL dP 0 (.int .i64 aK) rfl;have jM:=bL dP 1 (.int .i64 aI) rfl;have jL:=bL dP 2 (.slice bI aQ.length bH) rfl;have jK:=aC dP.out 0;have jJ:=aC dP.out 1;have jI:=aC dP.out 2) | ((with_reducible refine bE (f:=17) rfl ?_);refine cO (some 8) rfl rfl Try.func17 (by kernel_rfl) rfl #[.agg #[.int .i64 aK,.int .i64 aI,.slice bI aQ.length bH]] rfl lU ?_;(with_reducible refine (bA.calls aK aI _ _ aQ true _ ?side1 ?side2 A2.out).mono ?_);(case side1 => exact nY (Kd.cP dY.out HB.out));(case side2 => exact eC.out);rintro e w8 ⟨rfl,hb⟩;refine ⟨_,rfl,?_⟩;replace dP:=aA.mk (aJ (cH dP) hb);replace jP:=aA.mk (aJ (cH jP) hb);replace HB:=aA.mk (aN (dA HB tB CB) hb);(try clear hb);(try clear hb2);(try clear hk);(try clear hi);have oQ:=bL dP 0 (.int .i64 aK) rfl;have oP:=bL dP 1 (.int .i64 aI) rfl;have oO:=bL dP 2 (.slice bI aQ.length bH) rfl;have oN:=aC dP.out 0;have oM:=aC dP.out 1;have oL:=aC dP.out 2) | ((with_reducible refine bK (N:=4) rfl ?_);refine lS (N:=4) (cs:=#[.int .i64 0,.int .i64 0,.slice none 0 0]) (t:=24) ?_;intro TZ hg w10 hbox hb;have iS:=aA.mk (hbox);have bHu:=aA.mk (eP hg (dA HB tB CB) : w.heap.size≤TZ);have US:=aA.mk (eP hg (dA HB tB CB) : w.heap.size≤TZ);replace HB:=aA.mk (aN (dA HB tB CB) hb);have pZ:=aA.mk (sU hg (cH dP));have BE:=aA.mk (sV hg (cH dP));replace dP:=aA.mk (aJ (cH dP) hb);have xJ:=aA.mk (sU hg (cH jP));have TH:=aA.mk (sV hg (cH jP));replace jP:=aA.mk (aJ (cH jP) hb);clear hb hbox hg;have aFy:=BE.out;have aFv:=pZ.out;have aNt:=TH.out;have aNo:=xJ.out;have kW:=bL iS 0 (.int .i64 0) rfl;have kV:=bL iS 1 (.int .i64 0) rfl;have kU:=bL iS 2 (.slice none 0 0) rfl;have kT:=aC iS.out 0;have kS:=aC iS.out 1;have kR:=aC iS.out 2))
  go_loopg [5] k (fun kq v5 w' => ∃ (iH : Int) (AR : List Int) (qI : Value),v5 = .int .i64 iH∧aA (aW.l0 kq iH aK aI aQ aI aK AR = some (r1,r2,r3,r4))∧aA (kq≤k)∧aA (Kd.R (Kd.int .u8) 5 w' w.heap.size (fun _ => True) qI AR)∧aA (w'.heap[MM]? = some (.cells #[.int .i64 aK,.int .i64 aI,(.slice bI aQ.length bH)] 24 (0,0)))∧aA (w'.heap[IA]? = some (.cells #[.int .i64 0,.int .i64 0,(.slice none 0 0)] 24 (0,0)))∧aA (w'.heap[TZ]? = some (.cells #[.int .i64 aI,.int .i64 aK,qI] 24 (0,0)))∧aA (Below w.heap.size w w'))
  case atStart => exact ⟨(0),(([] : List Int)),(.slice none 0 0),mU,H',⟨Nat.le_refl _⟩,⟨IW⟩,⟨by (with_reducible repeat first | apply aE | apply aG | apply aD);refine aV ?_ pZ.out _;(with_reducible repeat first | apply aE | apply aG | apply aD);refine aV ?_ pZ.out _;(with_reducible repeat first | apply aE | apply aG | apply aD);refine aV ?_ pZ.out _;(with_reducible repeat first | apply aE | apply aG | apply aD);exact dP.out⟩,⟨by (with_reducible repeat first | apply aE | apply aG | apply aD);refine aV ?_ xJ.out _;(with_reducible repeat first | apply aE | apply aG | apply aD);refine aV ?_ xJ.out _;(with_reducible repeat first | apply aE | apply aG | apply aD);refine aV ?_ xJ.out _;(with_reducible repeat first | apply aE | apply aG | apply aD);exact jP.out⟩,⟨by (with_reducible repeat first | apply aE | apply aG | apply aD);refine aZ (cs:=#[.int .i64 aI,.int .i64 aK,.slice none 0 0]) ?_ 2 _ rfl;(with_reducible repeat first | apply aE | apply aG | apply aD);refine aZ (cs:=#[.int .i64 aI,.int .i64 0,.slice none 0 0]) ?_ 1 _ rfl;(with_reducible repeat first | apply aE | apply aG | apply aD);refine aZ (cs:=#[.int .i64 0,.int .i64 0,.slice none 0 0]) ?_ 0 _ rfl;(with_reducible repeat first | apply aE | apply aG | apply aD);exact iS.out⟩,⟨fE HB tB CB US⟩⟩
  case round =>
   clear H';(try clear c1);(try clear p2);(try clear c3);(try clear c6);(try clear DR);(try clear yR);(try clear kW);(try clear kV);(try clear kU);(try clear jN);(try clear jM);(try clear jL);(try clear oQ);(try clear oP);(try clear oO);(try clear kT);(try clear kS);(try clear kR);(try clear jK);(try clear jJ);(try clear jI);(try clear oN);(try clear oM);(try clear oL);obtain ⟨iH,AR,qI,rfl,HA,yS,kM,dP,jP,iS,HB⟩:=hrel
   cases gk with
   | zero => exact absurd HA.out (by simp [aW.l0])
   | succ k1 =>
    have H:=HA.out;clear HA;simp only [aW.l0] at H
    by_cases ZX : iH < aI
    ·rw [if_pos ZX] at H
     have aOk : decide (iH < aI) = true:=decide_eq_true ZX;clear ZX;have H':=aA.mk H;clear H;have aNs:=xL.out;have aNn:=xK.out;have aSL:=pZ.out;have aSt:=BE.out;have aJh:=bL dP 0 (.int .i64 aK) rfl;have aJg:=bL dP 1 (.int .i64 aI) rfl;have aJf:=bL dP 2 (.slice bI aQ.length bH) rfl;have aIP:=aC dP.out 0;have aIO:=aC dP.out 1;have aIN:=aC dP.out 2
     go_wp2
     go_loopg [6] k1 (fun kq v6 w' => ∃ (EE : Int) (rR : List Int) (qI : Value),v6 = .int .i64 EE∧aA (aW.l1 kq iH EE aK aI aQ aI aK rR = some (r1,r2,r3,r4))∧aA (kq≤k1)∧aA (Kd.R (Kd.int .u8) 5 w' w.heap.size (fun _ => True) qI rR)∧aA (w'.heap[MM]? = some (.cells #[.int .i64 aK,.int .i64 aI,(.slice bI aQ.length bH)] 24 (0,0)))∧aA (w'.heap[IA]? = some (.cells #[.int .i64 0,.int .i64 0,(.slice none 0 0)] 24 (0,0)))∧aA (w'.heap[TZ]? = some (.cells #[.int .i64 aI,.int .i64 aK,qI] 24 (0,0)))∧aA (Below w.heap.size w w'))
     case atStart => exact ⟨(0),(AR),(qI),mU,H',⟨Nat.le_refl _⟩,⟨dB kM.out⟩,⟨gP dP.out⟩,⟨gP jP.out⟩,⟨gP iS.out⟩,⟨fE HB tB CB US⟩⟩
     case round =>
      clear H';(try clear c1);(try clear p2);(try clear c3);(try clear c6);(try clear DR);(try clear yR);(try clear ZX);(try clear aOk);(try clear c15);(try clear c16);(try clear IU);(try clear kW);(try clear kV);(try clear kU);(try clear aJh);(try clear aJg);(try clear aJf);(try clear jN);(try clear jM);(try clear jL);(try clear oQ);(try clear oP);(try clear oO);(try clear kT);(try clear kS);(try clear kR);(try clear aIP);(try clear aIO);(try clear aIN);(try clear jK);(try clear jJ);(try clear jI);(try clear oN);(try clear oM);(try clear oL);(try clear p2);obtain ⟨EE,rR,qI,rfl,HA,zU,kM,dP,jP,iS,HB⟩:=hrel
      cases gk with
      | zero => exact absurd HA.out (by simp [aW.l1])
      | succ k2 =>
       have H:=HA.out;clear HA;simp only [aW.l1] at H
       by_cases OE : EE < aK
       ·rw [if_pos OE] at H
        have aFQ : decide (EE < aK) = true:=decide_eq_true OE;clear OE;replace H:=Option.bind_eq_some_iff.mp H;obtain ⟨aGD,bAR,H⟩:=H;replace H : (if rR.length < 140737488355328 then (aW.l1 k2 iH (wrap64 (EE + 1)) aK aI aQ aI aK (rR ++ [aGD])) else (none)) = some (r1,r2,r3,r4):=H;have A19:=aA.mk bAR;clear bAR
        by_cases NY : rR.length < 140737488355328
        ·rw [if_pos NY] at H
         have LMc20:=aA.mk NY;clear NY;obtain ⟨y598,hy598⟩ : ∃ y_ : List Int,y_ = (rR ++ [aGD]):=⟨_,rfl⟩
         replace H : (aW.l1 k2 iH (wrap64 (EE + 1)) aK aI aQ aI aK y598) = some (r1,r2,r3,r4):=by first | (rw [hy598];with_reducible exact H) | (have H2_:=(Option.bind_some _ _).symm.trans H;rw [hy598];with_reducible exact H2_) | (have H2_:=(Option.bind_some _ _).symm.trans H;with_reducible exact H2_) | with_reducible exact H | (rw [hy598];exact H) | exact H
         have Ny598:=aA.mk hy598;clear hy598;have H':=aA.mk H;clear H;have aSJ:=xL.out;have aSr:=xK.out;have aNr:=pZ.out;have aNm:=BE.out;have LK:=bL dP 0 (.int .i64 aK) rfl;have LJ:=bL dP 1 (.int .i64 aI) rfl;have LI:=bL dP 2 (.slice bI aQ.length bH) rfl;have LH:=aC dP.out 0;have LG:=aC dP.out 1;have LF:=aC dP.out 2
         try go_wp2
         replace kM:=aA.mk (Kd.bP kM.out);replace dP:=aA.mk (aG dP.out);replace jP:=aA.mk (aG jP.out);replace iS:=aA.mk (aG iS.out);replace HB:=aA.mk (eD HB.out);refine qD (n:=10) (S:=fun w' => w'.cell? ⟨TZ,0,none⟩ = some (.int .i64 aI)∧w'.cell? ⟨TZ,1,none⟩ = some (.int .i64 aK)∧w'.cell? ⟨TZ,2,none⟩ = some (qI)∧w'.cell? ⟨MM,0,none⟩ = some (.int .i64 aK)∧w'.cell? ⟨MM,1,none⟩ = some (.int .i64 aI)∧w'.cell? ⟨MM,2,none⟩ = some (.slice bI aQ.length bH)) (ds:=[9]) #[false,false,false,false,false,false,false,false,false,false] (by kernel_rfl) rfl rfl ⟨(bB iS.out 0).trans rfl,(bB iS.out 1).trans rfl,(bB iS.out 2).trans rfl,(bB dP.out 0).trans rfl,(bB dP.out 1).trans rfl,(bB dP.out 2).trans rfl⟩ (fun hHeld => ?_);refine jR aW.aVL aW.aUX (fun HT_ HW_ => ?_);generalize wr.drew = w24 at kM dP jP iS HB hHeld ⊢;refine bZ (i:=0) (N:=some 28) (v:=?_) (a':=?_) (eB 10 1) rfl rfl (bM HT_.out (by kernel_rfl)) (fun _ _ _ h => h) (Or.inl ⟨by rfl,?_⟩) ?_ ?_;rotate_left
         ·intro w'
          go_simp;(with_reducible rfl)
         rotate_left
         ·simp only [Act.put,cT,cS,cU,bF,bG]
          rfl
         refine bZ (i:=3) (N:=some 31) (v:=?_) (a':=?_) (eB 10 9) rfl rfl (bM HT_.out (by kernel_rfl)) (fun _ _ _ h => h) (Or.inl ⟨by rfl,?_⟩) ?_ ?_;rotate_left
         ·intro w'
          go_simp;(with_reducible rfl)
         rotate_left
         ·simp only [Act.put,cT,cS,cU,bF,bG]
          rfl
         refine bZ (i:=4) (N:=some 32) (v:=?_) (a':=?_) (eB 10 25) rfl rfl (bM HT_.out (by kernel_rfl)) (fun _ _ _ h => h) (Or.inl ⟨by rfl,?_⟩) ?_ ?_;rotate_left
         ·intro w'
          go_simp;(with_reducible rfl)
         rotate_left
         ·simp only [Act.put,cT,cS,cU,bF,bG]
          rfl
         refine gN (i:=1) (N:=some 29) (v:=?_) (a':=?_) (eB 10 27) rfl rfl (dT HT_.out HW_.out (by kernel_rfl)) (fun _ _ _ h => h) (Or.inl ⟨by rfl,?_⟩) hHeld ?_ ?_;rotate_left
         ·rintro w' ⟨s0,s1,s2,s3,s4,s5⟩
          go_simp;(with_reducible rfl)
         rotate_left
         ·simp only [Act.put,cT,cS,cU,bF,bG]
          rfl
         refine gN (i:=2) (N:=some 30) (v:=?_) (a':=?_) (eB 10 31) rfl rfl (dT HT_.out HW_.out (by kernel_rfl)) (fun _ _ _ h => h) (Or.inl ⟨by rfl,?_⟩) hHeld ?_ ?_;rotate_left
         ·rintro w' ⟨s0,s1,s2,s3,s4,s5⟩
          go_simp;(with_reducible rfl)
         rotate_left
         ·simp only [Act.put,cT,cS,cU,bF,bG]
          rfl
         refine EK (i:=5) (N:=some 33) (eB 10 63) rfl rfl (jY HT_.out (by kernel_rfl)) (by decide) (fun K hK => ?_);refine DN Try.func25 (by kernel_rfl) rfl #[.agg #[.int .i64 aK,.int .i64 aI,.slice bI aQ.length bH],.int .i64 EE,.int .i64 iH] (by rfl) rfl rfl lU ?_
         with_reducible refine (cF.calls aK aI _ _ aQ EE iH aGD _ ?side1 ?side2 A19.out).mono ?_
         (case side1 => exact nY (Kd.cP dY.out HB.out))
         (case side2 => exact eC.out);rintro e w25 ⟨rfl,hb⟩;refine ⟨_,rfl,?_⟩;replace kM:=aA.mk (Kd.bV (dB kM.out) hb);replace dP:=aA.mk (aJ (cH dP) hb);replace jP:=aA.mk (aJ (cH jP) hb);replace iS:=aA.mk (aJ (cH iS) hb);replace HB:=aA.mk (aN (fE HB tB CB US) hb);(try clear hb);(try clear hb2);(try clear hk);(try clear hi);refine hK.out _ _ ⟨(bB iS.out 0).trans rfl,(bB iS.out 1).trans rfl,(bB iS.out 2).trans rfl,(bB dP.out 0).trans rfl,(bB dP.out 1).trans rfl,(bB dP.out 2).trans rfl⟩ (fun hHeld => ?_);clear hK K;refine qL (a':=?_) ?_ ?_;rotate_left
         ·show Act.put _ (some 33) _ = _
          simp only [Act.put,cT,cS,cU,bF,bG];rfl
         refine EK (i:=6) (N:=some 34) (eB 10 127) rfl rfl (jY HT_.out (by kernel_rfl)) (by decide) (fun K hK => ?_);refine aTP (w1:=?_) (v:=?_) (by rfl) rfl ?_ ?_;rotate_left 2
         ·go_simp
          constructor
          ·rfl
          ·rfl
         refine hK.out _ _ ⟨(bB (aD iS.out _) 0).trans rfl,(bB (aD iS.out _) 1).trans rfl,(bB (aD iS.out _) 2).trans rfl,(bB (aD dP.out _) 0).trans rfl,(bB (aD dP.out _) 1).trans rfl,(bB (aD dP.out _) 2).trans rfl⟩ (fun hHeld => ?_);clear hK K;refine qL (a':=?_) ?_ ?_;rotate_left
         ·show Act.put _ (some 34) _ = _
          simp only [Act.put,cT,cS,cU,bF,bG];rfl
         refine EK (i:=7) (N:=some 35) (eB 10 255) rfl rfl (jY HT_.out (by kernel_rfl)) (by decide) (fun K hK => ?_);refine Kd.aBf (Kd.int .u8) (w0:=w) w.heap.size (by rfl) (.tmp 29) (.tmp 34) 22 5 (.int .u8 0) 1 rfl Try.underlying22 wT rfl (by decide) (by omega) qI rR aGD [.int .u8 aGD] (fun _ => True) (fun _ => False) rfl rfl ?aP (fun _ hk => hk.elim) ?aF ?aO ?aB ?aS ?aL ?_
         (case aP => exact rfl)
         (case aB => exact (fE HB tB CB US))
         (case aF => exact (fun _ _ => trivial))
         (case aO => exact (dB kM.out))
         (case aS => exact (bR (fE HB tB CB US)))
         (case aL => have:=LMc20.out;omega);intro bIm w26 ho hb hg hat;rw [← Ny598.out] at ho;have vG:=aA.mk (dG (cH dP) hg (Kd.iV kM.out dP.out (by decide)));have vF:=aA.mk (dG (cH jP) hg (Kd.iV kM.out jP.out (by decide)));have JD:=aA.mk (dG (cH iS) hg (Kd.iV kM.out iS.out (by decide)));have PV:=aA.mk (hb);have PU:=aA.mk (ho);clear dP;clear jP;clear iS;clear HB;clear kM;have dP:=vG;have jP:=vF;have iS:=JD;have HB:=PV;have aTs:=PU;clear vG vF JD PV PU;clear ho hb hg hat;obtain ⟨RL,NV,eo27⟩:=Kd.cK aTs.out
         (first | subst eo27 | (injection eo27 with f1_ f2_ f3_;have f4_:=f1_.symm;have f5_:=f3_.symm;clear f1_ f2_ f3_;subst f4_;subst f5_));refine hK.out _ _ ⟨(bB iS.out 0).trans rfl,(bB iS.out 1).trans rfl,(bB iS.out 2).trans rfl,(bB dP.out 0).trans rfl,(bB dP.out 1).trans rfl,(bB dP.out 2).trans rfl⟩ (fun hHeld => ?_);clear hK K;refine qL (a':=?_) ?_ ?_;rotate_left
         ·show Act.put _ (some 35) _ = _
          simp only [Act.put,cT,cS,cU,bF,bG];rfl
         refine bZ (i:=8) (N:=some 36) (v:=?_) (a':=?_) (eB 10 511) rfl rfl (bM HT_.out (by kernel_rfl)) (fun _ _ _ h => h) (Or.inl ⟨by rfl,?_⟩) ?_ ?_;rotate_left
         ·intro w'
          go_simp;(with_reducible rfl)
         rotate_left
         ·simp only [Act.put,cT,cS,cU,bF,bG]
          rfl
         refine PX (i:=9) (N:=none) (eB 10 1023) rfl rfl (jY HT_.out (by kernel_rfl)) (by decide) (fun K hK => ?_);have hs28:=bL iS 2 qI rfl;have hfs28:=aC iS.out 2;have hns28_0:=pZ.out;have hns28_1:=xJ.out;have hms28_0:=BE.out;have hms28_1:=TH.out;refine PG (w1:=?_) (by rfl) rfl ?_ ?_;rotate_left
         ·go_simp
          rfl
         refine hK.out _ _ ?_;clear hK K;refine wV (oD HT_.out (by kernel_rfl)) ?_
         try go_wp2
         go_roundg k2
         case measure => have:=yS.out;have:=zU.out;omega
         case rel => exact ⟨(wrap64 (EE + 1)),(y598),(.slice RL y598.length NV),mU,H',⟨by have:=yS.out;have:=zU.out;omega⟩,⟨by (with_reducible repeat first | apply Kd.bX | apply Kd.bW | apply Kd.bP);exact Kd.cC (Kd.cY (p:=⟨TZ,2,none⟩) (Kd.dM aTs.out iS.out (by decide)) (fun _ hk => hk.2) (.slice RL y598.length NV)) (fun _ hk => trivial)⟩,⟨by (with_reducible repeat first | apply aE | apply aG | apply aD);refine aV ?_ pZ.out _;(with_reducible repeat first | apply aE | apply aG | apply aD);exact dP.out⟩,⟨by (with_reducible repeat first | apply aE | apply aG | apply aD);refine aV ?_ xJ.out _;(with_reducible repeat first | apply aE | apply aG | apply aD);exact jP.out⟩,⟨by (with_reducible repeat first | apply aE | apply aG | apply aD);refine aZ (cs:=#[.int .i64 aI,.int .i64 aK,qI]) ?_ 2 _ rfl;(with_reducible repeat first | apply aE | apply aG | apply aD);exact iS.out⟩,⟨fE HB tB CB US⟩⟩
        ·rw [if_neg NY] at H
         exact absurd H (by simp)
       ·rw [if_neg OE] at H
        have aFQ : decide (EE < aK) = false:=decide_eq_false OE;clear OE;have H':=aA.mk H;clear H;have aSF:=xL.out;have aSn:=xK.out;have aXw:=pZ.out;have aWR:=BE.out;have aRd:=bL dP 0 (.int .i64 aK) rfl;have aRc:=bL dP 1 (.int .i64 aI) rfl;have aRb:=bL dP 2 (.slice bI aQ.length bH) rfl;have aQF:=aC dP.out 0;have aQE:=aC dP.out 1;have aQD:=aC dP.out 2
        go_wp2
        go_roundg k2
        case measure => have:=yS.out;have:=zU.out;omega
        case rel => exact ⟨(wrap64 (iH + 1)),(rR),(qI),mU,H',⟨by have:=yS.out;have:=zU.out;omega⟩,⟨dB kM.out⟩,⟨gP dP.out⟩,⟨gP jP.out⟩,⟨gP iS.out⟩,⟨fE HB tB CB US⟩⟩
    ·rw [if_neg ZX] at H
     have aOk : decide (iH < aI) = false:=decide_eq_false ZX;clear ZX;simp only [Option.some.injEq,Prod.mk.injEq] at H;obtain ⟨rfl,rfl,rfl,rfl⟩:=H;have aNq:=xL.out;have aNl:=xK.out;have aFw:=pZ.out;have aFt:=BE.out;have yM:=bL dP 0 (.int .i64 aK) rfl;have yL:=bL dP 1 (.int .i64 aI) rfl;have yK:=bL dP 2 (.slice bI aQ.length bH) rfl;have yD:=aC dP.out 0;have yC:=aC dP.out 1;have yB:=aC dP.out 2;have aXt:=TH.out;have aWO:=xJ.out;have XB:=bL iS 0 (.int .i64 aI) rfl;have XA:=bL iS 1 (.int .i64 aK) rfl;have WZ:=bL iS 2 qI rfl;have WI:=aC iS.out 0;have WH:=aC iS.out 1;have WG:=aC iS.out 2;have QP:=bL jP 0 (.int .i64 0) rfl;have QO:=bL jP 1 (.int .i64 0) rfl;have QN:=bL jP 2 (.slice none 0 0) rfl;have QJ:=aC jP.out 0;have QI:=aC jP.out 1;have QH:=aC jP.out 2;obtain ⟨aOY,aNW,eo38⟩:=Kd.cK kM.out;subst eo38
     go_wp2
     refine bodyPost_ret (dU rfl _ _ IA 24 #[.int .i64 aI,.int .i64 aK,.slice aOY AR.length aNW] (0,0) _ rfl (by (with_reducible repeat first | apply aE | apply aG | apply aD);refine aZ (cs:=#[.int .i64 aI,.int .i64 aK,.slice none 0 0]) ?_ 2 _ rfl;(with_reducible repeat first | apply aE | apply aG | apply aD);refine aZ (cs:=#[.int .i64 aI,.int .i64 0,.slice none 0 0]) ?_ 1 _ rfl;(with_reducible repeat first | apply aE | apply aG | apply aD);refine aZ (cs:=#[.int .i64 0,.int .i64 0,.slice none 0 0]) ?_ 0 _ rfl;(with_reducible repeat first | apply aE | apply aG | apply aD);exact jP.out) Try.underlying24 rfl (by kernel_rfl)) rfl ?_;exact ⟨_,tZ,by (with_reducible repeat first | apply Kd.bX | apply Kd.bW | apply Kd.bP);exact Kd.cC (Kd.cY (p:=⟨IA,2,none⟩) (Kd.cY (p:=⟨IA,1,none⟩) (Kd.cY (p:=⟨IA,0,none⟩) (Kd.dM kM.out jP.out (by decide)) (fun _ hk => hk.2) (.int .i64 aI)) (fun _ hk => hk.2) (.int .i64 aK)) (fun _ hk => hk.2) (.slice aOY AR.length aNW)) (fun _ hk => trivial),fE HB tB CB US⟩
 ·replace c3:=Bool.eq_false_iff.mpr c3
  subst c3;have H1 : (some (0,0,([] : List Int),3)) = some (r1,r2,r3,r4):=by rw [if_neg (show ¬ (false = true) by decide)] at H;exact H
  clear H;have H:=H1;clear H1;simp only [Option.some.injEq,Prod.mk.injEq] at H;obtain ⟨rfl,rfl,rfl,rfl⟩:=H;go_enter Try.func19,Try.ntmps19;go_wp2_with (first | ((with_reducible refine bK (N:=1) rfl ?_);refine lS (N:=1) (cs:=#[.int .i64 aK,.int .i64 aI,.slice bI aQ.length bH]) (t:=24) ?_;intro MM hg w39 hbox hb;have dP:=aA.mk (hbox);have bAb:=aA.mk (eP hg (cX HB) : w.heap.size≤MM);have tB:=aA.mk (eP hg (cX HB) : w.heap.size≤MM);replace HB:=aA.mk (aN (cX HB) hb);clear hb hbox hg) | ((with_reducible refine bK (N:=2) rfl ?_);refine lS (N:=2) (cs:=#[.int .i64 0,.int .i64 0,.slice none 0 0]) (t:=24) ?_;intro IA hg w40 hbox hb;have jP:=aA.mk (hbox);have bAa:=aA.mk (eP hg (cL HB tB) : w.heap.size≤IA);have CB:=aA.mk (eP hg (cL HB tB) : w.heap.size≤IA);replace HB:=aA.mk (aN (cL HB tB) hb);have xL:=aA.mk (sU hg (cH dP));have xK:=aA.mk (sV hg (cH dP));replace dP:=aA.mk (aJ (cH dP) hb);clear hb hbox hg;have aXr:=xL.out;have aWM:=xK.out;have GK:=bL dP 0 (.int .i64 aK) rfl;have GJ:=bL dP 1 (.int .i64 aI) rfl;have GI:=bL dP 2 (.slice bI aQ.length bH) rfl;have GD:=aC dP.out 0;have GC:=aC dP.out 1;have GB:=aC dP.out 2) | ((with_reducible refine bE (f:=17) rfl ?_);refine cO (some 8) rfl rfl Try.func17 (by kernel_rfl) rfl #[.agg #[.int .i64 aK,.int .i64 aI,.slice bI aQ.length bH]] rfl lU ?_;(with_reducible refine (bA.calls aK aI _ _ aQ false _ ?side1 ?side2 A2.out).mono ?_);(case side1 => exact nY (Kd.cP dY.out HB.out));(case side2 => exact eC.out);rintro e w43 ⟨rfl,hb⟩;refine ⟨_,rfl,?_⟩;replace dP:=aA.mk (aJ (cH dP) hb);replace jP:=aA.mk (aJ (cH jP) hb);replace HB:=aA.mk (aN (dA HB tB CB) hb);(try clear hb);(try clear hb2);(try clear hk);(try clear hi);have bDM:=bL jP 0 (.int .i64 0) rfl;have bDL:=bL jP 1 (.int .i64 0) rfl;have bDK:=bL jP 2 (.slice none 0 0) rfl;have bCp:=aC jP.out 0;have bCo:=aC jP.out 1;have bCn:=aC jP.out 2))
  refine bodyPost_ret (dU rfl _ _ IA 24 #[.int .i64 0,.int .i64 0,.slice none 0 0] (0,0) _ rfl (by (with_reducible repeat first | apply aE | apply aG | apply aD);refine aZ (cs:=#[.int .i64 0,.int .i64 0,.slice none 0 0]) ?_ 2 _ rfl;(with_reducible repeat first | apply aE | apply aG | apply aD);refine aZ (cs:=#[.int .i64 0,.int .i64 0,.slice none 0 0]) ?_ 1 _ rfl;(with_reducible repeat first | apply aE | apply aG | apply aD);refine aZ (cs:=#[.int .i64 0,.int .i64 0,.slice none 0 0]) ?_ 0 _ rfl;(with_reducible repeat first | apply aE | apply aG | apply aD);exact jP.out) Try.underlying24 rfl (by kernel_rfl)) rfl ?_;exact ⟨_,tZ,IW,dA HB tB CB⟩
end Go.Proofs.Yteofcbkjhdadpaa.Pr
