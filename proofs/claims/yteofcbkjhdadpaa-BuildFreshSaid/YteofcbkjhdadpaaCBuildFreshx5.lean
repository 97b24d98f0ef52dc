-- Out of the translation,by this session's turn of the print (wip/gp.py).
import Derived.Test.YteofcbkjhdadpaaCBuildFreshx0
import Derived.Test.YteofcbkjhdadpaaCBuildFreshx2
import Derived.Test.YteofcbkjhdadpaaCBuildFreshx3
import Derived.Test.YteofcbkjhdadpaaCBuildFreshx4
import Derived.Test.YteofcbkjhdadpaaCBuildFreshq
set_option maxHeartbeats 8000000
set_option maxRecDepth 100000
set_option linter.unusedSimpArgs false
set_option linter.unusedVariables false
namespace Go.Proofs.Yteofcbkjhdadpaa.Pr
open Go.RowKit Go.Proofs.aG.aX Go.Proofs.aG.dI Go.Proofs.aG.eN
attribute [local go_sem] fZ fX gZ gY fD fC fY fW   -- for this text's walks alone
mutual
def aW.j0 : Nat→List Int→Bool→Int→Int→List Int→Option (List Int×Bool×Int)
 | 0,_,_,_,_,_ => none
 | k + 1,x1,x24,uM,oC,zQ => if x24 = true then (some (([] : List Int),false,3)) else (aW.l0 k x1 0 uM oC zQ uM (wrap64 (oC + 1)) ([] : List Int))
def aW.l0 : Nat→List Int→Int→Int→Int→List Int→Int→Int→List Int→Option (List Int×Bool×Int)
 | 0,_,_,_,_,_,_,_,_ => none
 | k + 1,x1,x8,uM,oC,zQ,aCV,aCU,VR => if x8 < uM then ((bR.f k uM oC zQ x8).bind fun aMV => (if VR.length + aMV.1.length < 140737488355328 then ((some (VR ++ aMV.1 : List Int)).bind fun y213 => (if 0≤x8 then (if x8 < (x1.length : Int) then ((some (([rd x1 x8] : List Int) : List Int)).bind fun y217 => (if y213.length + y217.length < 140737488355328 then (aW.l0 k x1 (wrap64 (x8 + 1)) uM oC zQ aCV aCU (y213 ++ y217)) else (none))) else (none)) else (none))) else (none))) else ((aI.f k aCV aCU VR).bind fun JI => (if 0≤oC then (if (oC : Int).toNat≤281474976710656 then (aW.l1 k JI.2.2.2 (List.replicate (oC : Int).toNat 0) 0 uM oC zQ JI.1 JI.2.1 JI.2.2.1) else (none)) else (none)))
def aW.l1 : Nat→List Int→List Int→Int→Int→Int→List Int→Int→Int→List Int→Option (List Int×Bool×Int)
 | 0,_,_,_,_,_,_,_,_,_ => none
 | k + 1,x12,x13,OY,uM,oC,zQ,aCT,aCS,aCR => if OY < (x12.length : Int) then (if 0≤OY then (if (rd x12 OY) = oC then (some (([] : List Int),false,0)) else ((bV.f aCT aCS aCR OY oC).bind fun t237 => (if 0≤(rd x12 OY) then (if (rd x12 OY) < (x13.length : Int) then (aW.l1 k x12 (x13.set ((rd x12 OY) : Int).toNat t237) (wrap64 (OY + 1)) uM oC zQ aCT aCS aCR) else (none)) else (none)))) else (none)) else (some (x13,true,0))
end
def aW.f (k : Nat) (aN : Int) (aJ : Int) (aT : List Int) (l1 : List Int) : Option (List Int×Bool×Int):=(bN.f aN aJ aT).bind fun t207 => (if t207 = true then (aW.j0 k l1 ((l1.length : Int) != aN) aN aJ aT) else (aW.j0 k l1 true aN aJ aT))
def aW.T8 : Bool×List (List Nat×List Nat):=(true,[([],[]),([0],[0]),([],[]),([1,2],[1,2]),([],[]),([],[]),([4,5],[4,5]),([6],[6]),([7],[7]),([3,8,3],[3,8]),([0,1,2,3,4,5,6,7,8,9],[]),([10,9,9,0,1,2,3,4,5,6,7,8,9],[9,10])])
def aW.B8 : List Nat:=[0,1,0,7,0,0,48,112,240,511,1023,2047]
theorem aW.aVW : pI .any (opsOf Try.f62 8) = aW.T8:=by kernel_rfl
theorem aW.aRB : mQ aW.T8.2 aW.B8 = true:=by kernel_rfl
def aW.T16 : Bool×List (List Nat×List Nat):=(true,[([],[]),([],[]),([],[]),([1,2],[1,2]),([3],[3]),([],[]),([],[]),([],[]),([7],[7]),([5,6,8],[5,6,8]),([0,4,0,1,2,3,4,5,6,7,8,9],[0,4]),([10,9,9,0,1,2,3,4,5,6,7,8,9],[9,10])])
def aW.B16 : List Nat:=[0,0,0,6,14,0,0,0,128,480,1023,2047]
theorem aW.aGZ : pI .any (opsOf Try.f62 16) = aW.T16:=by kernel_rfl
theorem aW.aCF : mQ aW.T16.2 aW.B16 = true:=by kernel_rfl
theorem aW.calls (k : Nat) (aN : Int) (aJ : Int) (bL : Option Addr) (bK : Nat) (aT : List Int) (A1 : Option Addr) (c1 : Nat) (l1 : List Int) (r1 : List Int) (r2 : Bool) (r3 : Int) (w : World) (hr0_2 : Kd.C (Kd.int .u8) w bL aT.length aT) (hc0_2 : aT.length≤bK) (hr1 : Kd.C (Kd.int .u8) w A1 l1.length l1) (hc1 : l1.length≤c1) (h : aW.f k aN aJ aT l1 = some (r1,r2,r3)) :
  Calls Try.prog 62 #[.agg #[.int .i64 aN,.int .i64 aJ,.slice bL aT.length bK],.slice A1 l1.length c1] w fun e w' => ∃ v0_ : Value,e = .returned (.tuple #[v0_,.bool r2,.int .i64 r3])∧Kd.R (Kd.int .u8) 5 w' w.heap.size (fun _ => True) v0_ r1∧Below w.heap.size w w':=by
 have wM:=Try.underlying24;have eP:=aA.mk hr0_2;have eS:=aA.mk hc0_2;clear hr0_2 hc0_2;have oA:=aA.mk hr1;have HC1:=aA.mk hc1;clear hr1 hc1;have HB:=aA.mk (Below.refl w.heap.size w);have H : ((bN.f aN aJ aT).bind fun t207 => (if t207 = true then (aW.j0 k l1 ((l1.length : Int) != aN) aN aJ aT) else (aW.j0 k l1 true aN aJ aT))) = some (r1,r2,r3):=h;clear h;have HC3:=aA.mk H;clear H;go_enter Try.func62,Try.ntmps62;go_upto_region 1 with (first | ((with_reducible refine bH (N:=2) rfl ?_);(try (refine fG (by rfl) ?_;dsimp only));refine lK (N:=2) (cs:=#[.int .i64 aN,.int .i64 aJ,.slice bL aT.length bK]) (t:=24) ?_;intro tQ hg w4 hbox hb;have bW:=aA.mk (hbox);have aZO:=aA.mk (eW hg (cG HB) : w.heap.size≤tQ);have iD:=aA.mk (eW hg (cG HB) : w.heap.size≤tQ);replace HB:=aA.mk (aQ (cG HB) hb);clear hb hbox hg))
 (try simp only [Act.put,cO,cL,cP])
 go_cut [24] (fun v24 wc => ∃ (kq : Nat) (FY : Bool),v24 = .bool FY∧aA (aW.j0 kq l1 FY aN aJ aT = some (r1,r2,r3))∧aA (kq≤k)∧aA (wc.heap[tQ]? = some (.cells #[.int .i64 aN,.int .i64 aJ,(.slice bL aT.length bK)] 24 (0,0)))∧aA (Below w.heap.size w wc))
 case first =>
  have H:=HC3.out;clear HC3;replace H:=Option.bind_eq_some_iff.mp H;obtain ⟨t207,A50,H⟩:=H;replace H : (if t207 = true then (aW.j0 k l1 ((l1.length : Int) != aN) aN aJ aT) else (aW.j0 k l1 true aN aJ aT)) = some (r1,r2,r3):=H;have A5:=aA.mk A50;clear A50
  by_cases c6 : t207 = true
  ·subst c6
   have H1 : (aW.j0 k l1 ((l1.length : Int) != aN) aN aJ aT) = some (r1,r2,r3):=by rw [if_pos rfl] at H;exact H
   clear H;have H:=H1;clear H1;have H':=aA.mk H;clear H;have iS:=bO bW 0 (.int .i64 aN) rfl;have iR:=bO bW 1 (.int .i64 aJ) rfl;have iQ:=bO bW 2 (.slice bL aT.length bK) rfl;have iP:=aC bW.out 0;have iO:=aC bW.out 1;have iN:=aC bW.out 2;go_wp2_with (first | ((with_reducible refine bB (f:=17) rfl ?_);refine cS (some 16) rfl rfl Try.func17 (by kernel_rfl) rfl #[.agg #[.int .i64 aN,.int .i64 aJ,.slice bL aT.length bK]] rfl mS ?_;(with_reducible refine (bN.calls aN aJ _ _ aT true _ ?side1 ?side2 A5.out).mono ?_);(case side1 => exact pZ (Kd.cV eP.out HB.out));(case side2 => exact eS.out);rintro e w8 ⟨rfl,hb⟩;refine ⟨_,rfl,?_⟩;replace bW:=aA.mk (aM (cH bW) hb);replace HB:=aA.mk (aQ (cE HB iD) hb);(try clear hb);(try clear hb2);(try clear hk);(try clear hi);have yH:=bO bW 0 (.int .i64 aN) rfl;have yG:=bO bW 1 (.int .i64 aJ) rfl;have yF:=bO bW 2 (.slice bL aT.length bK) rfl;have yE:=aC bW.out 0;have yD:=aC bW.out 1;have yC:=aC bW.out 2))
   go_meet
   case rel => exact ⟨_,(((l1.length : Int) != aN)),nL,H',⟨q_o⟩,⟨gM bW.out⟩,⟨cE HB iD⟩⟩
  ·replace c6:=Bool.eq_false_iff.mpr c6
   subst c6;have H1 : (aW.j0 k l1 true aN aJ aT) = some (r1,r2,r3):=by rw [if_neg (show ¬ (false = true) by decide)] at H;exact H
   clear H;have H:=H1;clear H1;have H':=aA.mk H;clear H;have jL:=bO bW 0 (.int .i64 aN) rfl;have jK:=bO bW 1 (.int .i64 aJ) rfl;have jJ:=bO bW 2 (.slice bL aT.length bK) rfl;have jI:=aC bW.out 0;have jH:=aC bW.out 1;have jG:=aC bW.out 2;go_wp2_with (first | ((with_reducible refine bB (f:=17) rfl ?_);refine cS (some 16) rfl rfl Try.func17 (by kernel_rfl) rfl #[.agg #[.int .i64 aN,.int .i64 aJ,.slice bL aT.length bK]] rfl mS ?_;(with_reducible refine (bN.calls aN aJ _ _ aT false _ ?side1 ?side2 A5.out).mono ?_);(case side1 => exact pZ (Kd.cV eP.out HB.out));(case side2 => exact eS.out);rintro e w11 ⟨rfl,hb⟩;refine ⟨_,rfl,?_⟩;replace bW:=aA.mk (aM (cH bW) hb);replace HB:=aA.mk (aQ (cE HB iD) hb);(try clear hb);(try clear hb2);(try clear hk);(try clear hi)))
   go_meet
   case rel => exact ⟨_,(true),nL,H',⟨q_o⟩,⟨gM bW.out⟩,⟨cE HB iD⟩⟩
 case rest =>
  clear HC3;(try clear c1);(try clear p2);(try clear c6);(try clear jL);(try clear jK);(try clear jJ);(try clear iS);(try clear iR);(try clear iQ);(try clear yH);(try clear yG);(try clear yF);(try clear jI);(try clear jH);(try clear jG);(try clear iP);(try clear iO);(try clear iN);(try clear yE);(try clear yD);(try clear yC);obtain ⟨kq,FY,rfl,HA,HJ2,bW,HB⟩:=hcut
  cases kq with
  | zero => exact absurd HA.out (by simp [aW.j0])
  | succ kj2 =>
   have H:=HA.out;clear HA;simp only [aW.j0] at H
   by_cases AO : FY = true
   ·subst AO
    have H1 : (some (([] : List Int),false,3)) = some (r1,r2,r3):=by rw [if_pos rfl] at H;exact H
    clear H;have H:=H1;clear H1;simp only [Option.some.injEq,Prod.mk.injEq] at H;obtain ⟨rfl,rfl,rfl⟩:=H
    go_wp2
    go_ret3
    exact ⟨_,uB,MR,cE HB iD⟩
   ·replace AO:=Bool.eq_false_iff.mpr AO
    subst AO;have H1 : (aW.l0 kj2 l1 0 aN aJ aT aN (wrap64 (aJ + 1)) ([] : List Int)) = some (r1,r2,r3):=by rw [if_neg (show ¬ (false = true) by decide)] at H;exact H
    clear H;have H:=H1;clear H1;have H':=aA.mk H;clear H;have mZ:=bO bW 0 (.int .i64 aN) rfl;have mY:=bO bW 1 (.int .i64 aJ) rfl;have mX:=bO bW 2 (.slice bL aT.length bK) rfl;have mW:=aC bW.out 0;have mU:=aC bW.out 1;have mT:=aC bW.out 2;go_wp2_with (first | ((with_reducible refine bH (N:=7) rfl ?_);(try (refine fG (by rfl) ?_;dsimp only));refine lK (N:=7) (cs:=#[.int .i64 0,.int .i64 0,.slice none 0 0]) (t:=24) ?_;intro tP hg w14 hbox hb;have cU:=aA.mk (hbox);have aZN:=aA.mk (eW hg (cE HB iD) : w.heap.size≤tP);have lG:=aA.mk (eW hg (cE HB iD) : w.heap.size≤tP);replace HB:=aA.mk (aQ (cE HB iD) hb);have pT:=aA.mk (wJ hg (cH bW));have DQ:=aA.mk (wK hg (cH bW));replace bW:=aA.mk (aM (cH bW) hb);clear hb hbox hg;have aId:=DQ.out;have aIc:=pT.out;have qW:=bO cU 0 (.int .i64 0) rfl;have qV:=bO cU 1 (.int .i64 0) rfl;have qU:=bO cU 2 (.slice none 0 0) rfl;have qQ:=aC cU.out 0;have qP:=aC cU.out 1;have qO:=aC cU.out 2))
    go_loopg [8] kj2 (fun kq v8 w' => ∃ (kK : Int) (eB : List Int) (ND : Value),v8 = .int .i64 kK∧aA (aW.l0 kq l1 kK aN aJ aT aN (wrap64 (aJ + 1)) eB = some (r1,r2,r3))∧aA (kq≤kj2)∧aA (Kd.R (Kd.int .u8) 5 w' w.heap.size (fun _ => True) ND eB)∧aA (w'.heap[tQ]? = some (.cells #[.int .i64 aN,.int .i64 aJ,(.slice bL aT.length bK)] 24 (0,0)))∧aA (w'.heap[tP]? = some (.cells #[.int .i64 aN,.int .i64 (wrap64 (aJ + 1)),ND] 24 (0,0)))∧aA (Below w.heap.size w w'))
    case atStart => exact ⟨(0),(([] : List Int)),(.slice none 0 0),nL,H',⟨Nat.le_refl _⟩,⟨MR⟩,⟨by (with_reducible repeat first | apply aD | apply aH | apply aE);refine bF ?_ pT.out _;(with_reducible repeat first | apply aD | apply aH | apply aE);refine bF ?_ pT.out _;(with_reducible repeat first | apply aD | apply aH | apply aE);refine bF ?_ pT.out _;(with_reducible repeat first | apply aD | apply aH | apply aE);exact bW.out⟩,⟨by (with_reducible repeat first | apply aD | apply aH | apply aE);refine bA (cs:=#[.int .i64 aN,.int .i64 (wrap64 (aJ + 1)),.slice none 0 0]) ?_ 2 _ rfl;(with_reducible repeat first | apply aD | apply aH | apply aE);refine bA (cs:=#[.int .i64 aN,.int .i64 0,.slice none 0 0]) ?_ 1 _ rfl;(with_reducible repeat first | apply aD | apply aH | apply aE);refine bA (cs:=#[.int .i64 0,.int .i64 0,.slice none 0 0]) ?_ 0 _ rfl;(with_reducible repeat first | apply aD | apply aH | apply aE);exact cU.out⟩,⟨cR HB iD lG⟩⟩
    case round =>
     clear H';(try clear c1);(try clear p2);(try clear c6);(try clear p6);(try clear AO);(try clear YZ);(try clear jL);(try clear jK);(try clear jJ);(try clear mZ);(try clear mY);(try clear mX);(try clear qW);(try clear qV);(try clear qU);(try clear iS);(try clear iR);(try clear iQ);(try clear yH);(try clear yG);(try clear yF);(try clear jI);(try clear jH);(try clear jG);(try clear mW);(try clear mU);(try clear mT);(try clear qQ);(try clear qP);(try clear qO);(try clear iP);(try clear iO);(try clear iN);(try clear yE);(try clear yD);(try clear yC);(try clear p2);obtain ⟨kK,eB,ND,rfl,HA,vJ,eE,bW,cU,HB⟩:=hrel
     cases gk with
     | zero => exact absurd HA.out (by simp [aW.l0])
     | succ k2 =>
      have H:=HA.out;clear HA;simp only [aW.l0] at H
      by_cases CE : kK < aN
      ·rw [if_pos CE] at H
       have RB : decide (kK < aN) = true:=decide_eq_true CE;clear CE;replace H:=Option.bind_eq_some_iff.mp H;obtain ⟨⟨t209,t212⟩,aBy,H⟩:=H;replace H : (if eB.length + t209.length < 140737488355328 then ((some (eB ++ t209 : List Int)).bind fun y213 => (if 0≤kK then (if kK < (l1.length : Int) then ((some (([rd l1 kK] : List Int) : List Int)).bind fun y217 => (if y213.length + y217.length < 140737488355328 then (aW.l0 k2 l1 (wrap64 (kK + 1)) aN aJ aT aN (wrap64 (aJ + 1)) (y213 ++ y217)) else (none))) else (none)) else (none))) else (none)) = some (r1,r2,r3):=H;have A18:=aA.mk aBy;clear aBy
       by_cases MX : eB.length + t209.length < 140737488355328
       ·rw [if_pos MX] at H
        have LMc19:=aA.mk MX;clear MX;obtain ⟨y213,hy213⟩ : ∃ y_ : List Int,y_ = (eB ++ t209):=⟨_,rfl⟩
        replace H : (if 0≤kK then (if kK < (l1.length : Int) then ((some (([rd l1 kK] : List Int) : List Int)).bind fun y217 => (if y213.length + y217.length < 140737488355328 then (aW.l0 k2 l1 (wrap64 (kK + 1)) aN aJ aT aN (wrap64 (aJ + 1)) (y213 ++ y217)) else (none))) else (none)) else (none)) = some (r1,r2,r3):=by first | (rw [hy213];with_reducible exact H) | (have H2_:=(Option.bind_some _ _).symm.trans H;rw [hy213];with_reducible exact H2_) | (have H2_:=(Option.bind_some _ _).symm.trans H;with_reducible exact H2_) | with_reducible exact H | (rw [hy213];exact H) | exact H
        have Ny213:=aA.mk hy213;clear hy213
        by_cases c20 : 0≤kK
        ·rw [if_pos c20] at H
         have aRx : decide (0≤kK) = true:=decide_eq_true c20;clear c20
         by_cases BA : kK < (l1.length : Int)
         ·rw [if_pos BA] at H
          have EG : decide (kK < (l1.length : Int)) = true:=decide_eq_true BA;clear BA;obtain ⟨y217,hy217⟩ : ∃ y_ : List Int,y_ = (([rd l1 kK] : List Int)):=⟨_,rfl⟩
          replace H : (if y213.length + y217.length < 140737488355328 then (aW.l0 k2 l1 (wrap64 (kK + 1)) aN aJ aT aN (wrap64 (aJ + 1)) (y213 ++ y217)) else (none)) = some (r1,r2,r3):=by first | (rw [hy217];with_reducible exact H) | (have H2_:=(Option.bind_some _ _).symm.trans H;rw [hy217];with_reducible exact H2_) | (have H2_:=(Option.bind_some _ _).symm.trans H;with_reducible exact H2_) | with_reducible exact H | (rw [hy217];exact H) | exact H
          have Ny217:=aA.mk hy217;clear hy217
          by_cases c22 : y213.length + y217.length < 140737488355328
          ·rw [if_pos c22] at H
           have LMc22:=aA.mk c22;clear c22;obtain ⟨y220,hy220⟩ : ∃ y_ : List Int,y_ = (y213 ++ y217):=⟨_,rfl⟩
           replace H : (aW.l0 k2 l1 (wrap64 (kK + 1)) aN aJ aT aN (wrap64 (aJ + 1)) y220) = some (r1,r2,r3):=by first | (rw [hy220];with_reducible exact H) | (have H2_:=(Option.bind_some _ _).symm.trans H;rw [hy220];with_reducible exact H2_) | (have H2_:=(Option.bind_some _ _).symm.trans H;with_reducible exact H2_) | with_reducible exact H | (rw [hy220];exact H) | exact H
           have Ny220:=aA.mk hy220;clear hy220;have H':=aA.mk H;clear H;have aYR:=pT.out;have aYd:=DQ.out;have YL:=bO bW 0 (.int .i64 aN) rfl;have YK:=bO bW 1 (.int .i64 aJ) rfl;have YJ:=bO bW 2 (.slice bL aT.length bK) rfl;have XQ:=aC bW.out 0;have XP:=aC bW.out 1;have XO:=aC bW.out 2
           try go_wp2_with (first | ((with_reducible refine bB (f:=54) rfl ?_);refine cS (some 40) rfl rfl Try.func54 (by kernel_rfl) rfl #[.agg #[.int .i64 aN,.int .i64 aJ,.slice bL aT.length bK],.int .i64 kK] rfl mS ?_;(with_reducible refine (bR.calls k2 aN aJ _ _ aT kK t209 t212 _ ?side1 ?side2 A18.out).mono ?_);(case side1 => exact pZ (Kd.cV eP.out HB.out));(case side2 => exact eS.out);rintro e w25 ⟨v210,rfl,ho0,hb⟩;refine ⟨_,rfl,?_⟩;have kH:=aA.mk (Kd.dS (Kd.mM ho0 (Kd.uX (eQ eE.out))) (bU (cR HB iD lG)));replace eE:=aA.mk (Kd.gS (eQ eE.out) (Kd.lW ho0) hb);replace bW:=aA.mk (aM (cH bW) hb);replace cU:=aA.mk (aM (cH cU) hb);replace HB:=aA.mk (aQ (cR HB iD lG) hb);(try clear hb);(try clear hb2);(try clear hk);(try clear hi);(try clear ho0);obtain ⟨TM,TF,eo26⟩:=Kd.cM eE.out;subst eo26;obtain ⟨RX,MV,eo27⟩:=Kd.cM kH.out;subst eo27))
           replace eE:=aA.mk (Kd.cC eE.out);replace kH:=aA.mk (Kd.cC kH.out);replace bW:=aA.mk (aH bW.out);replace cU:=aA.mk (aH cU.out);replace HB:=aA.mk (dT HB.out);have aKg : 0≤(kK : Int):=of_decide_eq_true mK;have q216 : kK < (l1.length : Int):=of_decide_eq_true mK;obtain ⟨ad216,e216,hx216_0⟩:=Kd.nU oA.out kK aKg q216;have pG:=hx216_0
           cases e216
           replace hx216_0:=(HB.out.cell (World.block_lt_of_cell? w _ hx216_0)).trans hx216_0;replace aKg:=eq_true aKg;replace q216:=eq_true q216;refine sG (n:=12) (S:=fun w' => w'.cell? ⟨tP,0,none⟩ = some (.int .i64 aN)∧w'.cell? ⟨tP,1,none⟩ = some (.int .i64 (wrap64 (aJ + 1)))∧w'.cell? ⟨tP,2,none⟩ = some (.slice TM eB.length TF)∧w'.cell? (ad216.add (kK).toNat) = some (.int .u8 (rd l1 kK))) (ds:=[11]) #[false,false,false,false,false,false,false,false,false,false,false,false] (by kernel_rfl) rfl rfl ⟨(aY cU.out 0).trans rfl,(aY cU.out 1).trans rfl,(aY cU.out 2).trans rfl,((HB.out.cell (World.block_lt_of_cell? w _ pG)).trans pG)⟩ (fun hHeld => ?_);refine kL aW.aVW aW.aRB (fun HT_ HW_ => ?_);generalize w25.drew = w28 at eE kH bW cU HB hx216_0 hHeld ⊢;refine bY (i:=0) (N:=some 43) (v:=?_) (a':=?_) (eH 12 1) rfl rfl (bS HT_.out (by kernel_rfl)) (fun _ _ _ h => h) (Or.inl ⟨by rfl,?_⟩) ?_ ?_;rotate_left
           ·intro w'
            go_simp;(with_reducible rfl)
           rotate_left
           ·simp only [Act.put,cO,cL,cP,bE,bJ]
            rfl
           refine bY (i:=2) (N:=some 45) (v:=?_) (a':=?_) (eH 12 5) rfl rfl (bS HT_.out (by kernel_rfl)) (fun _ _ _ h => h) (Or.inl ⟨by rfl,?_⟩) ?_ ?_;rotate_left
           ·intro w'
            go_simp;(with_reducible rfl)
           rotate_left
           ·simp only [Act.put,cO,cL,cP,bE,bJ]
            rfl
           refine bY (i:=4) (N:=some 47) (v:=?_) (a':=?_) (eH 12 21) rfl rfl (bS HT_.out (by kernel_rfl)) (fun _ _ _ h => h) (Or.inl ⟨by rfl,?_⟩) ?_ ?_;rotate_left
           ·intro w'
            go_simp;(with_reducible rfl)
           rotate_left
           ·simp only [Act.put,cO,cL,cP,bE,bJ]
            rfl
           refine bY (i:=5) (N:=some 48) (v:=?_) (a':=?_) (eH 12 53) rfl rfl (bS HT_.out (by kernel_rfl)) (fun _ _ _ h => h) (Or.inl ⟨by rfl,?_⟩) ?_ ?_;rotate_left
           ·intro w'
            go_simp;(with_reducible rfl)
           rotate_left
           ·simp only [Act.put,cO,cL,cP,bE,bJ]
            rfl
           refine bY (i:=6) (N:=some 49) (v:=?_) (a':=?_) (eH 12 117) rfl rfl (bS HT_.out (by kernel_rfl)) (fun _ _ _ h => h) (Or.inl ⟨by rfl,?_⟩) ?_ ?_;rotate_left
           ·intro w'
            go_simp;(with_reducible rfl)
           rotate_left
           ·simp only [Act.put,cO,cL,cP,bE,bJ]
            rfl
           refine gP (i:=1) (N:=some 44) (v:=?_) (a':=?_) (eH 12 119) rfl rfl (dM HT_.out HW_.out (by kernel_rfl)) (fun _ _ _ h => h) (Or.inl ⟨by rfl,?_⟩) hHeld ?_ ?_;rotate_left
           ·rintro w' ⟨s0,s1,s2,s3⟩
            go_simp;(with_reducible rfl)
           rotate_left
           ·simp only [Act.put,cO,cL,cP,bE,bJ]
            rfl
           refine gP (i:=7) (N:=some 50) (v:=?_) (a':=?_) (eH 12 247) rfl rfl (dM HT_.out HW_.out (by kernel_rfl)) (fun _ _ _ h => h) (Or.inl ⟨by rfl,?_⟩) hHeld ?_ ?_;rotate_left
           ·rintro w' ⟨s0,s1,s2,s3⟩
            go_simp;(with_reducible rfl)
           rotate_left
           ·simp only [Act.put,cO,cL,cP,bE,bJ]
            rfl
           refine aMn (σ:=Value×Value) 3 #[true,true,true,true,true,true,true,true,true,false,false,false] (fun s_ => [(46,s_.1),(51,s_.2)]) (fun s_ w' => (w'.cell? ⟨tP,0,none⟩ = some (.int .i64 aN)∧w'.cell? ⟨tP,1,none⟩ = some (.int .i64 (wrap64 (aJ + 1)))∧w'.cell? ⟨tP,2,none⟩ = some (.slice TM eB.length TF)∧w'.cell? (ad216.add (kK).toNat) = some (.int .u8 (rd l1 kK)))∧(Kd.R (Kd.int .u8) 5 w' w.heap.size (fun k_ => some k_≠(s_.1 : Value).ownBlock∧some k_≠(s_.2 : Value).ownBlock) (.slice RX t209.length MV) t209)∧(Kd.R (Kd.int .u8) 5 w' w.heap.size (fun k_ => some k_≠(.slice RX t209.length MV : Value).ownBlock∧some k_≠(s_.2 : Value).ownBlock) s_.1 y213)∧(Kd.R (Kd.int .u8) 5 w' w.heap.size (fun k_ => some k_≠(.slice RX t209.length MV : Value).ownBlock∧some k_≠(s_.1 : Value).ownBlock) s_.2 y217)∧(w'.heap[tQ]? = some (.cells #[.int .i64 aN,.int .i64 aJ,.slice bL aT.length bK] 24 (0,0)))∧(w'.heap[tP]? = some (.cells #[.int .i64 aN,.int .i64 (wrap64 (aJ + 1)),.slice TM eB.length TF] 24 (0,0)))∧(Below w.heap.size w w')) ?_ ?_;rotate_left
           ·intro hCont
            refine aPo (i:=3) (j:=8) (Ni:=some 46) (Nj:=some 51) #[true,true,true,true,true,true,true,true,false,false,false,false] #[true,true,true,false,true,true,true,true,true,false,false,false] rfl rfl rfl rfl (aND HT_.out (by kernel_rfl)) (by decide) (by decide) (fun K hK => ?_) (fun K hK => ?_)
            ·skip
             refine Kd.pM (Kd.int .u8) (w0:=w) w.heap.size (by rfl) (.tmp 44) (.tmp 45) 22 5 (.int .u8 0) 1 rfl Try.underlying22 yS rfl (by decide) (by omega) (.slice TM eB.length TF) eB t209 _ _ _ (fun k_ => some k_≠(.slice RX t209.length MV : Value).ownBlock) (fun _ => False) rfl rfl ?aO ?aR (fun _ _ h => h) (fun _ h => h.elim) ?aF ?aB ?aS ?aL ?_
             (case aR => exact pZ ((Kd.cD kH.out).2.2))
             (case aB => exact (cR HB iD lG))
             (case aF => exact (fun k_ hk => Kd.KM (Kd.uX (eQ kH.out)) k_ hk))
             (case aO => exact (by (with_reducible repeat first | apply Kd.cK | apply Kd.cJ | apply Kd.cC);exact Kd.cN eE.out (fun _ hk => hk.2)))
             (case aS => exact (bU (cR HB iD lG)))
             (case aL => have:=LMc19.out;omega);intro ZQ w29 ho hb hg hat;rw [← Ny213.out] at ho;have tN:=aA.mk (dJ (cH bW) hg (Kd.jE eE.out bW.out (by decide)));have tM:=aA.mk (dJ (cH cU) hg (Kd.jE eE.out cU.out (by decide)));have LN:=aA.mk (Kd.uY (ok:=(fun _ => True)) (eQ kH.out) hg hat);have TY:=aA.mk (hb);have TX:=aA.mk (ho);clear bW;clear cU;clear kH;clear HB;clear eE;have bW:=tN;have cU:=tM;have kH:=LN;have HB:=TY;have CO:=TX;clear tN tM LN TY TX;clear ho hb hg hat;refine hK.out _ _ ⟨(aY cU.out 0).trans rfl,(aY cU.out 1).trans rfl,(aY cU.out 2).trans rfl,((HB.out.cell (World.block_lt_of_cell? w _ pG)).trans pG)⟩ (fun hHeld => ?_);clear hK K;refine qM (a':=?_) ?_ ?_;rotate_left
             ·show Act.put _ (some 46) _ = _
              simp only [Act.put,cO,cL,cP,bE,bJ];rfl
             refine DS (i:=8) (N:=some 51) (eH 12 511) rfl rfl (jO HT_.out (by kernel_rfl)) (by decide) (fun K hK => ?_);refine Kd.RP (Kd.int .u8) _ 5 ?hg (N:=51) ?hd (xs:=([rd l1 kK] : List Int)) (inner:=[.int .u8 (rd l1 kK)]) (ok:=fun _ => True) (okp:=fun _ => True) ?hr ?hp (fun _ hk => hk) trivial (Below.refl _ _) (Nat.le_refl _) (by simp) ?_;(case hd => rfl);(case hg => rfl);(case hr => first | (go_simp;done) | (go_simp;rfl));(case hp => exact (eF.one (show Kd.M (Kd.int .u8) _ _ _ (rd l1 kK) [.int .u8 (rd l1 kK)] from rfl) (eF.none _ _)));intro v218 w30 ho31 hb hg_ hnew_;clear hg_ hnew_
             (first | rw [← Ny217.out] at ho31 | (simp only [Int.reduceToNat] at ho31;rw [← Ny217.out] at ho31));have xU:=aA.mk (Kd.dS (Kd.mM (Kd.mM ho31 (Kd.uX (eQ kH.out))) (Kd.uX (eQ CO.out))) (bU (cR HB iD lG)));replace kH:=aA.mk (Kd.gS (eQ kH.out) (Kd.lW ho31) hb);replace CO:=aA.mk (Kd.gS (eQ CO.out) (Kd.lW ho31) hb);replace bW:=aA.mk (aM (cH bW) hb);replace cU:=aA.mk (aM (cH cU) hb);replace HB:=aA.mk (aQ (cR HB iD lG) hb);clear hb ho31;refine hK.out _ _ ⟨(aY cU.out 0).trans rfl,(aY cU.out 1).trans rfl,(aY cU.out 2).trans rfl,((HB.out.cell (World.block_lt_of_cell? w _ pG)).trans pG)⟩ (fun hHeld => ?_);clear hK K;refine qM (a':=?_) ?_ ?_;rotate_left
             ·show Act.put _ (some 51) _ = _
              simp only [Act.put,cO,cL,cP,bE,bJ];rfl
             exact qM (by simp only [KC,Act.put,cO,cL,cP]) (hCont (ZQ,v218) _ ⟨hHeld,(by (with_reducible repeat first | apply Kd.cK | apply Kd.cJ | apply Kd.cC);exact Kd.cN kH.out (fun _ hk => ⟨hk.1.2,hk.2⟩)),(eQ CO.out),(by (with_reducible repeat first | apply Kd.cK | apply Kd.cJ | apply Kd.cC);exact Kd.cN xU.out (fun _ hk => ⟨hk.1.2,hk.2⟩)),(gM bW.out),(gM cU.out),(cR HB iD lG)⟩)
            ·skip
             refine Kd.RP (Kd.int .u8) _ 5 ?hg (N:=51) ?hd (xs:=([rd l1 kK] : List Int)) (inner:=[.int .u8 (rd l1 kK)]) (ok:=fun _ => True) (okp:=fun _ => True) ?hr ?hp (fun _ hk => hk) trivial (Below.refl _ _) (Nat.le_refl _) (by simp) ?_;(case hd => rfl);(case hg => rfl);(case hr => first | (go_simp;done) | (go_simp;rfl));(case hp => exact (eF.one (show Kd.M (Kd.int .u8) _ _ _ (rd l1 kK) [.int .u8 (rd l1 kK)] from rfl) (eF.none _ _)));intro v218 w29 ho30 hb hg_ hnew_;clear hg_ hnew_
             (first | rw [← Ny217.out] at ho30 | (simp only [Int.reduceToNat] at ho30;rw [← Ny217.out] at ho30));have xU:=aA.mk (Kd.dS (Kd.mM (Kd.mM ho30 (Kd.uX (eQ eE.out))) (Kd.uX (eQ kH.out))) (bU (cR HB iD lG)));replace eE:=aA.mk (Kd.gS (eQ eE.out) (Kd.lW ho30) hb);replace kH:=aA.mk (Kd.gS (eQ kH.out) (Kd.lW ho30) hb);replace bW:=aA.mk (aM (cH bW) hb);replace cU:=aA.mk (aM (cH cU) hb);replace HB:=aA.mk (aQ (cR HB iD lG) hb);clear hb ho30;refine hK.out _ _ ⟨(aY cU.out 0).trans rfl,(aY cU.out 1).trans rfl,(aY cU.out 2).trans rfl,((HB.out.cell (World.block_lt_of_cell? w _ pG)).trans pG)⟩ (fun hHeld => ?_);clear hK K;refine qM (a':=?_) ?_ ?_;rotate_left
             ·show Act.put _ (some 51) _ = _
              simp only [Act.put,cO,cL,cP,bE,bJ];rfl
             refine DS (i:=3) (N:=some 46) (eH 12 511) rfl rfl (jO HT_.out (by kernel_rfl)) (by decide) (fun K hK => ?_);refine Kd.pM (Kd.int .u8) (w0:=w) w.heap.size (by rfl) (.tmp 44) (.tmp 45) 22 5 (.int .u8 0) 1 rfl Try.underlying22 yS rfl (by decide) (by omega) (.slice TM eB.length TF) eB t209 _ _ _ (fun k_ => some k_≠(.slice RX t209.length MV : Value).ownBlock∧some k_≠(v218 : Value).ownBlock) (fun _ => False) rfl rfl ?aO ?aR (fun _ _ h => h) (fun _ h => h.elim) ?aF ?aB ?aS ?aL ?_
             (case aR => exact pZ ((Kd.cD kH.out).2.2))
             (case aB => exact (cR HB iD lG))
             (case aF => exact (fun k_ hk => ⟨Kd.KM (Kd.uX (eQ kH.out)) k_ hk,Kd.KM (Kd.uX (eQ xU.out)) k_ hk⟩))
             (case aO => exact (by (with_reducible repeat first | apply Kd.cK | apply Kd.cJ | apply Kd.cC);exact Kd.cN eE.out (fun _ hk => ⟨hk.1.2,hk.2⟩)))
             (case aS => exact (bU (cR HB iD lG)))
             (case aL => have:=LMc19.out;omega);intro ZQ w31 ho hb hg hat;rw [← Ny213.out] at ho;have tN:=aA.mk (dJ (cH bW) hg (Kd.jE eE.out bW.out (by decide)));have tM:=aA.mk (dJ (cH cU) hg (Kd.jE eE.out cU.out (by decide)));have LN:=aA.mk (Kd.uY (ok:=(fun k_ => some k_≠(v218 : Value).ownBlock)) (by (with_reducible repeat first | apply Kd.cK | apply Kd.cJ | apply Kd.cC);exact Kd.cN kH.out (fun _ hk => ⟨hk.2,hk.1.2⟩)) hg hat);have TY:=aA.mk (Kd.uY (ok:=(fun k_ => some k_≠(.slice RX t209.length MV : Value).ownBlock)) (by (with_reducible repeat first | apply Kd.cK | apply Kd.cJ | apply Kd.cC);exact Kd.cN xU.out (fun _ hk => ⟨hk.2,hk.1.2⟩)) hg hat);have TX:=aA.mk (hb);have n5_:=aA.mk (ho);clear bW;clear cU;clear kH;clear xU;clear HB;clear eE;have bW:=tN;have cU:=tM;have kH:=LN;have xU:=TY;have HB:=TX;have CO:=n5_;clear tN tM LN TY TX n5_;clear ho hb hg hat;refine hK.out _ _ ⟨(aY cU.out 0).trans rfl,(aY cU.out 1).trans rfl,(aY cU.out 2).trans rfl,((HB.out.cell (World.block_lt_of_cell? w _ pG)).trans pG)⟩ (fun hHeld => ?_);clear hK K;refine qM (a':=?_) ?_ ?_;rotate_left
             ·show Act.put _ (some 46) _ = _
              simp only [Act.put,cO,cL,cP,bE,bJ];rfl
             exact qM (by simp only [KC,Act.put,cO,cL,cP]) (hCont (ZQ,v218) _ ⟨hHeld,(by (with_reducible repeat first | apply Kd.cK | apply Kd.cJ | apply Kd.cC);exact Kd.cN kH.out (fun _ hk => ⟨hk.2,hk.1⟩)),(eQ CO.out),(eQ xU.out),(gM bW.out),(gM cU.out),(cR HB iD lG)⟩)
           rintro ⟨ZQ,v218⟩ w32 ⟨hS_,h0_,h1_,h2_,h3_,h4_,h5_⟩;have tN : aA (Kd.R (Kd.int .u8) 5 w32 w.heap.size (fun k_ => some k_≠(ZQ : Value).ownBlock∧some k_≠(v218 : Value).ownBlock) (.slice RX t209.length MV) t209):=⟨h0_⟩
           have tM : aA (Kd.R (Kd.int .u8) 5 w32 w.heap.size (fun k_ => some k_≠(.slice RX t209.length MV : Value).ownBlock∧some k_≠(v218 : Value).ownBlock) ZQ y213):=⟨h1_⟩
           have LN : aA (Kd.R (Kd.int .u8) 5 w32 w.heap.size (fun k_ => some k_≠(.slice RX t209.length MV : Value).ownBlock∧some k_≠(ZQ : Value).ownBlock) v218 y217):=⟨h2_⟩
           have TY : aA (w32.heap[tQ]? = some (.cells #[.int .i64 aN,.int .i64 aJ,.slice bL aT.length bK] 24 (0,0))):=⟨h3_⟩
           have TX : aA (w32.heap[tP]? = some (.cells #[.int .i64 aN,.int .i64 (wrap64 (aJ + 1)),.slice TM eB.length TF] 24 (0,0))):=⟨h4_⟩
           have n5_ : aA (Below w.heap.size w w32):=⟨h5_⟩
           clear eE;clear kH;clear bW;clear cU;clear HB;clear h0_ h1_ h2_ h3_ h4_ h5_;have kH:=tN;have CO:=tM;have xU:=LN;have bW:=TY;have cU:=TX;have HB:=n5_;clear tN tM LN TY TX n5_;have hHeld : w32.cell? ⟨tP,0,none⟩ = some (.int .i64 aN)∧w32.cell? ⟨tP,1,none⟩ = some (.int .i64 (wrap64 (aJ + 1)))∧w32.cell? ⟨tP,2,none⟩ = some (.slice TM eB.length TF)∧w32.cell? (ad216.add (kK).toNat) = some (.int .u8 (rd l1 kK)):=hS_;obtain ⟨aBw,aAP,eo34⟩:=Kd.cM xU.out
           (first | subst eo34 | (injection eo34 with f1_ f2_ f3_;have f4_:=f1_.symm;have f5_:=f3_.symm;clear f1_ f2_ f3_;subst f4_;subst f5_));refine qM (a':=?_) ?_ ?_;rotate_left
           ·simp only [KC,Act.put,cO,cL,cP]
            rfl
           refine DS (i:=9) (N:=some 52) (eH 12 1023) rfl rfl (jO HT_.out (by kernel_rfl)) (by decide) (fun K hK => ?_);refine Kd.pM (Kd.int .u8) (w0:=w) w.heap.size (by rfl) (.tmp 46) (.tmp 51) 22 5 (.int .u8 0) 1 rfl Try.underlying22 yS rfl (by decide) (by omega) ZQ y213 y217 _ _ _ (fun k_ => some k_≠(.slice RX t209.length MV : Value).ownBlock∧some k_≠(.slice aBw y217.length aAP : Value).ownBlock) (fun _ => False) rfl rfl ?aO ?aR (fun _ _ h => h) (fun _ h => h.elim) ?aF ?aB ?aS ?aL ?_
           (case aR => exact pZ ((Kd.cD xU.out).2.2))
           (case aB => exact (cR HB iD lG))
           (case aF => exact (fun k_ hk => ⟨Kd.KM (Kd.uX (eQ kH.out)) k_ hk,Kd.KM (Kd.uX (eQ xU.out)) k_ hk⟩))
           (case aO => exact (eQ CO.out))
           (case aS => exact (bU (cR HB iD lG)))
           (case aL => have:=LMc22.out;omega);intro bAp w33 ho hb hg hat;rw [← Ny220.out] at ho;have tN:=aA.mk (dJ (cH bW) hg (Kd.jE CO.out bW.out (by decide)));have tM:=aA.mk (dJ (cH cU) hg (Kd.jE CO.out cU.out (by decide)));have LN:=aA.mk (Kd.uY (ok:=(fun k_ => some k_≠(.slice aBw y217.length aAP : Value).ownBlock)) (by (with_reducible repeat first | apply Kd.cK | apply Kd.cJ | apply Kd.cC);exact Kd.cN kH.out (fun _ hk => ⟨hk.2,hk.1⟩)) hg hat);have TY:=aA.mk (Kd.uY (ok:=(fun k_ => some k_≠(.slice RX t209.length MV : Value).ownBlock)) (eQ xU.out) hg hat);have TX:=aA.mk (hb);have n5_:=aA.mk (ho);clear bW;clear cU;clear kH;clear xU;clear HB;clear CO;have bW:=tN;have cU:=tM;have kH:=LN;have xU:=TY;have HB:=TX;have aNf:=n5_;clear tN tM LN TY TX n5_;clear ho hb hg hat;obtain ⟨aJr,aIA,eo35⟩:=Kd.cM aNf.out
           (first | subst eo35 | (injection eo35 with f1_ f2_ f3_;have f4_:=f1_.symm;have f5_:=f3_.symm;clear f1_ f2_ f3_;subst f4_;subst f5_));refine hK.out _ _ ⟨(aY cU.out 0).trans rfl,(aY cU.out 1).trans rfl,(aY cU.out 2).trans rfl,((HB.out.cell (World.block_lt_of_cell? w _ pG)).trans pG)⟩ (fun hHeld => ?_);clear hK K;refine qM (a':=?_) ?_ ?_;rotate_left
           ·show Act.put _ (some 52) _ = _
            simp only [Act.put,cO,cL,cP,bE,bJ];rfl
           refine bY (i:=10) (N:=some 53) (v:=?_) (a':=?_) (eH 12 2047) rfl rfl (bS HT_.out (by kernel_rfl)) (fun _ _ _ h => h) (Or.inl ⟨by rfl,?_⟩) ?_ ?_;rotate_left
           ·intro w'
            go_simp;(with_reducible rfl)
           rotate_left
           ·simp only [Act.put,cO,cL,cP,bE,bJ]
            rfl
           refine QH (i:=11) (N:=none) (eH 12 4095) rfl rfl (jO HT_.out (by kernel_rfl)) (by decide) (fun K hK => ?_);have hs36:=bO cU 2 (.slice TM eB.length TF) rfl;have hfs36:=aC cU.out 2;have hns36_0:=pT.out;have hms36_0:=DQ.out;refine LI (w1:=?_) (by rfl) rfl ?_ ?_;rotate_left
           ·go_simp
            rfl
           refine hK.out _ _ ?_;clear hK K;refine yV (rJ HT_.out (by kernel_rfl)) ?_
           try go_wp2
           go_roundg k2
           case measure => have:=HJ2.out;have:=vJ.out;omega
           case rel => exact ⟨(wrap64 (kK + 1)),(y220),(.slice aJr y220.length aIA),nL,H',⟨by have:=HJ2.out;have:=vJ.out;omega⟩,⟨by (with_reducible repeat first | apply Kd.cK | apply Kd.cJ | apply Kd.cC);exact Kd.cN (Kd.dD (p:=⟨tP,2,none⟩) (Kd.eC aNf.out cU.out (by decide)) (fun _ hk => hk.2) (.slice aJr y220.length aIA)) (fun _ hk => trivial)⟩,⟨by (with_reducible repeat first | apply aD | apply aH | apply aE);refine bF ?_ pT.out _;(with_reducible repeat first | apply aD | apply aH | apply aE);exact bW.out⟩,⟨by (with_reducible repeat first | apply aD | apply aH | apply aE);refine bA (cs:=#[.int .i64 aN,.int .i64 (wrap64 (aJ + 1)),.slice TM eB.length TF]) ?_ 2 _ rfl;(with_reducible repeat first | apply aD | apply aH | apply aE);exact cU.out⟩,⟨cR HB iD lG⟩⟩
          ·rw [if_neg c22] at H
           exact absurd H (by simp)
         ·rw [if_neg BA] at H
          exact absurd H (by simp)
        ·rw [if_neg c20] at H
         exact absurd H (by simp)
       ·rw [if_neg MX] at H
        exact absurd H (by simp)
      ·rw [if_neg CE] at H
       have RB : decide (kK < aN) = false:=decide_eq_false CE;clear CE;replace H:=Option.bind_eq_some_iff.mp H;obtain ⟨⟨t223,t224,t225,t228⟩,aSK,H⟩:=H;replace H : (if 0≤aJ then (if (aJ : Int).toNat≤281474976710656 then (aW.l1 k2 t228 (List.replicate (aJ : Int).toNat 0) 0 aN aJ aT t223 t224 t225) else (none)) else (none)) = some (r1,r2,r3):=H;have A37:=aA.mk aSK;clear aSK
       by_cases c38 : 0≤aJ
       ·rw [if_pos c38] at H
        have aEB:=eq_true c38;have aRo : decide (0≤aJ) = true:=decide_eq_true c38;clear c38
        by_cases c39 : (aJ : Int).toNat≤281474976710656
        ·rw [if_pos c39] at H
         have aIE:=eq_true c39;have aRn : decide ((aJ : Int).toNat≤281474976710656) = true:=decide_eq_true c39;clear c39;obtain ⟨y232,hy232⟩ : ∃ y_ : List Int,y_ = (List.replicate (aJ : Int).toNat 0):=⟨_,rfl⟩
         replace H : (aW.l1 k2 t228 y232 0 aN aJ aT t223 t224 t225) = some (r1,r2,r3):=by first | (rw [hy232];with_reducible exact H) | (have H2_:=(Option.bind_some _ _).symm.trans H;rw [hy232];with_reducible exact H2_) | (have H2_:=(Option.bind_some _ _).symm.trans H;with_reducible exact H2_) | with_reducible exact H | (rw [hy232];exact H) | exact H
         have Ny232:=aA.mk hy232;clear hy232;have H':=aA.mk H;clear H;have aYH:=pT.out;have aXT:=DQ.out;have aEj:=bO bW 0 (.int .i64 aN) rfl;have aEi:=bO bW 1 (.int .i64 aJ) rfl;have aEh:=bO bW 2 (.slice bL aT.length bK) rfl;have aDL:=aC bW.out 0;have aDK:=aC bW.out 1;have aDJ:=aC bW.out 2;have aLm:=bO cU 0 (.int .i64 aN) rfl;have aLl:=bO cU 1 (.int .i64 (wrap64 (aJ + 1))) rfl;have aLk:=bO cU 2 ND rfl;have aKR:=aC cU.out 0;have aKQ:=aC cU.out 1;have aKP:=aC cU.out 2;obtain ⟨aJq,aIz,eo43⟩:=Kd.cM eE.out;subst eo43;go_wp2_with (first | ((with_reducible refine bB (f:=86) rfl ?_);refine cS (some 56) rfl rfl Try.func86 (by kernel_rfl) rfl #[.agg #[.int .i64 aN,.int .i64 (wrap64 (aJ + 1)),.slice aJq eB.length aIz]] rfl mS ?_;(with_reducible refine (aI.calls k2 aN (wrap64 (aJ + 1)) (fun k_ => some k_ = (.slice aJq eB.length aIz : Value).ownBlock) (.slice aJq eB.length aIz) eB t223 t224 t225 t228 w _ ?side1 ?side2 A37.out).mono ?_);(case side1 => repeat (first | (with_reducible first | exact HB.out | apply fU | apply fV | apply dT | refine eT ?_ iD.out | refine eT ?_ lG.out) | exact HB.out));(case side2 => exact Kd.aLP rfl eE.out);rintro e w44 ⟨v226,v229,rfl,ho0,ho1,hb,hkp⟩;refine ⟨_,rfl,?_⟩;have tN:=aA.mk (aBf (gM bW.out) hkp (fun hs_ => (fun e_ => (Kd.jE eE.out bW.out (by decide)) e_) hs_));have tM:=aA.mk (aBf (gM cU.out) hkp (fun hs_ => (fun e_ => (Kd.jE eE.out cU.out (by decide)) e_) hs_));have LN:=aA.mk (Kd.cN (ok':=fun k_ => True) ho0 (fun k_ hk_ => trivial));have TY:=aA.mk (Kd.cN (ok':=fun k_ => True) ho1 (fun k_ hk_ => trivial));have TX:=aA.mk (hb);clear bW cU;clear HB eE;have bW:=tN;have cU:=tM;have RT:=LN;have aBn:=TY;have HB:=TX;clear tN tM LN TY TX;(try clear hb);(try clear hkp);(try clear ho0);(try clear ho1)) | ((with_reducible refine bH (N:=11) rfl ?_);(try (refine fG (by rfl) ?_;dsimp only));refine lK (N:=11) (cs:=#[.int .i64 0,.int .i64 0,.slice none 0 0]) (t:=24) ?_;intro QO hg w45 hbox hb;replace RT:=aA.mk (Kd.cW (eQ RT.out) hb);replace aBn:=aA.mk (Kd.cW (eQ aBn.out) hb);have iV:=aA.mk (hbox);have aZM:=aA.mk (eW hg (cR HB iD lG) : w.heap.size≤QO);have RU:=aA.mk (eW hg (cR HB iD lG) : w.heap.size≤QO);replace HB:=aA.mk (aQ (cR HB iD lG) hb);have DR:=aA.mk (wJ hg (cH bW));have aGD:=aA.mk (wK hg (cH bW));replace bW:=aA.mk (aM (cH bW) hb);have DP:=aA.mk (wJ hg (cH cU));have aGC:=aA.mk (wK hg (cH cU));replace cU:=aA.mk (aM (cH cU) hb);clear hb hbox hg;have aQu:=aGD.out;have aPW:=DR.out;have aQt:=aGC.out;have aPV:=DP.out;have aEa:=bO iV 0 (.int .i64 0) rfl;have aDZ:=bO iV 1 (.int .i64 0) rfl;have aDY:=bO iV 2 (.slice none 0 0) rfl;have aDC:=aC iV.out 0;have aDB:=aC iV.out 1;have aDA:=aC iV.out 2;obtain ⟨TL,TE,eo49⟩:=Kd.cM RT.out;subst eo49;have aDX:=bO bW 0 (.int .i64 aN) rfl;have aDW:=bO bW 1 (.int .i64 aJ) rfl;have aDV:=bO bW 2 (.slice bL aT.length bK) rfl;have aDz:=aC bW.out 0;have aDy:=aC bW.out 1;have aDx:=aC bW.out 2) | ((with_reducible refine bH (N:=61) rfl ?_);(try (refine fG (by rfl) ?_;dsimp only));refine Kd.RO (Kd.int .u8) _ 5 rfl (N:=61) rfl 22 _ _ rfl aJ rfl rfl Try.underlying22 (.int .u8 0) 1 yS rfl (by decide) (by omega) 0 (ok:=fun _ => True) (okp:=fun _ => True) rfl (fun _ hk => hk) trivial (of_decide_eq_true mK) (Nat.le_trans (Nat.mul_le_mul_right _ (of_decide_eq_true mK : aJ.toNat≤281474976710656)) (by omega)) (Below.refl _ _) (Nat.le_refl _) ?_;intro v233 w51 ho52 hb hg_ hnew_;clear hg_ hnew_;(first | rw [← Ny232.out] at ho52 | (simp only [Int.reduceToNat] at ho52;rw [← Ny232.out] at ho52));replace aBn:=aA.mk (Kd.cW (eQ (q_j aBn.out iV.out (.int .i64 t223) (.int .i64 t224) (.slice TL t225.length TE))) hb);have aRQ:=aA.mk (Kd.dS (Kd.mM ho52 (Kd.uX (eQ (q_j RT.out iV.out (.int .i64 t223) (.int .i64 t224) (.slice TL t225.length TE))))) (bU (jU HB iD lG RU)));replace RT:=aA.mk (Kd.gS (eQ (q_j RT.out iV.out (.int .i64 t223) (.int .i64 t224) (.slice TL t225.length TE))) (Kd.lW ho52) hb);replace bW:=aA.mk (aM (g:=tQ) (o:=.cells #[.int .i64 aN,.int .i64 aJ,.slice bL aT.length bK] 24 (0,0)) (by (with_reducible repeat first | apply aD | apply aH | apply aE);refine bF ?_ DR.out _;(with_reducible repeat first | apply aD | apply aH | apply aE);refine bF ?_ DR.out _;(with_reducible repeat first | apply aD | apply aH | apply aE);refine bF ?_ DR.out _;(with_reducible repeat first | apply aD | apply aH | apply aE);exact bW.out) hb);replace cU:=aA.mk (aM (g:=tP) (o:=.cells #[.int .i64 aN,.int .i64 (wrap64 (aJ + 1)),.slice aJq eB.length aIz] 24 (0,0)) (by (with_reducible repeat first | apply aD | apply aH | apply aE);refine bF ?_ DP.out _;(with_reducible repeat first | apply aD | apply aH | apply aE);refine bF ?_ DP.out _;(with_reducible repeat first | apply aD | apply aH | apply aE);refine bF ?_ DP.out _;(with_reducible repeat first | apply aD | apply aH | apply aE);exact cU.out) hb);replace iV:=aA.mk (aM (g:=QO) (o:=.cells #[.int .i64 t223,.int .i64 t224,.slice TL t225.length TE] 24 (0,0)) (by (with_reducible repeat first | apply aD | apply aH | apply aE);refine bA (cs:=#[.int .i64 t223,.int .i64 t224,.slice none 0 0]) ?_ 2 _ rfl;(with_reducible repeat first | apply aD | apply aH | apply aE);refine bA (cs:=#[.int .i64 t223,.int .i64 0,.slice none 0 0]) ?_ 1 _ rfl;(with_reducible repeat first | apply aD | apply aH | apply aE);refine bA (cs:=#[.int .i64 0,.int .i64 0,.slice none 0 0]) ?_ 0 _ rfl;(with_reducible repeat first | apply aD | apply aH | apply aE);exact iV.out) hb);replace HB:=aA.mk (aQ (jU HB iD lG RU) hb);clear hb ho52))
         go_loopg [14] k2 (fun kq v14 w' => ∃ (GA : List Int) (fK : Int),v14 = .int .i64 fK∧aA (aW.l1 kq t228 GA fK aN aJ aT t223 t224 t225 = some (r1,r2,r3))∧aA (kq≤k2)∧aA (Kd.R (Kd.int .i64) 3 w' w.heap.size (fun _ => True) v229 t228)∧aA (Kd.R (Kd.int .u8) 5 w' w.heap.size (fun k_ => some k_≠((.slice TL t225.length TE) : Value).ownBlock) v233 GA)∧aA (Kd.R (Kd.int .u8) 5 w' w.heap.size (fun k_ => some k_≠(v233 : Value).ownBlock) (.slice TL t225.length TE) t225)∧aA (w'.heap[tQ]? = some (.cells #[.int .i64 aN,.int .i64 aJ,(.slice bL aT.length bK)] 24 (0,0)))∧aA (w'.heap[tP]? = some (.cells #[.int .i64 aN,.int .i64 (wrap64 (aJ + 1)),(.slice aJq eB.length aIz)] 24 (0,0)))∧aA (w'.heap[QO]? = some (.cells #[.int .i64 t223,.int .i64 t224,(.slice TL t225.length TE)] 24 (0,0)))∧aA (Below w.heap.size w w'))
         case atStart => exact ⟨(y232),(0),nL,H',⟨Nat.le_refl _⟩,⟨eQ aBn.out⟩,⟨by (with_reducible repeat first | apply Kd.cK | apply Kd.cJ | apply Kd.cC);exact Kd.cN aRQ.out (fun _ hk => hk.2)⟩,⟨by (with_reducible repeat first | apply Kd.cK | apply Kd.cJ | apply Kd.cC);exact Kd.cN RT.out (fun _ hk => hk.2)⟩,⟨gM bW.out⟩,⟨gM cU.out⟩,⟨gM iV.out⟩,⟨jU HB iD lG RU⟩⟩
         case round =>
          clear H';(try clear c1);(try clear c2);(try clear p2);(try clear q2);(try clear hx2);(try clear c3);(try clear c4);(try clear c5);(try clear c6);(try clear p6);(try clear c8);(try clear AO);(try clear YZ);(try clear CE);(try clear RB);(try clear MX);(try clear c20);(try clear aRx);(try clear BA);(try clear EG);(try clear p21);(try clear q21);(try clear hx21);(try clear c22);(try clear c23);(try clear c38);(try clear aEB);(try clear aRo);(try clear c39);(try clear aIE);(try clear aRn);(try clear c40);(try clear c46);(try clear c47);(try clear jL);(try clear jK);(try clear jJ);(try clear mZ);(try clear mY);(try clear mX);(try clear qW);(try clear qV);(try clear qU);(try clear YL);(try clear YK);(try clear YJ);(try clear aEj);(try clear aEi);(try clear aEh);(try clear aLm);(try clear aLl);(try clear aLk);(try clear aEa);(try clear aDZ);(try clear aDY);(try clear aDX);(try clear aDW);(try clear aDV);(try clear iS);(try clear iR);(try clear iQ);(try clear yH);(try clear yG);(try clear yF);(try clear jI);(try clear jH);(try clear jG);(try clear mW);(try clear mU);(try clear mT);(try clear qQ);(try clear qP);(try clear qO);(try clear XQ);(try clear XP);(try clear XO);(try clear aDL);(try clear aDK);(try clear aDJ);(try clear aKR);(try clear aKQ)
          (try clear aKP);(try clear aDC);(try clear aDB);(try clear aDA);(try clear aDz);(try clear aDy);(try clear aDx);(try clear iP);(try clear iO);(try clear iN);(try clear yE);(try clear yD);(try clear yC);(try clear hx216_0);(try clear p2);(try clear aKg);(try clear p6);(try clear q216);obtain ⟨GA,fK,rfl,HA,zN,rV,rU,iH,bW,cU,iV,HB⟩:=hrel
          cases gk with
          | zero => exact absurd HA.out (by simp [aW.l1])
          | succ k3 =>
           have H:=HA.out;clear HA;simp only [aW.l1] at H
           by_cases KT : fK < (t228.length : Int)
           ·rw [if_pos KT] at H
            have AN : decide (fK < (t228.length : Int)) = true:=decide_eq_true KT;clear KT
            by_cases c54 : 0≤fK
            ·rw [if_pos c54] at H
             have aZc : decide (0≤fK) = true:=decide_eq_true c54;clear c54
             by_cases c55 : (rd t228 fK) = aJ
             ·rw [if_pos c55] at H
              have aMM : ((rd t228 fK) == aJ) = true:=beq_iff_eq.mpr c55;have aRj : ((rd t228 fK) != aJ) = false:=bne_eq_false_iff_eq.mpr c55;clear c55;simp only [Option.some.injEq,Prod.mk.injEq] at H;obtain ⟨rfl,rfl,rfl⟩:=H;obtain ⟨bBk,bAM,eo56⟩:=Kd.cM rV.out;subst eo56
              try go_wp2
              replace rV:=aA.mk (Kd.cC rV.out);replace rU:=aA.mk (Kd.cC rU.out);replace iH:=aA.mk (Kd.cC iH.out);replace bW:=aA.mk (aH bW.out);replace cU:=aA.mk (aH cU.out);replace iV:=aA.mk (aH iV.out);replace HB:=aA.mk (dT HB.out);have aCj : 0≤(fK : Int):=of_decide_eq_true mK;have q235 : fK < (t228.length : Int):=of_decide_eq_true mK;obtain ⟨ad235,e235,hx235_0⟩:=Kd.nU (Kd.cD rV.out).2.2 fK aCj q235
              cases e235
              replace aCj:=eq_true aCj;replace q235:=eq_true q235;refine sG (n:=7) (S:=fun w' => w'.cell? ⟨tQ,0,none⟩ = some (.int .i64 aN)∧w'.cell? ⟨tQ,1,none⟩ = some (.int .i64 aJ)∧w'.cell? ⟨tQ,2,none⟩ = some (.slice bL aT.length bK)∧w'.cell? (ad235.add (fK).toNat) = some (.int .i64 (rd t228 fK))) (ds:=[]) #[false,false,false,false,false,false,false] (by kernel_rfl) rfl rfl ⟨(aY bW.out 0).trans rfl,(aY bW.out 1).trans rfl,(aY bW.out 2).trans rfl,hx235_0⟩ (fun hHeld => ?_);generalize wr.drew = w57 at rV rU iH bW cU iV HB hx235_0 hHeld ⊢;refine bY (i:=0) (N:=some 68) (v:=?_) (a':=?_) (eH 7 1) rfl rfl (by kernel_rfl) (fun _ _ _ h => h) (Or.inl ⟨by rfl,?_⟩) ?_ ?_;rotate_left
              ·intro w'
               go_simp;(with_reducible rfl)
              rotate_left
              ·simp only [Act.put,cO,cL,cP,bE,bJ]
               rfl
              refine bY (i:=1) (N:=some 69) (v:=?_) (a':=?_) (eH 7 3) rfl rfl (by kernel_rfl) (fun _ _ _ h => h) (Or.inl ⟨by rfl,?_⟩) ?_ ?_;rotate_left
              ·intro w'
               go_simp;(with_reducible rfl)
              rotate_left
              ·simp only [Act.put,cO,cL,cP,bE,bJ]
               rfl
              refine bY (i:=2) (N:=some 70) (v:=?_) (a':=?_) (eH 7 7) rfl rfl (by kernel_rfl) (fun _ _ _ h => h) (Or.inl ⟨by rfl,?_⟩) ?_ ?_;rotate_left
              ·intro w'
               go_simp;(with_reducible rfl)
              rotate_left
              ·simp only [Act.put,cO,cL,cP,bE,bJ]
               rfl
              refine bY (i:=4) (N:=some 72) (v:=?_) (a':=?_) (eH 7 23) rfl rfl (by kernel_rfl) (fun _ _ _ h => h) (Or.inl ⟨by rfl,?_⟩) ?_ ?_;rotate_left
              ·intro w'
               go_simp;(with_reducible rfl)
              rotate_left
              ·simp only [Act.put,cO,cL,cP,bE,bJ]
               rfl
              refine gP (i:=3) (N:=some 71) (v:=?_) (a':=?_) (eH 7 31) rfl rfl (by kernel_rfl) (fun _ _ _ h => h) (Or.inl ⟨by rfl,?_⟩) hHeld ?_ ?_;rotate_left
              ·rintro w' ⟨s0,s1,s2,s3⟩
               go_simp;(with_reducible rfl)
              rotate_left
              ·simp only [Act.put,cO,cL,cP,bE,bJ]
               rfl
              refine gP (i:=5) (N:=some 73) (v:=?_) (a':=?_) (eH 7 63) rfl rfl (by kernel_rfl) (fun _ _ _ h => h) (Or.inl ⟨by rfl,?_⟩) hHeld ?_ ?_;rotate_left
              ·rintro w' ⟨s0,s1,s2,s3⟩
               go_simp;(with_reducible rfl)
              rotate_left
              ·simp only [Act.put,cO,cL,cP,bE,bJ]
               rfl
              refine bY (i:=6) (N:=some 74) (v:=?_) (a':=?_) (eH 7 127) rfl rfl (by kernel_rfl) (fun _ _ _ h => h) (Or.inl ⟨by rfl,?_⟩) ?_ ?_;rotate_left
              ·intro w'
               go_simp;(with_reducible rfl)
              rotate_left
              ·simp only [Act.put,cO,cL,cP,bE,bJ]
               rfl
              refine yV (by kernel_rfl) ?_
              try go_wp2
              go_ret3
              exact ⟨_,uB,MR,jU HB iD lG RU⟩
             ·rw [if_neg c55] at H
              have aMM : ((rd t228 fK) == aJ) = false:=beq_eq_false_iff_ne.mpr c55;have aRj : ((rd t228 fK) != aJ) = true:=bne_iff_ne.mpr c55;replace H:=Option.bind_eq_some_iff.mp H;obtain ⟨t237,aSG,H⟩:=H;replace H : (if 0≤(rd t228 fK) then (if (rd t228 fK) < (GA.length : Int) then (aW.l1 k3 t228 (GA.set ((rd t228 fK) : Int).toNat t237) (wrap64 (fK + 1)) aN aJ aT t223 t224 t225) else (none)) else (none)) = some (r1,r2,r3):=H;have A58:=aA.mk aSG;clear aSG
              by_cases c59 : 0≤(rd t228 fK)
              ·rw [if_pos c59] at H
               have aZa : decide (0≤(rd t228 fK)) = true:=decide_eq_true c59;clear c59
               by_cases c60 : (rd t228 fK) < (GA.length : Int)
               ·rw [if_pos c60] at H
                have aML : decide ((rd t228 fK) < (GA.length : Int)) = true:=decide_eq_true c60;clear c60;obtain ⟨y238,hy238⟩ : ∃ y_ : List Int,y_ = (GA.set ((rd t228 fK) : Int).toNat t237):=⟨_,rfl⟩
                replace H : (aW.l1 k3 t228 y238 (wrap64 (fK + 1)) aN aJ aT t223 t224 t225) = some (r1,r2,r3):=by first | (rw [hy238];with_reducible exact H) | (have H2_:=(Option.bind_some _ _).symm.trans H;rw [hy238];with_reducible exact H2_) | (have H2_:=(Option.bind_some _ _).symm.trans H;with_reducible exact H2_) | with_reducible exact H | (rw [hy238];exact H) | exact H
                have Ny238:=aA.mk hy238;clear hy238;have H':=aA.mk H;clear H;obtain ⟨aXi,aWV,eo62⟩:=Kd.cM rV.out;subst eo62
                try go_wp2
                replace rV:=aA.mk (Kd.cC rV.out);replace rU:=aA.mk (Kd.cC rU.out);replace iH:=aA.mk (Kd.cC iH.out);replace bW:=aA.mk (aH bW.out);replace cU:=aA.mk (aH cU.out);replace iV:=aA.mk (aH iV.out);replace HB:=aA.mk (dT HB.out);have aCj : 0≤(fK : Int):=of_decide_eq_true mK;have q235 : fK < (t228.length : Int):=of_decide_eq_true mK;obtain ⟨ad235,e235,hx235_0⟩:=Kd.nU (Kd.cD rV.out).2.2 fK aCj q235
                cases e235
                replace aCj:=eq_true aCj;replace q235:=eq_true q235;refine sG (n:=7) (S:=fun w' => w'.cell? ⟨tQ,0,none⟩ = some (.int .i64 aN)∧w'.cell? ⟨tQ,1,none⟩ = some (.int .i64 aJ)∧w'.cell? ⟨tQ,2,none⟩ = some (.slice bL aT.length bK)∧w'.cell? (ad235.add (fK).toNat) = some (.int .i64 (rd t228 fK))) (ds:=[]) #[false,false,false,false,false,false,false] (by kernel_rfl) rfl rfl ⟨(aY bW.out 0).trans rfl,(aY bW.out 1).trans rfl,(aY bW.out 2).trans rfl,hx235_0⟩ (fun hHeld => ?_);generalize wr.drew = w63 at rV rU iH bW cU iV HB hx235_0 hHeld ⊢;refine bY (i:=0) (N:=some 68) (v:=?_) (a':=?_) (eH 7 1) rfl rfl (by kernel_rfl) (fun _ _ _ h => h) (Or.inl ⟨by rfl,?_⟩) ?_ ?_;rotate_left
                ·intro w'
                 go_simp;(with_reducible rfl)
                rotate_left
                ·simp only [Act.put,cO,cL,cP,bE,bJ]
                 rfl
                refine bY (i:=1) (N:=some 69) (v:=?_) (a':=?_) (eH 7 3) rfl rfl (by kernel_rfl) (fun _ _ _ h => h) (Or.inl ⟨by rfl,?_⟩) ?_ ?_;rotate_left
                ·intro w'
                 go_simp;(with_reducible rfl)
                rotate_left
                ·simp only [Act.put,cO,cL,cP,bE,bJ]
                 rfl
                refine bY (i:=2) (N:=some 70) (v:=?_) (a':=?_) (eH 7 7) rfl rfl (by kernel_rfl) (fun _ _ _ h => h) (Or.inl ⟨by rfl,?_⟩) ?_ ?_;rotate_left
                ·intro w'
                 go_simp;(with_reducible rfl)
                rotate_left
                ·simp only [Act.put,cO,cL,cP,bE,bJ]
                 rfl
                refine bY (i:=4) (N:=some 72) (v:=?_) (a':=?_) (eH 7 23) rfl rfl (by kernel_rfl) (fun _ _ _ h => h) (Or.inl ⟨by rfl,?_⟩) ?_ ?_;rotate_left
                ·intro w'
                 go_simp;(with_reducible rfl)
                rotate_left
                ·simp only [Act.put,cO,cL,cP,bE,bJ]
                 rfl
                refine gP (i:=3) (N:=some 71) (v:=?_) (a':=?_) (eH 7 31) rfl rfl (by kernel_rfl) (fun _ _ _ h => h) (Or.inl ⟨by rfl,?_⟩) hHeld ?_ ?_;rotate_left
                ·rintro w' ⟨s0,s1,s2,s3⟩
                 go_simp;(with_reducible rfl)
                rotate_left
                ·simp only [Act.put,cO,cL,cP,bE,bJ]
                 rfl
                refine gP (i:=5) (N:=some 73) (v:=?_) (a':=?_) (eH 7 63) rfl rfl (by kernel_rfl) (fun _ _ _ h => h) (Or.inl ⟨by rfl,?_⟩) hHeld ?_ ?_;rotate_left
                ·rintro w' ⟨s0,s1,s2,s3⟩
                 go_simp;(with_reducible rfl)
                rotate_left
                ·simp only [Act.put,cO,cL,cP,bE,bJ]
                 rfl
                refine bY (i:=6) (N:=some 74) (v:=?_) (a':=?_) (eH 7 127) rfl rfl (by kernel_rfl) (fun _ _ _ h => h) (Or.inl ⟨by rfl,?_⟩) ?_ ?_;rotate_left
                ·intro w'
                 go_simp;(with_reducible rfl)
                rotate_left
                ·simp only [Act.put,cO,cL,cP,bE,bJ]
                 rfl
                refine yV (by kernel_rfl) ?_
                try go_wp2
                replace rV:=aA.mk (Kd.cC rV.out);replace rU:=aA.mk (Kd.cC rU.out);replace iH:=aA.mk (Kd.cC iH.out);replace bW:=aA.mk (aH bW.out);replace cU:=aA.mk (aH cU.out);replace iV:=aA.mk (aH iV.out);replace HB:=aA.mk (dT HB.out);have aNX : 0≤(fK : Int):=of_decide_eq_true mK;have q236 : fK < (t228.length : Int):=of_decide_eq_true mK;obtain ⟨ad236,e236,hx236_0⟩:=Kd.nU (Kd.cD rV.out).2.2 fK aNX q236;obtain rfl : ad235 = ad236:=(by injection e236)
                replace aNX:=eq_true aNX;replace q236:=eq_true q236;refine sG (n:=12) (S:=fun w' => w'.cell? ⟨QO,0,none⟩ = some (.int .i64 t223)∧w'.cell? ⟨QO,1,none⟩ = some (.int .i64 t224)∧w'.cell? ⟨QO,2,none⟩ = some (.slice TL t225.length TE)∧w'.cell? ⟨tQ,0,none⟩ = some (.int .i64 aN)∧w'.cell? ⟨tQ,1,none⟩ = some (.int .i64 aJ)∧w'.cell? ⟨tQ,2,none⟩ = some (.slice bL aT.length bK)∧w'.cell? (ad235.add (fK).toNat) = some (.int .i64 (rd t228 fK))) (ds:=[11]) #[false,false,false,false,false,false,false,false,false,false,false,false] (by kernel_rfl) rfl rfl ⟨(aY iV.out 0).trans rfl,(aY iV.out 1).trans rfl,(aY iV.out 2).trans rfl,(aY bW.out 0).trans rfl,(aY bW.out 1).trans rfl,(aY bW.out 2).trans rfl,hx236_0⟩ (fun hHeld => ?_);refine kL aW.aGZ aW.aCF (fun HT_ HW_ => ?_);generalize w63.drew = w64 at rV rU iH bW cU iV HB hx236_0 hHeld ⊢;refine bY (i:=0) (N:=some 75) (v:=?_) (a':=?_) (eH 12 1) rfl rfl (bS HT_.out (by kernel_rfl)) (fun _ _ _ h => h) (Or.inl ⟨by rfl,?_⟩) ?_ ?_;rotate_left
                ·intro w'
                 go_simp;(with_reducible rfl)
                rotate_left
                ·simp only [Act.put,cO,cL,cP,bE,bJ]
                 rfl
                refine bY (i:=1) (N:=some 76) (v:=?_) (a':=?_) (eH 12 3) rfl rfl (bS HT_.out (by kernel_rfl)) (fun _ _ _ h => h) (Or.inl ⟨by rfl,?_⟩) ?_ ?_;rotate_left
                ·intro w'
                 go_simp;(with_reducible rfl)
                rotate_left
                ·simp only [Act.put,cO,cL,cP,bE,bJ]
                 rfl
                refine bY (i:=2) (N:=some 77) (v:=?_) (a':=?_) (eH 12 7) rfl rfl (bS HT_.out (by kernel_rfl)) (fun _ _ _ h => h) (Or.inl ⟨by rfl,?_⟩) ?_ ?_;rotate_left
                ·intro w'
                 go_simp;(with_reducible rfl)
                rotate_left
                ·simp only [Act.put,cO,cL,cP,bE,bJ]
                 rfl
                refine bY (i:=3) (N:=some 78) (v:=?_) (a':=?_) (eH 12 15) rfl rfl (bS HT_.out (by kernel_rfl)) (fun _ _ _ h => h) (Or.inl ⟨by rfl,?_⟩) ?_ ?_;rotate_left
                ·intro w'
                 go_simp;(with_reducible rfl)
                rotate_left
                ·simp only [Act.put,cO,cL,cP,bE,bJ]
                 rfl
                refine bY (i:=6) (N:=some 81) (v:=?_) (a':=?_) (eH 12 79) rfl rfl (bS HT_.out (by kernel_rfl)) (fun _ _ _ h => h) (Or.inl ⟨by rfl,?_⟩) ?_ ?_;rotate_left
                ·intro w'
                 go_simp;(with_reducible rfl)
                rotate_left
                ·simp only [Act.put,cO,cL,cP,bE,bJ]
                 rfl
                refine bY (i:=7) (N:=some 82) (v:=?_) (a':=?_) (eH 12 207) rfl rfl (bS HT_.out (by kernel_rfl)) (fun _ _ _ h => h) (Or.inl ⟨by rfl,?_⟩) ?_ ?_;rotate_left
                ·intro w'
                 go_simp;(with_reducible rfl)
                rotate_left
                ·simp only [Act.put,cO,cL,cP,bE,bJ]
                 rfl
                refine gP (i:=4) (N:=some 79) (v:=?_) (a':=?_) (eH 12 223) rfl rfl (dM HT_.out HW_.out (by kernel_rfl)) (fun _ _ _ h => h) (Or.inl ⟨by rfl,?_⟩) hHeld ?_ ?_;rotate_left
                ·rintro w' ⟨s0,s1,s2,s3,s4,s5,s6⟩
                 go_simp;(with_reducible rfl)
                rotate_left
                ·simp only [Act.put,cO,cL,cP,bE,bJ]
                 rfl
                refine gP (i:=5) (N:=some 80) (v:=?_) (a':=?_) (eH 12 255) rfl rfl (dM HT_.out HW_.out (by kernel_rfl)) (fun _ _ _ h => h) (Or.inl ⟨by rfl,?_⟩) hHeld ?_ ?_;rotate_left
                ·rintro w' ⟨s0,s1,s2,s3,s4,s5,s6⟩
                 go_simp;(with_reducible rfl)
                rotate_left
                ·simp only [Act.put,cO,cL,cP,bE,bJ]
                 rfl
                refine gP (i:=8) (N:=some 83) (v:=?_) (a':=?_) (eH 12 511) rfl rfl (dM HT_.out HW_.out (by kernel_rfl)) (fun _ _ _ h => h) (Or.inl ⟨by rfl,?_⟩) hHeld ?_ ?_;rotate_left
                ·rintro w' ⟨s0,s1,s2,s3,s4,s5,s6⟩
                 go_simp;(with_reducible rfl)
                rotate_left
                ·simp only [Act.put,cO,cL,cP,bE,bJ]
                 rfl
                refine DS (i:=9) (N:=some 84) (eH 12 1023) rfl rfl (jO HT_.out (by kernel_rfl)) (by decide) (fun K hK => ?_);refine BR Try.func25 (by kernel_rfl) rfl #[.agg #[.int .i64 t223,.int .i64 t224,.slice TL t225.length TE],.int .i64 fK,.int .i64 aJ] (by rfl) rfl rfl mS ?_
                with_reducible refine (bV.calls t223 t224 _ _ t225 fK aJ t237 _ ?side1 ?side2 A58.out).mono ?_
                (case side1 => exact pZ ((Kd.cD iH.out).2.2))
                (case side2 => exact (Kd.cD iH.out).2.1);rintro e w65 ⟨rfl,hb⟩;have HS6_:=(hb.cell (World.block_lt_of_cell? _ _ (hHeld.2.2.2.2.2.2))).trans (hHeld.2.2.2.2.2.2);refine ⟨_,rfl,?_⟩;replace rV:=aA.mk (Kd.cW (eQ rV.out) hb);replace rU:=aA.mk (Kd.cW (eQ rU.out) hb);replace iH:=aA.mk (Kd.cW (eQ iH.out) hb);replace bW:=aA.mk (aM (cH bW) hb);replace cU:=aA.mk (aM (cH cU) hb);replace iV:=aA.mk (aM (cH iV) hb);replace HB:=aA.mk (aQ (jU HB iD lG RU) hb);(try clear hb);(try clear hb2);(try clear hk);(try clear hi);have p61 : 0≤((rd t228 fK) : Int):=of_decide_eq_true mK;have q61 : ((rd t228 fK) : Int) < ((GA.length : Int) : Int):=of_decide_eq_true mK;obtain ⟨go61,bAK,eo61,aQJ,gl61,cl61,HG61⟩:=Kd.AE rU.out (by omega)
                (first | cases eo61 | (injection eo61 with ea_ en_ ec_;(first | subst ea_ | (injection ea_ with ea_;subst ea_));subst ec_;clear en_));have GB61:=aA.mk aQJ;have GG61:=aA.mk HG61;clear aQJ gl61 HG61;obtain ⟨hx61_0,hf61_0⟩:=Kd.nG 0 rU.out ((rd t228 fK) : Int) p61 q61;replace p61:=eq_true p61;replace q61:=eq_true q61;have HP66:=Kd.KX rU.out ((rd t228 fK) : Int) t237;rw [← Ny238.out] at HP66;have HQ66:=aA.mk HP66;clear HP66;refine hK.out _ _ ⟨(aY iV.out 0).trans rfl,(aY iV.out 1).trans rfl,(aY iV.out 2).trans rfl,(aY bW.out 0).trans rfl,(aY bW.out 1).trans rfl,(aY bW.out 2).trans rfl,HS6_⟩ (fun hHeld => ?_);clear hK K;refine qM (a':=?_) ?_ ?_;rotate_left
                ·show Act.put _ (some 84) _ = _
                 simp only [Act.put,cO,cL,cP,bE,bJ];rfl
                refine bY (i:=10) (N:=some 85) (v:=?_) (a':=?_) (eH 12 2047) rfl rfl (bS HT_.out (by kernel_rfl)) (fun _ _ _ h => h) (Or.inl ⟨by rfl,?_⟩) ?_ ?_;rotate_left
                ·intro w'
                 go_simp;(with_reducible rfl)
                rotate_left
                ·simp only [Act.put,cO,cL,cP,bE,bJ]
                 rfl
                refine QH (i:=11) (N:=none) (eH 12 4095) rfl rfl (jO HT_.out (by kernel_rfl)) (by decide) (fun K hK => ?_);refine LI (w1:=?_) (by rfl) rfl ?_ ?_;rotate_left
                ·go_simp
                 rfl
                refine hK.out _ _ ?_;clear hK K;refine yV (rJ HT_.out (by kernel_rfl)) ?_
                try go_wp2
                go_roundg k3
                case measure => have:=HJ2.out;have:=vJ.out;have:=zN.out;omega
                case rel => exact ⟨(y238),(wrap64 (fK + 1)),nL,H',⟨by have:=HJ2.out;have:=vJ.out;have:=zN.out;omega⟩,⟨by (with_reducible repeat first | apply Kd.cK | apply Kd.cJ | apply Kd.cC);exact Kd.cN (Kd.dD (p:=⟨go61,((rd t228 fK) : Int).toNat,none⟩) (Kd.eC rV.out GG61.out (by decide)) (fun _ hk => hk.2) (.int .u8 t237)) (fun _ hk => trivial)⟩,⟨eQ HQ66.out⟩,⟨by (with_reducible repeat first | apply Kd.cK | apply Kd.cJ | apply Kd.cC);exact Kd.cN (Kd.dD (p:=⟨go61,((rd t228 fK) : Int).toNat,none⟩) (Kd.cN iH.out (fun k_ hk => (⟨hk,fun e_ => hk (by rw [e_];rfl)⟩ : _∧k_≠go61))) (fun _ hk => hk.2) (.int .u8 t237)) (fun _ hk => hk.1)⟩,⟨by (with_reducible repeat first | apply aD | apply aH | apply aE);refine bF ?_ (by have h_:=Kd.jE rU.out bW.out (by decide);intro e_;exact h_ (by rw [e_];rfl)) _;(with_reducible repeat first | apply aD | apply aH | apply aE);exact bW.out⟩,⟨by (with_reducible repeat first | apply aD | apply aH | apply aE);refine bF ?_ (by have h_:=Kd.jE rU.out cU.out (by decide);intro e_;exact h_ (by rw [e_];rfl)) _;(with_reducible repeat first | apply aD | apply aH | apply aE);exact cU.out⟩,⟨by (with_reducible repeat first | apply aD | apply aH | apply aE);refine bF ?_ (by have h_:=Kd.jE rU.out iV.out (by decide);intro e_;exact h_ (by rw [e_];rfl)) _;(with_reducible repeat first | apply aD | apply aH | apply aE);exact iV.out⟩,⟨wL HB GB61 iD lG RU⟩⟩
               ·rw [if_neg c60] at H
                exact absurd H (by simp)
              ·rw [if_neg c59] at H
               exact absurd H (by simp)
            ·rw [if_neg c54] at H
             exact absurd H (by simp)
           ·rw [if_neg KT] at H
            have AN : decide (fK < (t228.length : Int)) = false:=decide_eq_false KT;clear KT;simp only [Option.some.injEq,Prod.mk.injEq] at H;obtain ⟨rfl,rfl,rfl⟩:=H;obtain ⟨aJp,aIy,eo67⟩:=Kd.cM rV.out;subst eo67
            go_wp2
            go_ret3
            exact ⟨_,uB,by (with_reducible repeat first | apply Kd.cK | apply Kd.cJ | apply Kd.cC);exact Kd.cN rU.out (fun _ hk => trivial),jU HB iD lG RU⟩
        ·rw [if_neg c39] at H
         exact absurd H (by simp)
       ·rw [if_neg c38] at H
        exact absurd H (by simp)
end Go.Proofs.Yteofcbkjhdadpaa.Pr
