-- Out of the translation,by this session's turn of the print (wip/gp.py).
import Derived.Test.YteofcbkjhdadpaaCBuildFreshx0
import Derived.Test.YteofcbkjhdadpaaCBuildFreshx2
import Derived.Test.YteofcbkjhdadpaaCBuildFreshq
set_option maxHeartbeats 8000000
set_option maxRecDepth 100000
set_option linter.unusedSimpArgs false
set_option linter.unusedVariables false
namespace Go.Proofs.Yteofcbkjhdadpaa.Pr
open Go.RowKit Go.Proofs.aG.aX Go.Proofs.aG.dI Go.Proofs.aG.eN
attribute [local go_sem] fZ fX gZ gY fD fC fY fW   -- for this text's walks alone
mutual
def bR.j0 : Nat→Int→Bool→Int→Int→List Int→Option (List Int×Int)
 | 0,_,_,_,_,_ => none
 | k + 1,x1,x18,NA,FZ,MZ => if x18 = true then (some (([] : List Int),2)) else (bR.l0 k x1 ([] : List Int) 0 NA FZ MZ)
def bR.l0 : Nat→Int→List Int→Int→Int→Int→List Int→Option (List Int×Int)
 | 0,_,_,_,_,_,_ => none
 | k + 1,x1,x6,x7,NA,FZ,MZ => if x7 < FZ then ((bV.f NA FZ MZ x1 x7).bind fun t184 => (if x6.length < 140737488355328 then (bR.l0 k x1 (x6 ++ [t184]) (wrap64 (x7 + 1)) NA FZ MZ) else (none))) else (some (x6,0))
end
def bR.f (k : Nat) (aN : Int) (aJ : Int) (aT : List Int) (a1 : Int) : Option (List Int×Int):=(bN.f aN aJ aT).bind fun t183 => (if t183 = true then (if a1 < 0 then (bR.j0 k a1 true aN aJ aT) else (bR.j0 k a1 (decide (a1 ≥ aN)) aN aJ aT)) else (some (([] : List Int),3)))
theorem bR.calls (k : Nat) (aN : Int) (aJ : Int) (bL : Option Addr) (bK : Nat) (aT : List Int) (a1 : Int) (r1 : List Int) (r2 : Int) (w : World) (hr0_2 : Kd.C (Kd.int .u8) w bL aT.length aT) (hc0_2 : aT.length≤bK) (h : bR.f k aN aJ aT a1 = some (r1,r2)) :
  Calls Try.prog 54 #[.agg #[.int .i64 aN,.int .i64 aJ,.slice bL aT.length bK],.int .i64 a1] w fun e w' => ∃ v0_ : Value,e = .returned (.tuple #[v0_,.int .i64 r2])∧Kd.R (Kd.int .u8) 5 w' w.heap.size (fun _ => True) v0_ r1∧Below w.heap.size w w':=by
 have wM:=Try.underlying24;have eP:=aA.mk hr0_2;have eS:=aA.mk hc0_2;clear hr0_2 hc0_2;have HB:=aA.mk (Below.refl w.heap.size w);have H : ((bN.f aN aJ aT).bind fun t183 => (if t183 = true then (if a1 < 0 then (bR.j0 k a1 true aN aJ aT) else (bR.j0 k a1 (decide (a1 ≥ aN)) aN aJ aT)) else (some (([] : List Int),3)))) = some (r1,r2):=h;clear h;replace H:=Option.bind_eq_some_iff.mp H;obtain ⟨t183,A30,H⟩:=H;replace H : (if t183 = true then (if a1 < 0 then (bR.j0 k a1 true aN aJ aT) else (bR.j0 k a1 (decide (a1 ≥ aN)) aN aJ aT)) else (some (([] : List Int),3))) = some (r1,r2):=H;have A3:=aA.mk A30;clear A30
 by_cases c4 : t183 = true
 ·subst c4
  have H1 : (if a1 < 0 then (bR.j0 k a1 true aN aJ aT) else (bR.j0 k a1 (decide (a1 ≥ aN)) aN aJ aT)) = some (r1,r2):=by rw [if_pos rfl] at H;exact H
  clear H;have H:=H1;clear H1;have HC5:=aA.mk H;clear H;go_enter Try.func54,Try.ntmps54;go_upto_region 3 with (first | ((with_reducible refine bH (N:=2) rfl ?_);refine lK (N:=2) (cs:=#[.int .i64 aN,.int .i64 aJ,.slice bL aT.length bK]) (t:=24) ?_;intro QP hg w6 hbox hb;have fN:=aA.mk (hbox);have aSf:=aA.mk (eW hg (cG HB) : w.heap.size≤QP);have zK:=aA.mk (eW hg (cG HB) : w.heap.size≤QP);replace HB:=aA.mk (aQ (cG HB) hb);clear hb hbox hg;have iS:=bO fN 0 (.int .i64 aN) rfl;have iR:=bO fN 1 (.int .i64 aJ) rfl;have iQ:=bO fN 2 (.slice bL aT.length bK) rfl;have iP:=aC fN.out 0;have iO:=aC fN.out 1;have iN:=aC fN.out 2) | ((with_reducible refine bB (f:=17) rfl ?_);refine cS (some 9) rfl rfl Try.func17 (by kernel_rfl) rfl #[.agg #[.int .i64 aN,.int .i64 aJ,.slice bL aT.length bK]] rfl mS ?_;(with_reducible refine (bN.calls aN aJ _ _ aT true _ ?side1 ?side2 A3.out).mono ?_);(case side1 => exact pZ (Kd.cV eP.out HB.out));(case side2 => exact eS.out);rintro e w8 ⟨rfl,hb⟩;refine ⟨_,rfl,?_⟩;replace fN:=aA.mk (aM (cH fN) hb);replace HB:=aA.mk (aQ (cE HB zK) hb);(try clear hb);(try clear hb2);(try clear hk);(try clear hi)))
  (try simp only [Act.put,cO,cL,cP])
  go_cut [18] (fun v18 wc => ∃ (kq : Nat) (aCX : Bool),v18 = .bool aCX∧aA (bR.j0 kq a1 aCX aN aJ aT = some (r1,r2))∧aA (kq≤k)∧aA (wc.heap[QP]? = some (.cells #[.int .i64 aN,.int .i64 aJ,(.slice bL aT.length bK)] 24 (0,0)))∧aA (Below w.heap.size w wc))
  case first =>
   have H:=HC5.out;clear HC5
   by_cases c9 : a1 < 0
   ·rw [if_pos c9] at H
    have KS : decide (a1 < 0) = true:=decide_eq_true c9;clear c9
    (first | rw [KS] | (simp only [bE,bJ];rw [KS]) | rw [aOv] | skip);have H':=aA.mk H;clear H
    go_wp2
    go_meet
    case rel => exact ⟨_,(true),nL,H',⟨q_o⟩,⟨gM fN.out⟩,⟨cE HB zK⟩⟩
   ·rw [if_neg c9] at H
    have KS : decide (a1 < 0) = false:=decide_eq_false c9;clear c9
    (first | rw [KS] | (simp only [bE,bJ];rw [KS]) | rw [aOv] | skip);have H':=aA.mk H;clear H;have jL:=bO fN 0 (.int .i64 aN) rfl;have jK:=bO fN 1 (.int .i64 aJ) rfl;have jJ:=bO fN 2 (.slice bL aT.length bK) rfl;have jI:=aC fN.out 0;have jH:=aC fN.out 1;have jG:=aC fN.out 2
    go_wp2
    go_meet
    case rel => exact ⟨_,(decide (a1 ≥ aN)),nL,H',⟨q_o⟩,⟨gM fN.out⟩,⟨cE HB zK⟩⟩
  case rest =>
   clear HC5;(try clear c1);(try clear p2);(try clear c4);(try clear c5);(try clear c9);(try clear KS);(try clear aOv);(try clear jL);(try clear jK);(try clear jJ);(try clear iS);(try clear iR);(try clear iQ);(try clear jI);(try clear jH);(try clear jG);(try clear iP);(try clear iO);(try clear iN);obtain ⟨kq,aCX,rfl,HA,HJ4,fN,HB⟩:=hcut
   cases kq with
   | zero => exact absurd HA.out (by simp [bR.j0])
   | succ kj4 =>
    have H:=HA.out;clear HA;simp only [bR.j0] at H
    by_cases BB : aCX = true
    ·subst BB
     have H1 : (some (([] : List Int),2)) = some (r1,r2):=by rw [if_pos rfl] at H;exact H
     clear H;have H:=H1;clear H1;simp only [Option.some.injEq,Prod.mk.injEq] at H;obtain ⟨rfl,rfl⟩:=H
     go_wp2
     go_ret2
     exact ⟨_,uB,MR,cE HB zK⟩
    ·replace BB:=Bool.eq_false_iff.mpr BB
     subst BB;have H1 : (bR.l0 kj4 a1 ([] : List Int) 0 aN aJ aT) = some (r1,r2):=by rw [if_neg (show ¬ (false = true) by decide)] at H;exact H
     clear H;have H:=H1;clear H1;have H':=aA.mk H;clear H
     go_wp2
     go_loopg [6,7] kj4 (fun kq v6 v7 w' => ∃ (ZO : List Int) (cX : Int),v7 = .int .i64 cX∧aA (bR.l0 kq a1 ZO cX aN aJ aT = some (r1,r2))∧aA (kq≤kj4)∧aA (Kd.R (Kd.int .u8) 5 w' w.heap.size (fun _ => True) v6 ZO)∧aA (w'.heap[QP]? = some (.cells #[.int .i64 aN,.int .i64 aJ,(.slice bL aT.length bK)] 24 (0,0)))∧aA (Below w.heap.size w w'))
     case atStart => exact ⟨(([] : List Int)),(0),nL,H',⟨Nat.le_refl _⟩,⟨MR⟩,⟨gM fN.out⟩,⟨cE HB zK⟩⟩
     case round =>
      clear H';(try clear c1);(try clear p2);(try clear c4);(try clear c5);(try clear c9);(try clear KS);(try clear aOv);(try clear BB);(try clear jL);(try clear jK);(try clear jJ);(try clear iS);(try clear iR);(try clear iQ);(try clear jI);(try clear jH);(try clear jG);(try clear iP);(try clear iO);(try clear iN);(try clear p2);obtain ⟨ZO,cX,rfl,HA,vJ,rS,fN,HB⟩:=hrel
      cases gk with
      | zero => exact absurd HA.out (by simp [bR.l0])
      | succ k2 =>
       have H:=HA.out;clear HA;simp only [bR.l0] at H
       by_cases AO : cX < aJ
       ·rw [if_pos AO] at H
        have MB : decide (cX < aJ) = true:=decide_eq_true AO;clear AO;replace H:=Option.bind_eq_some_iff.mp H;obtain ⟨t184,aSQ,H⟩:=H;replace H : (if ZO.length < 140737488355328 then (bR.l0 k2 a1 (ZO ++ [t184]) (wrap64 (cX + 1)) aN aJ aT) else (none)) = some (r1,r2):=H;have A13:=aA.mk aSQ;clear aSQ
        by_cases FR : ZO.length < 140737488355328
        ·rw [if_pos FR] at H
         have LMc14:=aA.mk FR;clear FR;obtain ⟨y185,hy185⟩ : ∃ y_ : List Int,y_ = (ZO ++ [t184]):=⟨_,rfl⟩
         replace H : (bR.l0 k2 a1 y185 (wrap64 (cX + 1)) aN aJ aT) = some (r1,r2):=by first | (rw [hy185];with_reducible exact H) | (have H2_:=(Option.bind_some _ _).symm.trans H;rw [hy185];with_reducible exact H2_) | (have H2_:=(Option.bind_some _ _).symm.trans H;with_reducible exact H2_) | with_reducible exact H | (rw [hy185];exact H) | exact H
         have Ny185:=aA.mk hy185;clear hy185;have H':=aA.mk H;clear H;have IY:=bO fN 0 (.int .i64 aN) rfl;have IX:=bO fN 1 (.int .i64 aJ) rfl;have IW:=bO fN 2 (.slice bL aT.length bK) rfl;have IK:=aC fN.out 0;have IJ:=aC fN.out 1;have II:=aC fN.out 2;go_wp2_with (first | ((with_reducible refine bB (f:=25) rfl ?_);refine cS (some 29) rfl rfl Try.func25 (by kernel_rfl) rfl #[.agg #[.int .i64 aN,.int .i64 aJ,.slice bL aT.length bK],.int .i64 a1,.int .i64 cX] rfl mS ?_;(with_reducible refine (bV.calls aN aJ _ _ aT a1 cX t184 _ ?side1 ?side2 A13.out).mono ?_);(case side1 => exact pZ (Kd.cV eP.out HB.out));(case side2 => exact eS.out);rintro e w16 ⟨rfl,hb⟩;refine ⟨_,rfl,?_⟩;replace rS:=aA.mk (Kd.cW (eQ rS.out) hb);replace fN:=aA.mk (aM (cH fN) hb);replace HB:=aA.mk (aQ (cE HB zK) hb);(try clear hb);(try clear hb2);(try clear hk);(try clear hi)) | ((with_reducible refine rH (b:=.append) (xs:=#[.tmp 25,.tmp 30]) rfl ?_);at_builtin;refine Kd.aBk (Kd.int .u8) (w0:=w) w.heap.size rfl (.tmp 25) (.tmp 30) 22 5 (.int .u8 0) 1 rfl Try.underlying22 yS rfl (by decide) (by omega) u6 ZO t184 [.int .u8 t184] (fun _ => True) (fun _ => False) rfl rfl ?aP (fun _ hk => hk.elim) ?aF ?aO ?aB ?aS ?aL ?_;(case aP => exact rfl);(case aB => exact (cE HB zK));(case aF => exact (fun _ _ => trivial));(case aO => exact (eQ rS.out));(case aS => exact (bU (cE HB zK)));(case aL => have:=LMc14.out;omega);intro bAs w17 ho hb hg hat;rw [← Ny185.out] at ho;have tN:=aA.mk (dJ (cH fN) hg (Kd.jE rS.out fN.out (by decide)));have tM:=aA.mk (hb);have LN:=aA.mk (ho);clear fN HB rS;have fN:=tN;have HB:=tM;have aRS:=LN;clear tN tM LN;clear ho hb hg hat))
         go_roundg k2
         case measure => have:=HJ4.out;have:=vJ.out;omega
         case rel => exact ⟨(y185),(wrap64 (cX + 1)),nL,H',⟨by have:=HJ4.out;have:=vJ.out;omega⟩,⟨eQ aRS.out⟩,⟨gM fN.out⟩,⟨cE HB zK⟩⟩
        ·rw [if_neg FR] at H
         exact absurd H (by simp)
       ·rw [if_neg AO] at H
        have MB : decide (cX < aJ) = false:=decide_eq_false AO;clear AO;simp only [Option.some.injEq,Prod.mk.injEq] at H;obtain ⟨rfl,rfl⟩:=H;have tI:=bO fN 0 (.int .i64 aN) rfl;have tH:=bO fN 1 (.int .i64 aJ) rfl;have tG:=bO fN 2 (.slice bL aT.length bK) rfl;have tC:=aC fN.out 0;have tB:=aC fN.out 1;have tA:=aC fN.out 2
        go_wp2
        go_ret2
        exact ⟨_,uB,eQ rS.out,cE HB zK⟩
 ·replace c4:=Bool.eq_false_iff.mpr c4
  subst c4;have H1 : (some (([] : List Int),3)) = some (r1,r2):=by rw [if_neg (show ¬ (false = true) by decide)] at H;exact H
  clear H;have H:=H1;clear H1;simp only [Option.some.injEq,Prod.mk.injEq] at H;obtain ⟨rfl,rfl⟩:=H;go_enter Try.func54,Try.ntmps54;go_wp2_with (first | ((with_reducible refine bH (N:=2) rfl ?_);refine lK (N:=2) (cs:=#[.int .i64 aN,.int .i64 aJ,.slice bL aT.length bK]) (t:=24) ?_;intro QP hg w19 hbox hb;have fN:=aA.mk (hbox);have aSf:=aA.mk (eW hg (cG HB) : w.heap.size≤QP);have zK:=aA.mk (eW hg (cG HB) : w.heap.size≤QP);replace HB:=aA.mk (aQ (cG HB) hb);clear hb hbox hg;have xM:=bO fN 0 (.int .i64 aN) rfl;have xL:=bO fN 1 (.int .i64 aJ) rfl;have xK:=bO fN 2 (.slice bL aT.length bK) rfl;have xF:=aC fN.out 0;have xE:=aC fN.out 1;have xD:=aC fN.out 2) | ((with_reducible refine bB (f:=17) rfl ?_);refine cS (some 9) rfl rfl Try.func17 (by kernel_rfl) rfl #[.agg #[.int .i64 aN,.int .i64 aJ,.slice bL aT.length bK]] rfl mS ?_;(with_reducible refine (bN.calls aN aJ _ _ aT false _ ?side1 ?side2 A3.out).mono ?_);(case side1 => exact pZ (Kd.cV eP.out HB.out));(case side2 => exact eS.out);rintro e w21 ⟨rfl,hb⟩;refine ⟨_,rfl,?_⟩;replace fN:=aA.mk (aM (cH fN) hb);replace HB:=aA.mk (aQ (cE HB zK) hb);(try clear hb);(try clear hb2);(try clear hk);(try clear hi)))
  go_ret2
  exact ⟨_,uB,MR,cE HB zK⟩
end Go.Proofs.Yteofcbkjhdadpaa.Pr
