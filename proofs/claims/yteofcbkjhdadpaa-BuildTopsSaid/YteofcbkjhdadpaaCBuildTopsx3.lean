import Derived.Test.YteofcbkjhdadpaaCBuildTopsx0
import Derived.Test.YteofcbkjhdadpaaCBuildTopsx2
import Derived.Test.YteofcbkjhdadpaaCBuildTopsq
set_option maxHeartbeats 8000000
set_option maxRecDepth 100000
set_option linter.unusedSimpArgs false
set_option linter.unusedVariables false
namespace Go.Proofs.Yteofcbkjhdadpaa.Pr
open Go.RowKit Go.Proofs.aI.bE Go.Proofs.aI.fB Go.Proofs.aI.iS
attribute [local go_sem] kQ kO nK nJ jD jC kP kN   -- for this text's walks alone
mutual
def cH.j0 : Nat→Int→Bool→Int→Int→List Int→Option (List Int×Int)
 | 0,_,_,_,_,_ => none
 | k + 1,x1,x18,UR,NZ,UQ => if x18 = true then (some (([] : List Int),2)) else (cH.l0 k x1 ([] : List Int) 0 UR NZ UQ)
def cH.l0 : Nat→Int→List Int→Int→Int→Int→List Int→Option (List Int×Int)
 | 0,_,_,_,_,_,_ => none
 | k + 1,x1,x6,x7,UR,NZ,UQ => if x7 < NZ then ((cQ.f UR NZ UQ x1 x7).bind fun t184 => (if x6.length < 140737488355328 then (cH.l0 k x1 (x6 ++ [t184]) (wrap64 (x7 + 1)) UR NZ UQ) else (none))) else (some (x6,0))
end
def cH.f (k : Nat) (aQ : Int) (aK : Int) (aV : List Int) (a1 : Int) : Option (List Int×Int):=(bF.f aQ aK aV).bind fun t183 => (if t183 = true then (if a1 < 0 then (cH.j0 k a1 true aQ aK aV) else (cH.j0 k a1 (decide (a1 ≥ aQ)) aQ aK aV)) else (some (([] : List Int),3)))
theorem cH.calls (k : Nat) (aQ : Int) (aK : Int) (cG : Option Addr) (cF : Nat) (aV : List Int) (a1 : Int) (r1 : List Int) (r2 : Int) (w : World) (hr0_2 : Kd.C (Kd.int .u8) w cG aV.length aV) (hc0_2 : aV.length≤cF) (h : cH.f k aQ aK aV a1 = some (r1,r2)) :
  Calls Try.prog 54 #[.agg #[.int .i64 aQ,.int .i64 aK,.slice cG aV.length cF],.int .i64 a1] w fun e w' => ∃ v0_ : Value,e = .returned (.tuple #[v0_,.int .i64 r2])∧Kd.R (Kd.int .u8) 5 w' w.heap.size (fun _ => True) v0_ r1∧Below w.heap.size w w':=by
 have CQ:=Try.underlying24;have iH:=aA.mk hr0_2;have iN:=aA.mk hc0_2;clear hr0_2 hc0_2;have HB:=aA.mk (Below.refl w.heap.size w);have H : ((bF.f aQ aK aV).bind fun t183 => (if t183 = true then (if a1 < 0 then (cH.j0 k a1 true aQ aK aV) else (cH.j0 k a1 (decide (a1 ≥ aQ)) aQ aK aV)) else (some (([] : List Int),3)))) = some (r1,r2):=h;clear h;replace H:=Option.bind_eq_some_iff.mp H;obtain ⟨t183,A30,H⟩:=H;replace H : (if t183 = true then (if a1 < 0 then (cH.j0 k a1 true aQ aK aV) else (cH.j0 k a1 (decide (a1 ≥ aQ)) aQ aK aV)) else (some (([] : List Int),3))) = some (r1,r2):=H;have A3:=aA.mk A30;clear A30
 by_cases c4 : t183 = true
 ·subst c4
  have H1 : (if a1 < 0 then (cH.j0 k a1 true aQ aK aV) else (cH.j0 k a1 (decide (a1 ≥ aQ)) aQ aK aV)) = some (r1,r2):=by rw [if_pos rfl] at H;exact H
  clear H;have H:=H1;clear H1;have HC5:=aA.mk H;clear H;go_enter Try.func54,Try.ntmps54;go_upto_region 3 with (first | ((with_reducible refine bU (N:=2) rfl ?_);refine pG (N:=2) (cs:=#[.int .i64 aQ,.int .i64 aK,.slice cG aV.length cF]) (t:=24) ?_;intro XV hg w6 hbox hb;have iJ:=aA.mk (hbox);have aYO:=aA.mk (gE hg (dN HB) : w.heap.size≤XV);have EF:=aA.mk (gE hg (dN HB) : w.heap.size≤XV);replace HB:=aA.mk (aM (dN HB) hb);clear hb hbox hg;have qZ:=bR iJ 0 (.int .i64 aQ) rfl;have qY:=bR iJ 1 (.int .i64 aK) rfl;have qX:=bR iJ 2 (.slice cG aV.length cF) rfl;have qW:=aD iJ.out 0;have qV:=aD iJ.out 1;have qU:=aD iJ.out 2) | ((with_reducible refine bN (f:=17) rfl ?_);refine eB (some 9) rfl rfl Try.func17 (by kernel_rfl) rfl #[.agg #[.int .i64 aQ,.int .i64 aK,.slice cG aV.length cF]] rfl pX ?_;(with_reducible refine (bF.calls aQ aK _ _ aV true _ ?side1 ?side2 A3.out).mono ?_);(case side1 => exact sW (Kd.eN iH.out HB.out));(case side2 => exact iN.out);rintro e w8 ⟨rfl,hb⟩;refine ⟨_,rfl,?_⟩;replace iJ:=aA.mk (aH (bT iJ) hb);replace HB:=aA.mk (aM (dR HB EF) hb);(try clear hb);(try clear hb2);(try clear hk);(try clear hi)))
  (try simp only [Act.put,cV,cT,cW])
  go_cut [18] (fun v18 wc => ∃ (kq : Nat) (aGA : Bool),v18 = .bool aGA∧aA (cH.j0 kq a1 aGA aQ aK aV = some (r1,r2))∧aA (kq≤k)∧aA (wc.heap[XV]? = some (.cells #[.int .i64 aQ,.int .i64 aK,(.slice cG aV.length cF)] 24 (0,0)))∧aA (Below w.heap.size w wc))
  case first =>
   have H:=HC5.out;clear HC5
   by_cases c9 : a1 < 0
   ·rw [if_pos c9] at H
    have DS : decide (a1 < 0) = true:=decide_eq_true c9;clear c9
    (first | rw [DS] | (simp only [bG,bH];rw [DS]) | rw [aTr] | skip);have H':=aA.mk H;clear H
    go_wp2
    go_meet
    case rel => exact ⟨_,(true),rT,H',⟨q_o⟩,⟨hJ iJ.out⟩,⟨dR HB EF⟩⟩
   ·rw [if_neg c9] at H
    have DS : decide (a1 < 0) = false:=decide_eq_false c9;clear c9
    (first | rw [DS] | (simp only [bG,bH];rw [DS]) | rw [aTr] | skip);have H':=aA.mk H;clear H;have oF:=bR iJ 0 (.int .i64 aQ) rfl;have oE:=bR iJ 1 (.int .i64 aK) rfl;have oD:=bR iJ 2 (.slice cG aV.length cF) rfl;have oC:=aD iJ.out 0;have oB:=aD iJ.out 1;have oA:=aD iJ.out 2
    go_wp2
    go_meet
    case rel => exact ⟨_,(decide (a1 ≥ aQ)),rT,H',⟨q_o⟩,⟨hJ iJ.out⟩,⟨dR HB EF⟩⟩
  case rest =>
   clear HC5;(try clear c1);(try clear p2);(try clear c4);(try clear c5);(try clear c9);(try clear DS);(try clear aTr);(try clear oF);(try clear oE);(try clear oD);(try clear qZ);(try clear qY);(try clear qX);(try clear oC);(try clear oB);(try clear oA);(try clear qW);(try clear qV);(try clear qU);obtain ⟨kq,aGA,rfl,HA,HJ4,iJ,HB⟩:=hcut
   cases kq with
   | zero => exact absurd HA.out (by simp [cH.j0])
   | succ kj4 =>
    have H:=HA.out;clear HA;simp only [cH.j0] at H
    by_cases CV : aGA = true
    ·subst CV
     have H1 : (some (([] : List Int),2)) = some (r1,r2):=by rw [if_pos rfl] at H;exact H
     clear H;have H:=H1;clear H1;simp only [Option.some.injEq,Prod.mk.injEq] at H;obtain ⟨rfl,rfl⟩:=H
     go_wp2
     go_ret2
     exact ⟨_,yE,RP,dR HB EF⟩
    ·replace CV:=Bool.eq_false_iff.mpr CV
     subst CV;have H1 : (cH.l0 kj4 a1 ([] : List Int) 0 aQ aK aV) = some (r1,r2):=by rw [if_neg (show ¬ (false = true) by decide)] at H;exact H
     clear H;have H:=H1;clear H1;have H':=aA.mk H;clear H
     go_wp2
     go_loopg [6,7] kj4 (fun kq v6 v7 w' => ∃ (CW : List Int) (dD : Int),v7 = .int .i64 dD∧aA (cH.l0 kq a1 CW dD aQ aK aV = some (r1,r2))∧aA (kq≤kj4)∧aA (Kd.R (Kd.int .u8) 5 w' w.heap.size (fun _ => True) v6 CW)∧aA (w'.heap[XV]? = some (.cells #[.int .i64 aQ,.int .i64 aK,(.slice cG aV.length cF)] 24 (0,0)))∧aA (Below w.heap.size w w'))
     case atStart => exact ⟨(([] : List Int)),(0),rT,H',⟨Nat.le_refl _⟩,⟨RP⟩,⟨hJ iJ.out⟩,⟨dR HB EF⟩⟩
     case round =>
      clear H';(try clear c1);(try clear p2);(try clear c4);(try clear c5);(try clear c9);(try clear DS);(try clear aTr);(try clear CV);(try clear oF);(try clear oE);(try clear oD);(try clear qZ);(try clear qY);(try clear qX);(try clear oC);(try clear oB);(try clear oA);(try clear qW);(try clear qV);(try clear qU);(try clear p2);obtain ⟨CW,dD,rfl,HA,yL,aKl,iJ,HB⟩:=hrel
      cases gk with
      | zero => exact absurd HA.out (by simp [cH.l0])
      | succ k2 =>
       have H:=HA.out;clear HA;simp only [cH.l0] at H
       by_cases yK : dD < aK
       ·rw [if_pos yK] at H
        have RA : decide (dD < aK) = true:=decide_eq_true yK;clear yK;replace H:=Option.bind_eq_some_iff.mp H;obtain ⟨t184,aZJ,H⟩:=H;replace H : (if CW.length < 140737488355328 then (cH.l0 k2 a1 (CW ++ [t184]) (wrap64 (dD + 1)) aQ aK aV) else (none)) = some (r1,r2):=H;have A13:=aA.mk aZJ;clear aZJ
        by_cases ND : CW.length < 140737488355328
        ·rw [if_pos ND] at H
         have LMc14:=aA.mk ND;clear ND;obtain ⟨y185,hy185⟩ : ∃ y_ : List Int,y_ = (CW ++ [t184]):=⟨_,rfl⟩
         replace H : (cH.l0 k2 a1 y185 (wrap64 (dD + 1)) aQ aK aV) = some (r1,r2):=by first | (rw [hy185];with_reducible exact H) | (have H2_:=(Option.bind_some _ _).symm.trans H;rw [hy185];with_reducible exact H2_) | (have H2_:=(Option.bind_some _ _).symm.trans H;with_reducible exact H2_) | with_reducible exact H | (rw [hy185];exact H) | exact H
         have Ny185:=aA.mk hy185;clear hy185;have H':=aA.mk H;clear H;have KA:=bR iJ 0 (.int .i64 aQ) rfl;have JZ:=bR iJ 1 (.int .i64 aK) rfl;have JY:=bR iJ 2 (.slice cG aV.length cF) rfl;have JX:=aD iJ.out 0;have JW:=aD iJ.out 1;have JV:=aD iJ.out 2;go_wp2_with (first | ((with_reducible refine bN (f:=25) rfl ?_);refine eB (some 29) rfl rfl Try.func25 (by kernel_rfl) rfl #[.agg #[.int .i64 aQ,.int .i64 aK,.slice cG aV.length cF],.int .i64 a1,.int .i64 dD] rfl pX ?_;(with_reducible refine (cQ.calls aQ aK _ _ aV a1 dD t184 _ ?side1 ?side2 A13.out).mono ?_);(case side1 => exact sW (Kd.eN iH.out HB.out));(case side2 => exact iN.out);rintro e w16 ⟨rfl,hb⟩;refine ⟨_,rfl,?_⟩;replace aKl:=aA.mk (Kd.aY (cN aKl.out) hb);replace iJ:=aA.mk (aH (bT iJ) hb);replace HB:=aA.mk (aM (dR HB EF) hb);(try clear hb);(try clear hb2);(try clear hk);(try clear hi)) | ((with_reducible refine yT (b:=.append) (xs:=#[.tmp 25,.tmp 30]) rfl ?_);at_builtin;refine Kd.aEC (Kd.int .u8) (w0:=w) w.heap.size rfl (.tmp 25) (.tmp 30) 22 5 (.int .u8 0) 1 rfl Try.underlying22 FV rfl (by decide) (by omega) u6 CW t184 [.int .u8 t184] (fun _ => True) (fun _ => False) rfl rfl ?aP (fun _ hk => hk.elim) ?aF ?aO ?aB ?aS ?aL ?_;(case aP => exact rfl);(case aB => exact (dR HB EF));(case aF => exact (fun _ _ => trivial));(case aO => exact (cN aKl.out));(case aS => exact (cD (dR HB EF)));(case aL => have:=LMc14.out;omega);intro bII w17 ho hb hg hat;rw [← Ny185.out] at ho;have mT:=aA.mk (fL (bT iJ) hg (Kd.oY aKl.out iJ.out (by decide)));have mS:=aA.mk (hb);have tD:=aA.mk (ho);clear iJ HB aKl;have iJ:=mT;have HB:=mS;have aYC:=tD;clear mT mS tD;clear ho hb hg hat))
         go_roundg k2
         case measure => have:=HJ4.out;have:=yL.out;omega
         case rel => exact ⟨(y185),(wrap64 (dD + 1)),rT,H',⟨by have:=HJ4.out;have:=yL.out;omega⟩,⟨cN aYC.out⟩,⟨hJ iJ.out⟩,⟨dR HB EF⟩⟩
        ·rw [if_neg ND] at H
         exact absurd H (by simp)
       ·rw [if_neg yK] at H
        have RA : decide (dD < aK) = false:=decide_eq_false yK;clear yK;simp only [Option.some.injEq,Prod.mk.injEq] at H;obtain ⟨rfl,rfl⟩:=H;have vG:=bR iJ 0 (.int .i64 aQ) rfl;have vF:=bR iJ 1 (.int .i64 aK) rfl;have vE:=bR iJ 2 (.slice cG aV.length cF) rfl;have vD:=aD iJ.out 0;have vC:=aD iJ.out 1;have vB:=aD iJ.out 2
        go_wp2
        go_ret2
        exact ⟨_,yE,cN aKl.out,dR HB EF⟩
 ·replace c4:=Bool.eq_false_iff.mpr c4
  subst c4;have H1 : (some (([] : List Int),3)) = some (r1,r2):=by rw [if_neg (show ¬ (false = true) by decide)] at H;exact H
  clear H;have H:=H1;clear H1;simp only [Option.some.injEq,Prod.mk.injEq] at H;obtain ⟨rfl,rfl⟩:=H;go_enter Try.func54,Try.ntmps54;go_wp2_with (first | ((with_reducible refine bU (N:=2) rfl ?_);refine pG (N:=2) (cs:=#[.int .i64 aQ,.int .i64 aK,.slice cG aV.length cF]) (t:=24) ?_;intro XV hg w19 hbox hb;have iJ:=aA.mk (hbox);have aYO:=aA.mk (gE hg (dN HB) : w.heap.size≤XV);have EF:=aA.mk (gE hg (dN HB) : w.heap.size≤XV);replace HB:=aA.mk (aM (dN HB) hb);clear hb hbox hg;have QS:=bR iJ 0 (.int .i64 aQ) rfl;have QR:=bR iJ 1 (.int .i64 aK) rfl;have QQ:=bR iJ 2 (.slice cG aV.length cF) rfl;have QA:=aD iJ.out 0;have PZ:=aD iJ.out 1;have PY:=aD iJ.out 2) | ((with_reducible refine bN (f:=17) rfl ?_);refine eB (some 9) rfl rfl Try.func17 (by kernel_rfl) rfl #[.agg #[.int .i64 aQ,.int .i64 aK,.slice cG aV.length cF]] rfl pX ?_;(with_reducible refine (bF.calls aQ aK _ _ aV false _ ?side1 ?side2 A3.out).mono ?_);(case side1 => exact sW (Kd.eN iH.out HB.out));(case side2 => exact iN.out);rintro e w21 ⟨rfl,hb⟩;refine ⟨_,rfl,?_⟩;replace iJ:=aA.mk (aH (bT iJ) hb);replace HB:=aA.mk (aM (dR HB EF) hb);(try clear hb);(try clear hb2);(try clear hk);(try clear hi)))
  go_ret2
  exact ⟨_,yE,RP,dR HB EF⟩
end Go.Proofs.Yteofcbkjhdadpaa.Pr
