import Derived.Test.YteofcbkjhdadpaaCBuildMadex0
import Derived.Test.YteofcbkjhdadpaaCBuildMadex2
set_option maxHeartbeats 8000000
set_option maxRecDepth 100000
set_option linter.unusedSimpArgs false
set_option linter.unusedVariables false
namespace Go.Proofs.Yteofcbkjhdadpaa.Pr
open Go.RowKit Go.Proofs.aI.bC Go.Proofs.aI.eW Go.Proofs.aI.jH
attribute [local go_sem] nM nK rG qZ kG kF nL nJ   -- for this text's walks alone
mutual
def cE.j0 : Nat → Int → Bool → Int → Int → List Int → Option (List Int × Int)
 | 0, _, _, _, _, _ => none
 | k + 1, x1, x18, RG, KX, RF => if x18 = true then (some (([] : List Int), 2)) else (cE.l0 k x1 ([] : List Int) 0 RG KX RF)
def cE.l0 : Nat → Int → List Int → Int → Int → Int → List Int → Option (List Int × Int)
 | 0, _, _, _, _, _, _ => none
 | k + 1, x1, x6, x7, RG, KX, RF => if x7 < KX then ((cJ.f RG KX RF x1 x7).bind fun t184 => (if x6.length < 140737488355328 then (cE.l0 k x1 (x6 ++ [t184]) (wrap64 (x7 + 1)) RG KX RF) else (none))) else (some (x6, 0))
end
def cE.f (k : Nat) (aV : Int) (aT : Int) (bB : List Int) (a1 : Int) : Option (List Int × Int) := (bI.f aV aT bB).bind fun t183 => (if t183 = true then (if a1 < 0 then (cE.j0 k a1 true aV aT bB) else (cE.j0 k a1 (decide (a1 ≥ aV)) aV aT bB)) else (some (([] : List Int), 3)))
theorem cE.calls (k : Nat) (aV : Int) (aT : Int) (cL : Option Addr) (cK : Nat) (bB : List Int) (a1 : Int) (r1 : List Int) (r2 : Int) (w : World) (hr0_2 : Kd.C (Kd.int .u8) w cL bB.length bB) (hc0_2 : bB.length ≤ cK) (h : cE.f k aV aT bB a1 = some (r1, r2)) :
  Calls Try.prog 54 #[.agg #[.int .i64 aV, .int .i64 aT, .slice cL bB.length cK], .int .i64 a1] w fun e w' => ∃ v0_ : Value, e = .returned (.tuple #[v0_, .int .i64 r2]) ∧ Kd.R (Kd.int .u8) 5 w' w.heap.size (fun _ => True) v0_ r1 ∧ Below w.heap.size w w' := by
 have wA := Try.underlying24;have iC := aA.mk hr0_2;have iF := aA.mk hc0_2;clear hr0_2 hc0_2;have HB := aA.mk (Below.refl w.heap.size w);have H : ((bI.f aV aT bB).bind fun t183 => (if t183 = true then (if a1 < 0 then (cE.j0 k a1 true aV aT bB) else (cE.j0 k a1 (decide (a1 ≥ aV)) aV aT bB)) else (some (([] : List Int), 3)))) = some (r1, r2) := h;clear h;replace H := Option.bind_eq_some_iff.mp H;obtain ⟨t183, QK, H⟩ := H;replace H : (if t183 = true then (if a1 < 0 then (cE.j0 k a1 true aV aT bB) else (cE.j0 k a1 (decide (a1 ≥ aV)) aV aT bB)) else (some (([] : List Int), 3))) = some (r1, r2) := H;have A3 := aA.mk QK;clear QK
 by_cases c4 : t183 = true
 ·subst c4
  have H1 : (if a1 < 0 then (cE.j0 k a1 true aV aT bB) else (cE.j0 k a1 (decide (a1 ≥ aV)) aV aT bB)) = some (r1, r2) := by rw [if_pos rfl] at H; exact H
  clear H;have H := H1;clear H1;have HC5 := aA.mk H;clear H;go_enter Try.func54, Try.ntmps54;go_upto_region 3 with (first | ((with_reducible refine bR (N := 2) rfl ?_); refine bL ?hg (N := 2) ?hd (cs := #[.int .i64 aV, .int .i64 aT, .slice cL bB.length cK]) (t := 24) ?hr ?_; (case hd => rfl); (case hg => rfl); (case hr => first | (go_simp; done) | (go_simp; rfl)); intro sC hg w6 hbox hb; have fT := aA.mk (hbox); have aSV := aA.mk ((by rw [hg]; exact (aJ (cV HB)) : w.heap.size ≤ sC)); have BQ := aA.mk ((by rw [hg]; exact (aJ (cV HB)) : w.heap.size ≤ sC)); replace HB := aA.mk (aN (cV HB) hb); clear hb hbox hg; have nS : w6.cell? ⟨sC, 0, none⟩ = some (.int .i64 aV) := (aD fT.out 0).trans rfl; have nR : w6.cell? ⟨sC, 1, none⟩ = some (.int .i64 aT) := (aD fT.out 1).trans rfl; have nQ : w6.cell? ⟨sC, 2, none⟩ = some (.slice cL bB.length cK) := (aD fT.out 2).trans rfl; have nP := aC fT.out 0; have nO := aC fT.out 1; have nN := aC fT.out 2) | ((with_reducible refine bD (f := 17) rfl ?_); refine cQ (some 9) rfl rfl Try.func17 (by kernel_rfl) rfl #[.agg #[.int .i64 aV, .int .i64 aT, .slice cL bB.length cK]] rfl kR ?_; (with_reducible refine (bI.calls aV aT _ _ bB true _ ?side1 ?side2 A3.out).mono ?_); (case side1 => repeat (first | exact (Kd.dW iC.out HB.out) | (with_reducible refine Kd.cY ?_ _) | (with_reducible refine Kd.cX ?_ _) | (with_reducible refine Kd.dM ?_))); (case side2 => exact iF.out); rintro e w8 ⟨rfl, hb⟩; refine ⟨_, rfl, ?_⟩; replace fT := aA.mk (aK (cN fT) hb); replace HB := aA.mk (aN (cI HB BQ) hb); (try clear hb); (try clear hb2); (try clear hk); (try clear hi)))
  (try simp only [Act.put, cW, cT, cZ])
  go_cut [18] (fun v18 wc => ∃ (kq : Nat) (aEm : Bool), v18 = .bool aEm ∧ aA (cE.j0 kq a1 aEm aV aT bB = some (r1, r2)) ∧ aA (kq ≤ k) ∧ aA (wc.heap[sC]? = some (.cells #[.int .i64 aV, .int .i64 aT, (.slice cL bB.length cK)] 24 (0, 0))) ∧ aA (Below w.heap.size w wc))
  case first =>
   have H := HC5.out;clear HC5
   by_cases c9 : a1 < 0
   ·rw [if_pos c9] at H
    have DJ : decide (a1 < 0) = true := decide_eq_true c9;clear c9
    (first | rw [DJ] | (simp only [bJ, bM]; rw [DJ]) | rw [aPI] | skip);have H' := aA.mk H;clear H
    go_wp2
    go_meet
    case rel => exact ⟨_, (true), kT, H', ⟨q_o⟩, ⟨gW fT.out⟩, ⟨cI HB BQ⟩⟩
   ·rw [if_neg c9] at H
    have DJ : decide (a1 < 0) = false := decide_eq_false c9;clear c9
    (first | rw [DJ] | (simp only [bJ, bM]; rw [DJ]) | rw [aPI] | skip);have H' := aA.mk H;clear H;have lQ : w8.cell? ⟨sC, 0, none⟩ = some (.int .i64 aV) := (aD fT.out 0).trans rfl;have lP : w8.cell? ⟨sC, 1, none⟩ = some (.int .i64 aT) := (aD fT.out 1).trans rfl;have lO : w8.cell? ⟨sC, 2, none⟩ = some (.slice cL bB.length cK) := (aD fT.out 2).trans rfl;have lN := aC fT.out 0;have lL := aC fT.out 1;have lK := aC fT.out 2
    go_wp2
    go_meet
    case rel => exact ⟨_, (decide (a1 ≥ aV)), kT, H', ⟨q_o⟩, ⟨gW fT.out⟩, ⟨cI HB BQ⟩⟩
  case rest =>
   clear HC5;(try clear c1);(try clear p2);(try clear c4);(try clear c5);(try clear c9);(try clear DJ);(try clear aPI);(try clear lQ);(try clear lP);(try clear lO);(try clear nS);(try clear nR);(try clear nQ);(try clear lN);(try clear lL);(try clear lK);(try clear nP);(try clear nO);(try clear nN);obtain ⟨kq, aEm, rfl, HA, HJ4, fT, HB⟩ := hcut
   cases kq with
   | zero => exact absurd HA.out (by simp [cE.j0])
   | succ kj4 =>
    have H := HA.out;clear HA;simp only [cE.j0] at H
    by_cases FI : aEm = true
    ·subst FI
     have H1 : (some (([] : List Int), 2)) = some (r1, r2) := by rw [if_pos rfl] at H; exact H
     clear H;have H := H1;clear H1;simp only [Option.some.injEq, Prod.mk.injEq] at H;obtain ⟨rfl, rfl⟩ := H
     go_wp2
     go_ret2
     exact ⟨_, tZ, IW, cI HB BQ⟩
    ·replace FI := Bool.eq_false_iff.mpr FI
     subst FI;have H1 : (cE.l0 kj4 a1 ([] : List Int) 0 aV aT bB) = some (r1, r2) := by rw [if_neg (show ¬ (false = true) by decide)] at H; exact H
     clear H;have H := H1;clear H1;have H' := aA.mk H;clear H
     go_wp2
     go_loopg [6, 7] kj4 (fun kq v6 v7 w' => ∃ (BW : List Int) (dK : Int), v7 = .int .i64 dK ∧ aA (cE.l0 kq a1 BW dK aV aT bB = some (r1, r2)) ∧ aA (kq ≤ kj4) ∧ aA (Kd.R (Kd.int .u8) 5 w' w.heap.size (fun _ => True) v6 BW) ∧ aA (w'.heap[sC]? = some (.cells #[.int .i64 aV, .int .i64 aT, (.slice cL bB.length cK)] 24 (0, 0))) ∧ aA (Below w.heap.size w w'))
     case atStart => exact ⟨(([] : List Int)), (0), kT, H', ⟨Nat.le_refl _⟩, ⟨IW⟩, ⟨gW fT.out⟩, ⟨cI HB BQ⟩⟩
     case round =>
      clear H';(try clear c1);(try clear p2);(try clear c4);(try clear c5);(try clear c9);(try clear DJ);(try clear aPI);(try clear FI);(try clear lQ);(try clear lP);(try clear lO);(try clear nS);(try clear nR);(try clear nQ);(try clear lN);(try clear lL);(try clear lK);(try clear nP);(try clear nO);(try clear nN);(try clear p2);obtain ⟨BW, dK, rfl, HA, uN, kH, fT, HB⟩ := hrel
      cases gk with
      | zero => exact absurd HA.out (by simp [cE.l0])
      | succ k2 =>
       have H := HA.out;clear HA;simp only [cE.l0] at H
       by_cases uJ : dK < aT
       ·rw [if_pos uJ] at H
        have FH : decide (dK < aT) = true := decide_eq_true uJ;clear uJ;replace H := Option.bind_eq_some_iff.mp H;obtain ⟨t184, aCN, H⟩ := H;replace H : (if BW.length < 140737488355328 then (cE.l0 k2 a1 (BW ++ [t184]) (wrap64 (dK + 1)) aV aT bB) else (none)) = some (r1, r2) := H;have A13 := aA.mk aCN;clear aCN
        by_cases KR : BW.length < 140737488355328
        ·rw [if_pos KR] at H
         have LMc14 := aA.mk KR;clear KR;obtain ⟨y185, hy185⟩ : ∃ y_ : List Int, y_ = (BW ++ [t184]) := ⟨_, rfl⟩
         replace H : (cE.l0 k2 a1 y185 (wrap64 (dK + 1)) aV aT bB) = some (r1, r2) := by first | (rw [hy185]; with_reducible exact H) | (have H2_ := (Option.bind_some _ _).symm.trans H; rw [hy185]; with_reducible exact H2_) | (have H2_ := (Option.bind_some _ _).symm.trans H; with_reducible exact H2_) | with_reducible exact H | (rw [hy185]; exact H) | exact H
         have Ny185 := aA.mk hy185;clear hy185;have H' := aA.mk H;clear H;have TP : wr.cell? ⟨sC, 0, none⟩ = some (.int .i64 aV) := (aD fT.out 0).trans rfl;have TO : wr.cell? ⟨sC, 1, none⟩ = some (.int .i64 aT) := (aD fT.out 1).trans rfl;have TN : wr.cell? ⟨sC, 2, none⟩ = some (.slice cL bB.length cK) := (aD fT.out 2).trans rfl;have SQ := aC fT.out 0;have SP := aC fT.out 1;have SO := aC fT.out 2;go_wp2_with (first | ((with_reducible refine bD (f := 25) rfl ?_); refine cQ (some 29) rfl rfl Try.func25 (by kernel_rfl) rfl #[.agg #[.int .i64 aV, .int .i64 aT, .slice cL bB.length cK], .int .i64 a1, .int .i64 dK] rfl kR ?_; (with_reducible refine (cJ.calls aV aT _ _ bB a1 dK t184 _ ?side1 ?side2 A13.out).mono ?_); (case side1 => repeat (first | exact (Kd.dW iC.out HB.out) | (with_reducible refine Kd.cY ?_ _) | (with_reducible refine Kd.cX ?_ _) | (with_reducible refine Kd.dM ?_))); (case side2 => exact iF.out); rintro e w16 ⟨rfl, hb⟩; refine ⟨_, rfl, ?_⟩; replace kH := aA.mk (Kd.bW (dZ kH.out) hb); replace fT := aA.mk (aK (cN fT) hb); replace HB := aA.mk (aN (cI HB BQ) hb); (try clear hb); (try clear hb2); (try clear hk); (try clear hi)) | ((with_reducible refine oW (b := .append) (xs := #[.tmp 25, .tmp 30]) rfl ?_); at_builtin; refine Kd.FR (Kd.int .u8) (w0 := w) w.heap.size rfl (.tmp 25) (.tmp 30) 22 5 (.int .u8 0) 1 rfl Try.underlying22 xI rfl (by decide) (by omega) u6 BW t184 [.int .u8 t184] (fun _ => True) (fun _ => False) rfl rfl ?aP (fun _ hk => hk.elim) ?aF ?aO ?aB ?aS ?aL ?_; (case aP => exact rfl); (case aB => exact (cI HB BQ)); (case aF => exact (fun _ _ => trivial)); (case aO => exact (dZ kH.out)); (case aS => exact (aJ (cI HB BQ))); (case aL => have := LMc14.out; omega); intro bAo w17 ho hb hg hat; rw [← Ny185.out] at ho; have nH := aA.mk (eM (cN fT) hg (Kd.lV kH.out fT.out (by decide))); have nG := aA.mk (hb); have JK := aA.mk (ho); clear fT HB kH; have fT := nH; have HB := nG; have aSN := JK; clear nH nG JK; clear ho hb hg hat))
         go_roundg k2
         case measure => have := HJ4.out; have := uN.out; omega
         case rel => exact ⟨(y185), (wrap64 (dK + 1)), kT, H', ⟨by have := HJ4.out; have := uN.out; omega⟩, ⟨dZ aSN.out⟩, ⟨gW fT.out⟩, ⟨cI HB BQ⟩⟩
        ·rw [if_neg KR] at H
         exact absurd H (by simp)
       ·rw [if_neg uJ] at H
        have FH : decide (dK < aT) = false := decide_eq_false uJ;clear uJ;simp only [Option.some.injEq, Prod.mk.injEq] at H;obtain ⟨rfl, rfl⟩ := H;have rN : wr.cell? ⟨sC, 0, none⟩ = some (.int .i64 aV) := (aD fT.out 0).trans rfl;have rL : wr.cell? ⟨sC, 1, none⟩ = some (.int .i64 aT) := (aD fT.out 1).trans rfl;have rK : wr.cell? ⟨sC, 2, none⟩ = some (.slice cL bB.length cK) := (aD fT.out 2).trans rfl;have rJ := aC fT.out 0;have rI := aC fT.out 1;have rH := aC fT.out 2
        go_wp2
        go_ret2
        exact ⟨_, tZ, dZ kH.out, cI HB BQ⟩
 ·replace c4 := Bool.eq_false_iff.mpr c4
  subst c4;have H1 : (some (([] : List Int), 3)) = some (r1, r2) := by rw [if_neg (show ¬ (false = true) by decide)] at H; exact H
  clear H;have H := H1;clear H1;simp only [Option.some.injEq, Prod.mk.injEq] at H;obtain ⟨rfl, rfl⟩ := H;go_enter Try.func54, Try.ntmps54;go_wp2_with (first | ((with_reducible refine bR (N := 2) rfl ?_); refine bL ?hg (N := 2) ?hd (cs := #[.int .i64 aV, .int .i64 aT, .slice cL bB.length cK]) (t := 24) ?hr ?_; (case hd => rfl); (case hg => rfl); (case hr => first | (go_simp; done) | (go_simp; rfl)); intro sC hg w19 hbox hb; have fT := aA.mk (hbox); have aSV := aA.mk ((by rw [hg]; exact (aJ (cV HB)) : w.heap.size ≤ sC)); have BQ := aA.mk ((by rw [hg]; exact (aJ (cV HB)) : w.heap.size ≤ sC)); replace HB := aA.mk (aN (cV HB) hb); clear hb hbox hg; have DF : w19.cell? ⟨sC, 0, none⟩ = some (.int .i64 aV) := (aD fT.out 0).trans rfl; have DE : w19.cell? ⟨sC, 1, none⟩ = some (.int .i64 aT) := (aD fT.out 1).trans rfl; have DD : w19.cell? ⟨sC, 2, none⟩ = some (.slice cL bB.length cK) := (aD fT.out 2).trans rfl; have CW := aC fT.out 0; have CV := aC fT.out 1; have CU := aC fT.out 2) | ((with_reducible refine bD (f := 17) rfl ?_); refine cQ (some 9) rfl rfl Try.func17 (by kernel_rfl) rfl #[.agg #[.int .i64 aV, .int .i64 aT, .slice cL bB.length cK]] rfl kR ?_; (with_reducible refine (bI.calls aV aT _ _ bB false _ ?side1 ?side2 A3.out).mono ?_); (case side1 => repeat (first | exact (Kd.dW iC.out HB.out) | (with_reducible refine Kd.cY ?_ _) | (with_reducible refine Kd.cX ?_ _) | (with_reducible refine Kd.dM ?_))); (case side2 => exact iF.out); rintro e w21 ⟨rfl, hb⟩; refine ⟨_, rfl, ?_⟩; replace fT := aA.mk (aK (cN fT) hb); replace HB := aA.mk (aN (cI HB BQ) hb); (try clear hb); (try clear hb2); (try clear hk); (try clear hi)))
  go_ret2
  exact ⟨_, tZ, IW, cI HB BQ⟩
end Go.Proofs.Yteofcbkjhdadpaa.Pr
