import Derived.Test.YteofcbkjhdadpaaCBuildAnyx0
import Derived.Test.YteofcbkjhdadpaaCBuildAnyx2
set_option maxHeartbeats 8000000
set_option maxRecDepth 100000
set_option linter.unusedSimpArgs false
set_option linter.unusedVariables false
namespace Go.Proofs.Yteofcbkjhdadpaa.Pr
open Go.RowKit Go.Proofs.aD.aT Go.Proofs.aD.cY Go.Proofs.aD.eR
attribute [local go_sem] gP gM iU iT fF fE gN gL   -- for this text's walks alone
mutual
def b9.j0 : Nat → Int → Bool → Int → Int → List Int → Option (List Int × Int)
 | 0, _, _, _, _, _ => none
 | k + 1, x1, x18, BD, xC, BC => if x18 = true then (some (([] : List Int), 2)) else (b9.l0 k x1 ([] : List Int) 0 BD xC BC)
def b9.l0 : Nat → Int → List Int → Int → Int → Int → List Int → Option (List Int × Int)
 | 0, _, _, _, _, _, _ => none
 | k + 1, x1, x6, x7, BD, xC, BC => if x7 < xC then ((cT.f BD xC BC x1 x7).bind fun t184 => (if x6.length < 140737488355328 then (b9.l0 k x1 (x6 ++ [t184]) (wrap64 (x7 + 1)) BD xC BC) else (none))) else (some (x6, 0))
end
def b9.f (k : Nat) (bL : Int) (bI : Int) (bJ : List Int) (a1 : Int) : Option (List Int × Int) := (bU.f bL bI bJ).bind fun t183 => (if t183 = true then (if a1 < 0 then (b9.j0 k a1 true bL bI bJ) else (b9.j0 k a1 (decide (a1 ≥ bL)) bL bI bJ)) else (some (([] : List Int), 3)))
theorem b9.calls (k : Nat) (bL : Int) (bI : Int) (dK : Option Addr) (dI : Nat) (bJ : List Int) (a1 : Int) (r1 : List Int) (r2 : Int) (w : World) (hr0_2 : Kd.C (Kd.int .u8) w dK bJ.length bJ) (hc0_2 : bJ.length ≤ dI) (h : b9.f k bL bI bJ a1 = some (r1, r2)) :
  Calls Try.prog 54 #[.agg #[.int .i64 bL, .int .i64 bI, .slice dK bJ.length dI], .int .i64 a1] w fun e w' => ∃ Z5 : Value, e = .returned (.tuple #[Z5, .int .i64 r2]) ∧ Kd.R (Kd.int .u8) 5 w' w.heap.size (fun _ => True) Z5 r1 ∧ Below w.heap.size w w' := by
 have wF := Try.underlying24;have pP := a6.mk hr0_2;have qX := a6.mk hc0_2;clear hr0_2 hc0_2;have HB := a6.mk (Below.refl w.heap.size w);have H : ((bU.f bL bI bJ).bind fun t183 => (if t183 = true then (if a1 < 0 then (b9.j0 k a1 true bL bI bJ) else (b9.j0 k a1 (decide (a1 ≥ bL)) bL bI bJ)) else (some (([] : List Int), 3)))) = some (r1, r2) := h;clear h;replace H := Option.bind_eq_some_iff.mp H;obtain ⟨t183, E8, H⟩ := H;replace H : (if t183 = true then (if a1 < 0 then (b9.j0 k a1 true bL bI bJ) else (b9.j0 k a1 (decide (a1 ≥ bL)) bL bI bJ)) else (some (([] : List Int), 3))) = some (r1, r2) := H;have A3 := a6.mk E8;clear E8
 by_cases c4 : t183 = true
 ·subst c4
  have H1 : (if a1 < 0 then (b9.j0 k a1 true bL bI bJ) else (b9.j0 k a1 (decide (a1 ≥ bL)) bL bI bJ)) = some (r1, r2) := by rw [if_pos rfl] at H; exact H
  clear H;have H := H1;clear H1;have HC5 := a6.mk H;clear H;go_enter Try.func54, Try.ntmps54;go_upto_region 3 with (first | ((with_reducible refine bE (N := 2) rfl ?_); refine bA ?hg (N := 2) ?hd (cs := #[.int .i64 bL, .int .i64 bI, .slice dK bJ.length dI]) (t := 24) ?hr ?_; (case hd => rfl); (case hg => rfl); (case hr => first | (go_simp; done) | (go_simp; rfl)); intro kS hg w6 hbox hb; have dW := a6.mk (hbox); have a3L := a6.mk ((by rw [hg]; exact (aG (bV HB)) : w.heap.size ≤ kS)); have qY := a6.mk ((by rw [hg]; exact (aG (bV HB)) : w.heap.size ≤ kS)); replace HB := a6.mk (aK (bV HB) hb); clear hb hbox hg; have D8 : w6.cell? ⟨kS, 0, none⟩ = some (.int .i64 bL) := (aE dW.out 0).trans rfl; have D7 : w6.cell? ⟨kS, 1, none⟩ = some (.int .i64 bI) := (aE dW.out 1).trans rfl; have D6 : w6.cell? ⟨kS, 2, none⟩ = some (.slice dK bJ.length dI) := (aE dW.out 2).trans rfl; have D0 := aA dW.out 0; have CZ := aA dW.out 1; have CY := aA dW.out 2) | ((with_reducible refine aZ (f := 17) rfl ?_); refine cM (some 9) rfl rfl Try.func17 (by kernel_rfl) rfl #[.agg #[.int .i64 bL, .int .i64 bI, .slice dK bJ.length dI]] rfl nV ?_; (with_reducible refine (bU.calls bL bI _ _ bJ true _ ?side1 ?side2 A3.out).mono ?_); (case side1 => repeat (first | exact (Kd.jY pP.out HB.out) | (with_reducible refine Kd.eE ?_ _) | (with_reducible refine Kd.eD ?_ _) | (with_reducible refine Kd.fW ?_))); (case side2 => exact qX.out); rintro e w8 ⟨rfl, hb⟩; refine ⟨_, rfl, ?_⟩; replace dW := a6.mk (aJ (cP dW) hb); replace HB := a6.mk (aK (bZ HB qY) hb); (try clear hb); (try clear hb2); (try clear hk); (try clear hi)))
  (try simp only [Act.put, cS, cQ, cU])
  go_cut [18] (fun OJ wc => ∃ (kq : Nat) (N1 : Bool), OJ = .bool N1 ∧ a6 (b9.j0 kq a1 N1 bL bI bJ = some (r1, r2)) ∧ a6 (kq ≤ k) ∧ a6 (wc.heap[kS]? = some (.cells #[.int .i64 bL, .int .i64 bI, (.slice dK bJ.length dI)] 24 (0, 0))) ∧ a6 (Below w.heap.size w wc))
  case first =>
   have H := HC5.out;clear HC5
   by_cases c9 : a1 < 0
   ·rw [if_pos c9] at H
    have yG : decide (a1 < 0) = true := decide_eq_true c9;clear c9
    (first | rw [yG] | (simp only [bN, bS]; rw [yG]) | rw [a1m] | skip);have H' := a6.mk H;clear H
    go_wp2
    go_meet
    case rel => exact ⟨_, (true), vH, H', ⟨q_o⟩, ⟨vP dW.out⟩, ⟨bZ HB qY⟩⟩
   ·rw [if_neg c9] at H
    have yG : decide (a1 < 0) = false := decide_eq_false c9;clear c9
    (first | rw [yG] | (simp only [bN, bS]; rw [yG]) | rw [a1m] | skip);have H' := a6.mk H;clear H;have uE : w8.cell? ⟨kS, 0, none⟩ = some (.int .i64 bL) := (aE dW.out 0).trans rfl;have uD : w8.cell? ⟨kS, 1, none⟩ = some (.int .i64 bI) := (aE dW.out 1).trans rfl;have uC : w8.cell? ⟨kS, 2, none⟩ = some (.slice dK bJ.length dI) := (aE dW.out 2).trans rfl;have u7 := aA dW.out 0;have u4 := aA dW.out 1;have u0 := aA dW.out 2
    go_wp2
    go_meet
    case rel => exact ⟨_, (decide (a1 ≥ bL)), vH, H', ⟨q_o⟩, ⟨vP dW.out⟩, ⟨bZ HB qY⟩⟩
  case rest =>
   clear HC5;(try clear c1);(try clear p2);(try clear c4);(try clear c5);(try clear c9);(try clear yG);(try clear a1m);(try clear uE);(try clear uD);(try clear uC);(try clear D8);(try clear D7);(try clear D6);(try clear u7);(try clear u4);(try clear u0);(try clear D0);(try clear CZ);(try clear CY);obtain ⟨kq, N1, rfl, HA, HJ4, dW, HB⟩ := hcut
   cases kq with
   | zero => exact absurd HA.out (by simp [b9.j0])
   | succ kj4 =>
    have H := HA.out;clear HA;simp only [b9.j0] at H
    by_cases IW : N1 = true
    ·subst IW
     have H1 : (some (([] : List Int), 2)) = some (r1, r2) := by rw [if_pos rfl] at H; exact H
     clear H;have H := H1;clear H1;simp only [Option.some.injEq, Prod.mk.injEq] at H;obtain ⟨rfl, rfl⟩ := H
     go_wp2
     go_ret2
     exact ⟨_, qN, EN, bZ HB qY⟩
    ·replace IW := Bool.eq_false_iff.mpr IW
     subst IW;have H1 : (b9.l0 kj4 a1 ([] : List Int) 0 bL bI bJ) = some (r1, r2) := by rw [if_neg (show ¬ (false = true) by decide)] at H; exact H
     clear H;have H := H1;clear H1;have H' := a6.mk H;clear H
     go_wp2
     go_loopg [6, 7] kj4 (fun kq v6 v7 w' => ∃ (J2 : List Int) (eA : Int), v7 = .int .i64 eA ∧ a6 (b9.l0 kq a1 J2 eA bL bI bJ = some (r1, r2)) ∧ a6 (kq ≤ kj4) ∧ a6 (Kd.R (Kd.int .u8) 5 w' w.heap.size (fun _ => True) v6 J2) ∧ a6 (w'.heap[kS]? = some (.cells #[.int .i64 bL, .int .i64 bI, (.slice dK bJ.length dI)] 24 (0, 0))) ∧ a6 (Below w.heap.size w w'))
     case atStart => exact ⟨(([] : List Int)), (0), vH, H', ⟨Nat.le_refl _⟩, ⟨EN⟩, ⟨vP dW.out⟩, ⟨bZ HB qY⟩⟩
     case round =>
      clear H';(try clear c1);(try clear p2);(try clear c4);(try clear c5);(try clear c9);(try clear yG);(try clear a1m);(try clear IW);(try clear uE);(try clear uD);(try clear uC);(try clear D8);(try clear D7);(try clear D6);(try clear u7);(try clear u4);(try clear u0);(try clear D0);(try clear CZ);(try clear CY);(try clear p2);obtain ⟨J2, eA, rfl, HA, RD, RC, dW, HB⟩ := hrel
      cases gk with
      | zero => exact absurd HA.out (by simp [b9.l0])
      | succ k2 =>
       have H := HA.out;clear HA;simp only [b9.l0] at H
       by_cases vL : eA < bI
       ·rw [if_pos vL] at H
        have yH : decide (eA < bI) = true := decide_eq_true vL;clear vL;replace H := Option.bind_eq_some_iff.mp H;obtain ⟨t184, a4h, H⟩ := H;replace H : (if J2.length < 140737488355328 then (b9.l0 k2 a1 (J2 ++ [t184]) (wrap64 (eA + 1)) bL bI bJ) else (none)) = some (r1, r2) := H;have A13 := a6.mk a4h;clear a4h
        by_cases V8 : J2.length < 140737488355328
        ·rw [if_pos V8] at H
         have LMc14 := a6.mk V8;clear V8;obtain ⟨y185, hy185⟩ : ∃ y_ : List Int, y_ = (J2 ++ [t184]) := ⟨_, rfl⟩
         replace H : (b9.l0 k2 a1 y185 (wrap64 (eA + 1)) bL bI bJ) = some (r1, r2) := by first | (rw [hy185]; with_reducible exact H) | (have H2_ := (Option.bind_some _ _).symm.trans H; rw [hy185]; with_reducible exact H2_) | (have H2_ := (Option.bind_some _ _).symm.trans H; with_reducible exact H2_) | with_reducible exact H | (rw [hy185]; exact H) | exact H
         have Ny185 := a6.mk hy185;clear hy185;have H' := a6.mk H;clear H;have uB : wr.cell? ⟨kS, 0, none⟩ = some (.int .i64 bL) := (aE dW.out 0).trans rfl;have uA : wr.cell? ⟨kS, 1, none⟩ = some (.int .i64 bI) := (aE dW.out 1).trans rfl;have u9 : wr.cell? ⟨kS, 2, none⟩ = some (.slice dK bJ.length dI) := (aE dW.out 2).trans rfl;have tZ := aA dW.out 0;have tY := aA dW.out 1;have tX := aA dW.out 2;go_wp2_with (first | ((with_reducible refine aZ (f := 25) rfl ?_); refine cM (some 29) rfl rfl Try.func25 (by kernel_rfl) rfl #[.agg #[.int .i64 bL, .int .i64 bI, .slice dK bJ.length dI], .int .i64 a1, .int .i64 eA] rfl nV ?_; (with_reducible refine (cT.calls bL bI _ _ bJ a1 eA t184 _ ?side1 ?side2 A13.out).mono ?_); (case side1 => repeat (first | exact (Kd.jY pP.out HB.out) | (with_reducible refine Kd.eE ?_ _) | (with_reducible refine Kd.eD ?_ _) | (with_reducible refine Kd.fW ?_))); (case side2 => exact qX.out); rintro e w16 ⟨rfl, hb⟩; refine ⟨_, rfl, ?_⟩; replace RC := a6.mk (Kd.aU (cD RC.out) hb); replace dW := a6.mk (aJ (cP dW) hb); replace HB := a6.mk (aK (bZ HB qY) hb); (try clear hb); (try clear hb2); (try clear hk); (try clear hi)) | ((with_reducible refine rP (b := .append) (xs := #[.tmp 25, .tmp 30]) rfl ?_); at_builtin; refine Kd.KK (Kd.int .u8) (w0 := w) w.heap.size rfl (.tmp 25) (.tmp 30) 22 5 (.int .u8 0) 1 rfl Try.underlying22 JS rfl (by decide) (by omega) u6 J2 t184 [.int .u8 t184] (fun _ => True) (fun _ => False) rfl rfl ?aP (fun _ hk => hk.elim) ?aF ?aO ?aB ?aS ?aL ?_; (case aP => exact rfl); (case aB => exact (bZ HB qY)); (case aF => exact (fun _ _ => trivial)); (case aO => exact (cD RC.out)); (case aS => exact (aG (bZ HB qY))); (case aL => have := LMc14.out; omega); intro aAE w17 ho hb hg hat; rw [← Ny185.out] at ho; have o5 := a6.mk (lU (cP dW) hg (Kd.KJ RC.out dW.out (by decide))); have o4 := a6.mk (hb); have SV := a6.mk (ho); clear dW HB RC; have dW := o5; have HB := o4; have a3D := SV; clear o5 o4 SV; clear ho hb hg hat))
         go_roundg k2
         case measure => have := HJ4.out; have := RD.out; omega
         case rel => exact ⟨(y185), (wrap64 (eA + 1)), vH, H', ⟨by have := HJ4.out; have := RD.out; omega⟩, ⟨cD a3D.out⟩, ⟨vP dW.out⟩, ⟨bZ HB qY⟩⟩
        ·rw [if_neg V8] at H
         exact absurd H (by simp)
       ·rw [if_neg vL] at H
        have yH : decide (eA < bI) = false := decide_eq_false vL;clear vL;simp only [Option.some.injEq, Prod.mk.injEq] at H;obtain ⟨rfl, rfl⟩ := H;have Y8 : wr.cell? ⟨kS, 0, none⟩ = some (.int .i64 bL) := (aE dW.out 0).trans rfl;have Y7 : wr.cell? ⟨kS, 1, none⟩ = some (.int .i64 bI) := (aE dW.out 1).trans rfl;have Y6 : wr.cell? ⟨kS, 2, none⟩ = some (.slice dK bJ.length dI) := (aE dW.out 2).trans rfl;have XE := aA dW.out 0;have XD := aA dW.out 1;have XC := aA dW.out 2
        go_wp2
        go_ret2
        exact ⟨_, qN, cD RC.out, bZ HB qY⟩
 ·replace c4 := Bool.eq_false_iff.mpr c4
  subst c4;have H1 : (some (([] : List Int), 3)) = some (r1, r2) := by rw [if_neg (show ¬ (false = true) by decide)] at H; exact H
  clear H;have H := H1;clear H1;simp only [Option.some.injEq, Prod.mk.injEq] at H;obtain ⟨rfl, rfl⟩ := H;go_enter Try.func54, Try.ntmps54;go_wp2_with (first | ((with_reducible refine bE (N := 2) rfl ?_); refine bA ?hg (N := 2) ?hd (cs := #[.int .i64 bL, .int .i64 bI, .slice dK bJ.length dI]) (t := 24) ?hr ?_; (case hd => rfl); (case hg => rfl); (case hr => first | (go_simp; done) | (go_simp; rfl)); intro kS hg w19 hbox hb; have dW := a6.mk (hbox); have a3L := a6.mk ((by rw [hg]; exact (aG (bV HB)) : w.heap.size ≤ kS)); have qY := a6.mk ((by rw [hg]; exact (aG (bV HB)) : w.heap.size ≤ kS)); replace HB := a6.mk (aK (bV HB) hb); clear hb hbox hg; have NU : w19.cell? ⟨kS, 0, none⟩ = some (.int .i64 bL) := (aE dW.out 0).trans rfl; have NT : w19.cell? ⟨kS, 1, none⟩ = some (.int .i64 bI) := (aE dW.out 1).trans rfl; have NS : w19.cell? ⟨kS, 2, none⟩ = some (.slice dK bJ.length dI) := (aE dW.out 2).trans rfl; have NR := aA dW.out 0; have NQ := aA dW.out 1; have NP := aA dW.out 2) | ((with_reducible refine aZ (f := 17) rfl ?_); refine cM (some 9) rfl rfl Try.func17 (by kernel_rfl) rfl #[.agg #[.int .i64 bL, .int .i64 bI, .slice dK bJ.length dI]] rfl nV ?_; (with_reducible refine (bU.calls bL bI _ _ bJ false _ ?side1 ?side2 A3.out).mono ?_); (case side1 => repeat (first | exact (Kd.jY pP.out HB.out) | (with_reducible refine Kd.eE ?_ _) | (with_reducible refine Kd.eD ?_ _) | (with_reducible refine Kd.fW ?_))); (case side2 => exact qX.out); rintro e w21 ⟨rfl, hb⟩; refine ⟨_, rfl, ?_⟩; replace dW := a6.mk (aJ (cP dW) hb); replace HB := a6.mk (aK (bZ HB qY) hb); (try clear hb); (try clear hb2); (try clear hk); (try clear hi)))
  go_ret2
  exact ⟨_, qN, EN, bZ HB qY⟩
end Go.Proofs.Yteofcbkjhdadpaa.Pr
