import Derived.Test.YteofcbkjhdadpaaCBuildMadex0
import Derived.Test.YteofcbkjhdadpaaCBuildMadex2
import Derived.Test.YteofcbkjhdadpaaCBuildMadex3
import Derived.Test.YteofcbkjhdadpaaCBuildMadex4
set_option maxHeartbeats 8000000
set_option maxRecDepth 100000
set_option linter.unusedSimpArgs false
set_option linter.unusedVariables false
namespace Go.Proofs.Yteofcbkjhdadpaa.Pr
open Go.RowKit Go.Proofs.aI.bC Go.Proofs.aI.eW Go.Proofs.aI.jH
attribute [local go_sem] nM nK rG qZ kG kF nL nJ   -- for this text's walks alone
mutual
def aX.j0 : Nat → List Int → Bool → Int → Int → List Int → Option (List Int × Bool × Int)
 | 0, _, _, _, _, _ => none
 | k + 1, x1, x24, wF, qV, BX => if x24 = true then (some (([] : List Int), false, 3)) else (aX.l0 k x1 0 wF qV BX wF (wrap64 (qV + 1)) ([] : List Int))
def aX.l0 : Nat → List Int → Int → Int → Int → List Int → Int → Int → List Int → Option (List Int × Bool × Int)
 | 0, _, _, _, _, _, _, _, _ => none
 | k + 1, x1, x8, wF, qV, BX, aEk, aEj, ZM => if x8 < wF then ((cE.f k wF qV BX x8).bind fun aNZ => (if ZM.length + aNZ.1.length < 140737488355328 then ((some (ZM ++ aNZ.1 : List Int)).bind fun y213 => (if 0 ≤ x8 then (if x8 < (x1.length : Int) then ((some (([rd x1 x8] : List Int) : List Int)).bind fun y217 => (if y213.length + y217.length < 140737488355328 then (aX.l0 k x1 (wrap64 (x8 + 1)) wF qV BX aEk aEj (y213 ++ y217)) else (none))) else (none)) else (none))) else (none))) else ((aM.f k aEk aEj ZM).bind fun NF => (if 0 ≤ qV then (if (qV : Int).toNat ≤ 281474976710656 then (aX.l1 k NF.2.2.2 (List.replicate (qV : Int).toNat 0) 0 wF qV BX NF.1 NF.2.1 NF.2.2.1) else (none)) else (none)))
def aX.l1 : Nat → List Int → List Int → Int → Int → Int → List Int → Int → Int → List Int → Option (List Int × Bool × Int)
 | 0, _, _, _, _, _, _, _, _, _ => none
 | k + 1, x12, x13, TT, wF, qV, BX, aEh, aEg, aEf => if TT < (x12.length : Int) then (if 0 ≤ TT then (if (rd x12 TT) = qV then (some (([] : List Int), false, 0)) else ((cJ.f aEh aEg aEf TT qV).bind fun t237 => (if 0 ≤ (rd x12 TT) then (if (rd x12 TT) < (x13.length : Int) then (aX.l1 k x12 (x13.set ((rd x12 TT) : Int).toNat t237) (wrap64 (TT + 1)) wF qV BX aEh aEg aEf) else (none)) else (none)))) else (none)) else (some (x13, true, 0))
end
def aX.f (k : Nat) (aV : Int) (aT : Int) (bB : List Int) (l1 : List Int) : Option (List Int × Bool × Int) := (bI.f aV aT bB).bind fun t207 => (if t207 = true then (aX.j0 k l1 ((l1.length : Int) != aV) aV aT bB) else (aX.j0 k l1 true aV aT bB))
def aX.T8 : Bool × List (List Nat × List Nat) := (true, [([], []), ([0], [0]), ([], []), ([1, 2], [1, 2]), ([], []), ([], []), ([4, 5], [4, 5]), ([6], [6]), ([7], [7]), ([3, 8, 3], [3, 8]), ([0, 1, 2, 3, 4, 5, 6, 7, 8, 9], []), ([10, 9, 9, 0, 1, 2, 3, 4, 5, 6, 7, 8, 9], [9, 10])])
def aX.B8 : List Nat := [0, 1, 0, 7, 0, 0, 48, 112, 240, 511, 1023, 2047]
theorem aX.aON : sI .any (opsOf Try.f62 8) = aX.T8 := by kernel_rfl
theorem aX.aKl : mJ aX.T8.2 aX.B8 = true := by kernel_rfl
def aX.T16 : Bool × List (List Nat × List Nat) := (true, [([], []), ([], []), ([], []), ([1, 2], [1, 2]), ([3], [3]), ([], []), ([], []), ([], []), ([7], [7]), ([5, 6, 8], [5, 6, 8]), ([0, 4, 0, 1, 2, 3, 4, 5, 6, 7, 8, 9], [0, 4]), ([10, 9, 9, 0, 1, 2, 3, 4, 5, 6, 7, 8, 9], [9, 10])])
def aX.B16 : List Nat := [0, 0, 0, 6, 14, 0, 0, 0, 128, 480, 1023, 2047]
theorem aX.aIn : sI .any (opsOf Try.f62 16) = aX.T16 := by kernel_rfl
theorem aX.aDO : mJ aX.T16.2 aX.B16 = true := by kernel_rfl
theorem aX.calls (k : Nat) (aV : Int) (aT : Int) (cL : Option Addr) (cK : Nat) (bB : List Int) (A1 : Option Addr) (c1 : Nat) (l1 : List Int) (r1 : List Int) (r2 : Bool) (r3 : Int) (w : World) (hr0_2 : Kd.C (Kd.int .u8) w cL bB.length bB) (hc0_2 : bB.length ≤ cK) (hr1 : Kd.C (Kd.int .u8) w A1 l1.length l1) (hc1 : l1.length ≤ c1) (h : aX.f k aV aT bB l1 = some (r1, r2, r3)) :
  Calls Try.prog 62 #[.agg #[.int .i64 aV, .int .i64 aT, .slice cL bB.length cK], .slice A1 l1.length c1] w fun e w' => ∃ v0_ : Value, e = .returned (.tuple #[v0_, .bool r2, .int .i64 r3]) ∧ Kd.R (Kd.int .u8) 5 w' w.heap.size (fun _ => True) v0_ r1 ∧ Below w.heap.size w w' := by
 have wA := Try.underlying24;have iC := aA.mk hr0_2;have iF := aA.mk hc0_2;clear hr0_2 hc0_2;have tS := aA.mk hr1;have HC1 := aA.mk hc1;clear hr1 hc1;have HB := aA.mk (Below.refl w.heap.size w);have H : ((bI.f aV aT bB).bind fun t207 => (if t207 = true then (aX.j0 k l1 ((l1.length : Int) != aV) aV aT bB) else (aX.j0 k l1 true aV aT bB))) = some (r1, r2, r3) := h;clear h;have HC3 := aA.mk H;clear H;go_enter Try.func62, Try.ntmps62;go_upto_region 1 with (first | ((with_reducible refine bR (N := 2) rfl ?_); (try (refine jN (by rfl) ?_; dsimp only)); refine bL ?hg (N := 2) ?hd (cs := #[.int .i64 aV, .int .i64 aT, .slice cL bB.length cK]) (t := 24) ?hr ?_; (case hd => rfl); (case hg => rfl); (case hr => first | (go_simp; done) | (go_simp; rfl)); intro gP hg w4 hbox hb; have cM := aA.mk (hbox); have aZy := aA.mk ((by rw [hg]; exact (aJ (cV HB)) : w.heap.size ≤ gP)); have jC := aA.mk ((by rw [hg]; exact (aJ (cV HB)) : w.heap.size ≤ gP)); replace HB := aA.mk (aN (cV HB) hb); clear hb hbox hg))
 (try simp only [Act.put, cW, cT, cZ])
 go_cut [24] (fun v24 wc => ∃ (kq : Nat) (KW : Bool), v24 = .bool KW ∧ aA (aX.j0 kq l1 KW aV aT bB = some (r1, r2, r3)) ∧ aA (kq ≤ k) ∧ aA (wc.heap[gP]? = some (.cells #[.int .i64 aV, .int .i64 aT, (.slice cL bB.length cK)] 24 (0, 0))) ∧ aA (Below w.heap.size w wc))
 case first =>
  have H := HC3.out;clear HC3;replace H := Option.bind_eq_some_iff.mp H;obtain ⟨t207, QJ, H⟩ := H;replace H : (if t207 = true then (aX.j0 k l1 ((l1.length : Int) != aV) aV aT bB) else (aX.j0 k l1 true aV aT bB)) = some (r1, r2, r3) := H;have A5 := aA.mk QJ;clear QJ
  by_cases c6 : t207 = true
  ·subst c6
   have H1 : (aX.j0 k l1 ((l1.length : Int) != aV) aV aT bB) = some (r1, r2, r3) := by rw [if_pos rfl] at H; exact H
   clear H;have H := H1;clear H1;have H' := aA.mk H;clear H;have nS : w4.cell? ⟨gP, 0, none⟩ = some (.int .i64 aV) := (aD cM.out 0).trans rfl;have nR : w4.cell? ⟨gP, 1, none⟩ = some (.int .i64 aT) := (aD cM.out 1).trans rfl;have nQ : w4.cell? ⟨gP, 2, none⟩ = some (.slice cL bB.length cK) := (aD cM.out 2).trans rfl;have nP := aC cM.out 0;have nO := aC cM.out 1;have nN := aC cM.out 2;go_wp2_with (first | ((with_reducible refine bD (f := 17) rfl ?_); refine cQ (some 16) rfl rfl Try.func17 (by kernel_rfl) rfl #[.agg #[.int .i64 aV, .int .i64 aT, .slice cL bB.length cK]] rfl kR ?_; (with_reducible refine (bI.calls aV aT _ _ bB true _ ?side1 ?side2 A5.out).mono ?_); (case side1 => repeat (first | exact (Kd.dW iC.out HB.out) | (with_reducible refine Kd.cY ?_ _) | (with_reducible refine Kd.cX ?_ _) | (with_reducible refine Kd.dM ?_))); (case side2 => exact iF.out); rintro e w8 ⟨rfl, hb⟩; refine ⟨_, rfl, ?_⟩; replace cM := aA.mk (aK (cN cM) hb); replace HB := aA.mk (aN (cI HB jC) hb); (try clear hb); (try clear hb2); (try clear hk); (try clear hi); have FB : w8.cell? ⟨gP, 0, none⟩ = some (.int .i64 aV) := (aD cM.out 0).trans rfl; have FA : w8.cell? ⟨gP, 1, none⟩ = some (.int .i64 aT) := (aD cM.out 1).trans rfl; have EZ : w8.cell? ⟨gP, 2, none⟩ = some (.slice cL bB.length cK) := (aD cM.out 2).trans rfl; have EY := aC cM.out 0; have EX := aC cM.out 1; have EW := aC cM.out 2))
   go_meet
   case rel => exact ⟨_, (((l1.length : Int) != aV)), kT, H', ⟨q_o⟩, ⟨gW cM.out⟩, ⟨cI HB jC⟩⟩
  ·replace c6 := Bool.eq_false_iff.mpr c6
   subst c6;have H1 : (aX.j0 k l1 true aV aT bB) = some (r1, r2, r3) := by rw [if_neg (show ¬ (false = true) by decide)] at H; exact H
   clear H;have H := H1;clear H1;have H' := aA.mk H;clear H;have lQ : w4.cell? ⟨gP, 0, none⟩ = some (.int .i64 aV) := (aD cM.out 0).trans rfl;have lP : w4.cell? ⟨gP, 1, none⟩ = some (.int .i64 aT) := (aD cM.out 1).trans rfl;have lO : w4.cell? ⟨gP, 2, none⟩ = some (.slice cL bB.length cK) := (aD cM.out 2).trans rfl;have lN := aC cM.out 0;have lL := aC cM.out 1;have lK := aC cM.out 2;go_wp2_with (first | ((with_reducible refine bD (f := 17) rfl ?_); refine cQ (some 16) rfl rfl Try.func17 (by kernel_rfl) rfl #[.agg #[.int .i64 aV, .int .i64 aT, .slice cL bB.length cK]] rfl kR ?_; (with_reducible refine (bI.calls aV aT _ _ bB false _ ?side1 ?side2 A5.out).mono ?_); (case side1 => repeat (first | exact (Kd.dW iC.out HB.out) | (with_reducible refine Kd.cY ?_ _) | (with_reducible refine Kd.cX ?_ _) | (with_reducible refine Kd.dM ?_))); (case side2 => exact iF.out); rintro e w11 ⟨rfl, hb⟩; refine ⟨_, rfl, ?_⟩; replace cM := aA.mk (aK (cN cM) hb); replace HB := aA.mk (aN (cI HB jC) hb); (try clear hb); (try clear hb2); (try clear hk); (try clear hi)))
   go_meet
   case rel => exact ⟨_, (true), kT, H', ⟨q_o⟩, ⟨gW cM.out⟩, ⟨cI HB jC⟩⟩
 case rest =>
  clear HC3;(try clear c1);(try clear p2);(try clear c6);(try clear lQ);(try clear lP);(try clear lO);(try clear nS);(try clear nR);(try clear nQ);(try clear FB);(try clear FA);(try clear EZ);(try clear lN);(try clear lL);(try clear lK);(try clear nP);(try clear nO);(try clear nN);(try clear EY);(try clear EX);(try clear EW);obtain ⟨kq, KW, rfl, HA, HJ2, cM, HB⟩ := hcut
  cases kq with
  | zero => exact absurd HA.out (by simp [aX.j0])
  | succ kj2 =>
   have H := HA.out;clear HA;simp only [aX.j0] at H
   by_cases uJ : KW = true
   ·subst uJ
    have H1 : (some (([] : List Int), false, 3)) = some (r1, r2, r3) := by rw [if_pos rfl] at H; exact H
    clear H;have H := H1;clear H1;simp only [Option.some.injEq, Prod.mk.injEq] at H;obtain ⟨rfl, rfl, rfl⟩ := H
    go_wp2
    go_ret3
    exact ⟨_, tZ, IW, cI HB jC⟩
   ·replace uJ := Bool.eq_false_iff.mpr uJ
    subst uJ;have H1 : (aX.l0 kj2 l1 0 aV aT bB aV (wrap64 (aT + 1)) ([] : List Int)) = some (r1, r2, r3) := by rw [if_neg (show ¬ (false = true) by decide)] at H; exact H
    clear H;have H := H1;clear H1;have H' := aA.mk H;clear H;have mX : wc.cell? ⟨gP, 0, none⟩ = some (.int .i64 aV) := (aD cM.out 0).trans rfl;have mW : wc.cell? ⟨gP, 1, none⟩ = some (.int .i64 aT) := (aD cM.out 1).trans rfl;have mU : wc.cell? ⟨gP, 2, none⟩ = some (.slice cL bB.length cK) := (aD cM.out 2).trans rfl;have mQ := aC cM.out 0;have mP := aC cM.out 1;have mO := aC cM.out 2;go_wp2_with (first | ((with_reducible refine bR (N := 7) rfl ?_); (try (refine jN (by rfl) ?_; dsimp only)); refine bL ?hg (N := 7) ?hd (cs := #[.int .i64 0, .int .i64 0, .slice none 0 0]) (t := 24) ?hr ?_; (case hd => rfl); (case hg => rfl); (case hr => first | (go_simp; done) | (go_simp; rfl)); intro mD hg w14 hbox hb; have dI := aA.mk (hbox); have aZx := aA.mk ((by rw [hg]; exact (aJ (cI HB jC)) : w.heap.size ≤ mD)); have oE := aA.mk ((by rw [hg]; exact (aJ (cI HB jC)) : w.heap.size ≤ mD)); replace HB := aA.mk (aN (cI HB jC) hb); have tK := aA.mk ((by rw [hg]; exact Nat.ne_of_lt (bV (cN cM)) : gP ≠ mD)); have IQ := aA.mk ((by rw [hg]; exact Nat.ne_of_gt (bV (cN cM)) : mD ≠ gP)); replace cM := aA.mk (aK (cN cM) hb); clear hb hbox hg; have YC := IQ.out; have YB := tK.out; have mT : w14.cell? ⟨mD, 0, none⟩ = some (.int .i64 0) := (aD dI.out 0).trans rfl; have mS : w14.cell? ⟨mD, 1, none⟩ = some (.int .i64 0) := (aD dI.out 1).trans rfl; have mR : w14.cell? ⟨mD, 2, none⟩ = some (.slice none 0 0) := (aD dI.out 2).trans rfl; have mN := aC dI.out 0; have mM := aC dI.out 1; have mL := aC dI.out 2))
    go_loopg [8] kj2 (fun kq v8 w' => ∃ (mZ : Int) (eL : List Int) (RJ : Value), v8 = .int .i64 mZ ∧ aA (aX.l0 kq l1 mZ aV aT bB aV (wrap64 (aT + 1)) eL = some (r1, r2, r3)) ∧ aA (kq ≤ kj2) ∧ aA (Kd.R (Kd.int .u8) 5 w' w.heap.size (fun _ => True) RJ eL) ∧ aA (w'.heap[gP]? = some (.cells #[.int .i64 aV, .int .i64 aT, (.slice cL bB.length cK)] 24 (0, 0))) ∧ aA (w'.heap[mD]? = some (.cells #[.int .i64 aV, .int .i64 (wrap64 (aT + 1)), RJ] 24 (0, 0))) ∧ aA (Below w.heap.size w w'))
    case atStart => exact ⟨(0), (([] : List Int)), (.slice none 0 0), kT, H', ⟨Nat.le_refl _⟩, ⟨IW⟩, ⟨by (with_reducible repeat first | apply aE | apply aH | apply aG); refine bE ?_ tK.out _; (with_reducible repeat first | apply aE | apply aH | apply aG); refine bE ?_ tK.out _; (with_reducible repeat first | apply aE | apply aH | apply aG); refine bE ?_ tK.out _; (with_reducible repeat first | apply aE | apply aH | apply aG); exact cM.out⟩, ⟨by (with_reducible repeat first | apply aE | apply aH | apply aG); refine bA (cs := #[.int .i64 aV, .int .i64 (wrap64 (aT + 1)), .slice none 0 0]) ?_ 2 _ rfl; (with_reducible repeat first | apply aE | apply aH | apply aG); refine bA (cs := #[.int .i64 aV, .int .i64 0, .slice none 0 0]) ?_ 1 _ rfl; (with_reducible repeat first | apply aE | apply aH | apply aG); refine bA (cs := #[.int .i64 0, .int .i64 0, .slice none 0 0]) ?_ 0 _ rfl; (with_reducible repeat first | apply aE | apply aH | apply aG); exact dI.out⟩, ⟨dD HB jC oE⟩⟩
    case round =>
     clear H';(try clear c1);(try clear p2);(try clear c6);(try clear p6);(try clear uJ);(try clear YT);(try clear lQ);(try clear lP);(try clear lO);(try clear mX);(try clear mW);(try clear mU);(try clear mT);(try clear mS);(try clear mR);(try clear nS);(try clear nR);(try clear nQ);(try clear FB);(try clear FA);(try clear EZ);(try clear lN);(try clear lL);(try clear lK);(try clear mQ);(try clear mP);(try clear mO);(try clear mN);(try clear mM);(try clear mL);(try clear nP);(try clear nO);(try clear nN);(try clear EY);(try clear EX);(try clear EW);(try clear p2);obtain ⟨mZ, eL, RJ, rfl, HA, uN, eO, cM, dI, HB⟩ := hrel
     cases gk with
     | zero => exact absurd HA.out (by simp [aX.l0])
     | succ k2 =>
      have H := HA.out;clear HA;simp only [aX.l0] at H
      by_cases KQ : mZ < aV
      ·rw [if_pos KQ] at H
       have YS : decide (mZ < aV) = true := decide_eq_true KQ;clear KQ;replace H := Option.bind_eq_some_iff.mp H;obtain ⟨⟨t209, t212⟩, aKO, H⟩ := H;replace H : (if eL.length + t209.length < 140737488355328 then ((some (eL ++ t209 : List Int)).bind fun y213 => (if 0 ≤ mZ then (if mZ < (l1.length : Int) then ((some (([rd l1 mZ] : List Int) : List Int)).bind fun y217 => (if y213.length + y217.length < 140737488355328 then (aX.l0 k2 l1 (wrap64 (mZ + 1)) aV aT bB aV (wrap64 (aT + 1)) (y213 ++ y217)) else (none))) else (none)) else (none))) else (none)) = some (r1, r2, r3) := H;have A18 := aA.mk aKO;clear aKO
       by_cases RA : eL.length + t209.length < 140737488355328
       ·rw [if_pos RA] at H
        have LMc19 := aA.mk RA;clear RA;obtain ⟨y213, hy213⟩ : ∃ y_ : List Int, y_ = (eL ++ t209) := ⟨_, rfl⟩
        replace H : (if 0 ≤ mZ then (if mZ < (l1.length : Int) then ((some (([rd l1 mZ] : List Int) : List Int)).bind fun y217 => (if y213.length + y217.length < 140737488355328 then (aX.l0 k2 l1 (wrap64 (mZ + 1)) aV aT bB aV (wrap64 (aT + 1)) (y213 ++ y217)) else (none))) else (none)) else (none)) = some (r1, r2, r3) := by first | (rw [hy213]; with_reducible exact H) | (have H2_ := (Option.bind_some _ _).symm.trans H; rw [hy213]; with_reducible exact H2_) | (have H2_ := (Option.bind_some _ _).symm.trans H; with_reducible exact H2_) | with_reducible exact H | (rw [hy213]; exact H) | exact H
        have Ny213 := aA.mk hy213;clear hy213
        by_cases c20 : 0 ≤ mZ
        ·rw [if_pos c20] at H
         have aSp : decide (0 ≤ mZ) = true := decide_eq_true c20;clear c20
         by_cases NV : mZ < (l1.length : Int)
         ·rw [if_pos NV] at H
          have YQ : decide (mZ < (l1.length : Int)) = true := decide_eq_true NV;clear NV;obtain ⟨y217, hy217⟩ : ∃ y_ : List Int, y_ = (([rd l1 mZ] : List Int)) := ⟨_, rfl⟩
          replace H : (if y213.length + y217.length < 140737488355328 then (aX.l0 k2 l1 (wrap64 (mZ + 1)) aV aT bB aV (wrap64 (aT + 1)) (y213 ++ y217)) else (none)) = some (r1, r2, r3) := by first | (rw [hy217]; with_reducible exact H) | (have H2_ := (Option.bind_some _ _).symm.trans H; rw [hy217]; with_reducible exact H2_) | (have H2_ := (Option.bind_some _ _).symm.trans H; with_reducible exact H2_) | with_reducible exact H | (rw [hy217]; exact H) | exact H
          have Ny217 := aA.mk hy217;clear hy217
          by_cases c22 : y213.length + y217.length < 140737488355328
          ·rw [if_pos c22] at H
           have LMc22 := aA.mk c22;clear c22;obtain ⟨y220, hy220⟩ : ∃ y_ : List Int, y_ = (y213 ++ y217) := ⟨_, rfl⟩
           replace H : (aX.l0 k2 l1 (wrap64 (mZ + 1)) aV aT bB aV (wrap64 (aT + 1)) y220) = some (r1, r2, r3) := by first | (rw [hy220]; with_reducible exact H) | (have H2_ := (Option.bind_some _ _).symm.trans H; rw [hy220]; with_reducible exact H2_) | (have H2_ := (Option.bind_some _ _).symm.trans H; with_reducible exact H2_) | with_reducible exact H | (rw [hy220]; exact H) | exact H
           have Ny220 := aA.mk hy220;clear hy220;have H' := aA.mk H;clear H;have aNI := tK.out;have aNA := IQ.out;have TJ : wr.cell? ⟨gP, 0, none⟩ = some (.int .i64 aV) := (aD cM.out 0).trans rfl;have TI : wr.cell? ⟨gP, 1, none⟩ = some (.int .i64 aT) := (aD cM.out 1).trans rfl;have TH : wr.cell? ⟨gP, 2, none⟩ = some (.slice cL bB.length cK) := (aD cM.out 2).trans rfl;have SK := aC cM.out 0;have SJ := aC cM.out 1;have SI := aC cM.out 2
           try go_wp2_with (first | ((with_reducible refine bD (f := 54) rfl ?_); refine cQ (some 40) rfl rfl Try.func54 (by kernel_rfl) rfl #[.agg #[.int .i64 aV, .int .i64 aT, .slice cL bB.length cK], .int .i64 mZ] rfl kR ?_; (with_reducible refine (cE.calls k2 aV aT _ _ bB mZ t209 t212 _ ?side1 ?side2 A18.out).mono ?_); (case side1 => repeat (first | exact (Kd.dW iC.out HB.out) | (with_reducible refine Kd.cY ?_ _) | (with_reducible refine Kd.cX ?_ _) | (with_reducible refine Kd.dM ?_))); (case side2 => exact iF.out); rintro e w25 ⟨v210, rfl, ho0, hb⟩; refine ⟨_, rfl, ?_⟩; have mF := aA.mk (Kd.dE (Kd.dU ho0 (Kd.hH (dZ eO.out))) (aJ (dD HB jC oE))); replace eO := aA.mk (Kd.cO (dZ eO.out) (Kd.dV ho0) hb); replace cM := aA.mk (aK (cN cM) hb); replace dI := aA.mk (aK (cN dI) hb); replace HB := aA.mk (aN (dD HB jC oE) hb); (try clear hb); (try clear hb2); (try clear hk); (try clear hi); (try clear ho0); obtain ⟨RD, QY, eo26⟩ := Kd.cH eO.out; subst eo26; obtain ⟨pA, mI, eo27⟩ := Kd.cH mF.out; subst eo27))
           replace eO := aA.mk (Kd.bK eO.out);replace mF := aA.mk (Kd.bK mF.out);replace cM := aA.mk (aH cM.out);replace dI := aA.mk (aH dI.out);replace HB := aA.mk (dY HB.out);have aLy : 0 ≤ (mZ : Int) := of_decide_eq_true sJ;have q216 : mZ < (l1.length : Int) := of_decide_eq_true sJ;obtain ⟨ad216, e216, hx216_0⟩ := Kd.uE tS.out mZ aLy q216;have sT := hx216_0
           cases e216
           replace hx216_0 := (HB.out.cell (World.block_lt_of_cell? w _ hx216_0)).trans hx216_0;replace aLy := eq_true aLy;replace q216 := eq_true q216;refine sV (n := 12) (S := fun w' => w'.cell? ⟨mD, 0, none⟩ = some (.int .i64 aV) ∧ w'.cell? ⟨mD, 1, none⟩ = some (.int .i64 (wrap64 (aT + 1))) ∧ w'.cell? ⟨mD, 2, none⟩ = some (.slice RD eL.length QY) ∧ w'.cell? (ad216.add (mZ).toNat) = some (.int .u8 (rd l1 mZ))) (ds := [11]) #[false, false, false, false, false, false, false, false, false, false, false, false] (by kernel_rfl) rfl rfl ⟨(aD dI.out 0).trans rfl, (aD dI.out 1).trans rfl, (aD dI.out 2).trans rfl, ((HB.out.cell (World.block_lt_of_cell? w _ sT)).trans sT)⟩ (fun hHeld => ?_); refine kB aX.aON aX.aKl (fun HT_ HW_ => ?_);generalize w25.drew = w28 at eO mF cM dI HB hx216_0 hHeld ⊢;refine cF (i := 0) (N := some 43) (v := ?_) (a' := ?_) #[true, false, false, false, false, false, false, false, false, false, false, false] rfl rfl (bX HT_.out (by kernel_rfl)) (fun _ _ _ h => h) (Or.inl ⟨by rfl, ?_⟩) ?_ ?_;rotate_left
           ·intro w'
            go_simp;(with_reducible rfl)
           rotate_left
           ·simp only [Act.put, cW, cT, cZ, bJ, bM]
            rfl
           refine cF (i := 2) (N := some 45) (v := ?_) (a' := ?_) #[true, false, true, false, false, false, false, false, false, false, false, false] rfl rfl (bX HT_.out (by kernel_rfl)) (fun _ _ _ h => h) (Or.inl ⟨by rfl, ?_⟩) ?_ ?_;rotate_left
           ·intro w'
            go_simp;(with_reducible rfl)
           rotate_left
           ·simp only [Act.put, cW, cT, cZ, bJ, bM]
            rfl
           refine cF (i := 4) (N := some 47) (v := ?_) (a' := ?_) #[true, false, true, false, true, false, false, false, false, false, false, false] rfl rfl (bX HT_.out (by kernel_rfl)) (fun _ _ _ h => h) (Or.inl ⟨by rfl, ?_⟩) ?_ ?_;rotate_left
           ·intro w'
            go_simp;(with_reducible rfl)
           rotate_left
           ·simp only [Act.put, cW, cT, cZ, bJ, bM]
            rfl
           refine cF (i := 5) (N := some 48) (v := ?_) (a' := ?_) #[true, false, true, false, true, true, false, false, false, false, false, false] rfl rfl (bX HT_.out (by kernel_rfl)) (fun _ _ _ h => h) (Or.inl ⟨by rfl, ?_⟩) ?_ ?_;rotate_left
           ·intro w'
            go_simp;(with_reducible rfl)
           rotate_left
           ·simp only [Act.put, cW, cT, cZ, bJ, bM]
            rfl
           refine cF (i := 6) (N := some 49) (v := ?_) (a' := ?_) #[true, false, true, false, true, true, true, false, false, false, false, false] rfl rfl (bX HT_.out (by kernel_rfl)) (fun _ _ _ h => h) (Or.inl ⟨by rfl, ?_⟩) ?_ ?_;rotate_left
           ·intro w'
            go_simp;(with_reducible rfl)
           rotate_left
           ·simp only [Act.put, cW, cT, cZ, bJ, bM]
            rfl
           refine fW (i := 1) (N := some 44) (v := ?_) (a' := ?_) #[true, true, true, false, true, true, true, false, false, false, false, false] rfl rfl (dQ HT_.out HW_.out (by kernel_rfl)) (fun _ _ _ h => h) (Or.inl ⟨by rfl, ?_⟩) hHeld ?_ ?_;rotate_left
           ·rintro w' ⟨s0, s1, s2, s3⟩
            go_simp;(with_reducible rfl)
           rotate_left
           ·simp only [Act.put, cW, cT, cZ, bJ, bM]
            rfl
           refine fW (i := 7) (N := some 50) (v := ?_) (a' := ?_) #[true, true, true, false, true, true, true, true, false, false, false, false] rfl rfl (dQ HT_.out HW_.out (by kernel_rfl)) (fun _ _ _ h => h) (Or.inl ⟨by rfl, ?_⟩) hHeld ?_ ?_;rotate_left
           ·rintro w' ⟨s0, s1, s2, s3⟩
            go_simp;(with_reducible rfl)
           rotate_left
           ·simp only [Act.put, cW, cT, cZ, bJ, bM]
            rfl
           refine aNt (σ := Value × Value) 3 #[true, true, true, true, true, true, true, true, true, false, false, false] (fun s_ => [(46, s_.1), (51, s_.2)]) (fun s_ w' => (w'.cell? ⟨mD, 0, none⟩ = some (.int .i64 aV) ∧ w'.cell? ⟨mD, 1, none⟩ = some (.int .i64 (wrap64 (aT + 1))) ∧ w'.cell? ⟨mD, 2, none⟩ = some (.slice RD eL.length QY) ∧ w'.cell? (ad216.add (mZ).toNat) = some (.int .u8 (rd l1 mZ))) ∧ (Kd.R (Kd.int .u8) 5 w' w.heap.size (fun k_ => some k_ ≠ (s_.1 : Value).ownBlock ∧ some k_ ≠ (s_.2 : Value).ownBlock) (.slice pA t209.length mI) t209) ∧ (Kd.R (Kd.int .u8) 5 w' w.heap.size (fun k_ => some k_ ≠ (.slice pA t209.length mI : Value).ownBlock ∧ some k_ ≠ (s_.2 : Value).ownBlock) s_.1 y213) ∧ (Kd.R (Kd.int .u8) 5 w' w.heap.size (fun k_ => some k_ ≠ (.slice pA t209.length mI : Value).ownBlock ∧ some k_ ≠ (s_.1 : Value).ownBlock) s_.2 y217) ∧ (w'.heap[gP]? = some (.cells #[.int .i64 aV, .int .i64 aT, .slice cL bB.length cK] 24 (0, 0))) ∧ (w'.heap[mD]? = some (.cells #[.int .i64 aV, .int .i64 (wrap64 (aT + 1)), .slice RD eL.length QY] 24 (0, 0))) ∧ (Below w.heap.size w w')) ?_ ?_;rotate_left
           ·intro hCont
            refine aQA (i := 3) (j := 8) (Ni := some 46) (Nj := some 51) #[true, true, true, true, true, true, true, true, false, false, false, false] #[true, true, true, false, true, true, true, true, true, false, false, false] rfl rfl rfl rfl (aOK HT_.out (by kernel_rfl)) (by decide) (by decide) (fun K hK => ?_) (fun K hK => ?_)
            ·skip
             refine Kd.oY (Kd.int .u8) (w0 := w) w.heap.size (by rfl) (.tmp 44) (.tmp 45) 22 5 (.int .u8 0) 1 rfl Try.underlying22 xI rfl (by decide) (by omega) (.slice RD eL.length QY) eL t209 _ _ _ (fun k_ => some k_ ≠ (.slice pA t209.length mI : Value).ownBlock) (fun _ => False) rfl rfl ?aO ?aR (fun _ _ h => h) (fun _ h => h.elim) ?aF ?aB ?aS ?aL ?_
             (case aR => repeat (first | exact (Kd.bZ mF.out).2.2 | (with_reducible refine Kd.cY ?_ _) | (with_reducible refine Kd.cX ?_ _) | (with_reducible refine Kd.dM ?_)))
             (case aB => exact (dD HB jC oE))
             (case aF => exact (fun k_ hk => Kd.OS (Kd.hH (dZ mF.out)) k_ hk))
             (case aO => exact (by (with_reducible repeat first | apply Kd.bG | apply Kd.bF | apply Kd.bK); exact Kd.bN eO.out (fun _ hk => hk.2)))
             (case aS => exact (aJ (dD HB jC oE)))
             (case aL => have := LMc19.out; omega);intro aBm w29 ho hb hg hat;rw [← Ny213.out] at ho;have nH := aA.mk (eM (cN cM) hg (Kd.lV eO.out cM.out (by decide)));have nG := aA.mk (eM (cN dI) hg (Kd.lV eO.out dI.out (by decide)));have JK := aA.mk (Kd.DM (ok := (fun _ => True)) (dZ mF.out) hg hat);have UU := aA.mk (hb);have XW := aA.mk (ho);clear cM;clear dI;clear mF;clear HB;clear eO;have cM := nH;have dI := nG;have mF := JK;have HB := UU;have FV := XW;clear nH nG JK UU XW;clear ho hb hg hat;refine hK.out _ _ ⟨(aD dI.out 0).trans rfl, (aD dI.out 1).trans rfl, (aD dI.out 2).trans rfl, ((HB.out.cell (World.block_lt_of_cell? w _ sT)).trans sT)⟩ (fun hHeld => ?_);clear hK K;refine sB (a' := ?_) ?_ ?_;rotate_left
             ·show Act.put _ (some 46) _ = _
              simp only [Act.put, cW, cT, cZ, bJ, bM];rfl
             refine AV (i := 8) (N := some 51) #[true, true, true, true, true, true, true, true, true, false, false, false] rfl rfl (iP HT_.out (by kernel_rfl)) (by decide) (fun K hK => ?_);refine Kd.WB (Kd.int .u8) _ 5 ?hg (N := 51) ?hd (xs := ([rd l1 mZ] : List Int)) (inner := [.int .u8 (rd l1 mZ)]) (ok := fun _ => True) (okp := fun _ => True) ?hr ?hp (fun _ hk => hk) trivial (Below.refl _ _) (Nat.le_refl _) (by simp) ?_; (case hd => rfl); (case hg => rfl); (case hr => first | (go_simp; done) | (go_simp; rfl)); (case hp => exact (fC.one (show Kd.M (Kd.int .u8) _ _ _ (rd l1 mZ) [.int .u8 (rd l1 mZ)] from rfl) (fC.none _ _)));intro v218 w30 ho31 hb hg_ hnew_;clear hg_ hnew_
             (first | rw [← Ny217.out] at ho31 | (simp only [Int.reduceToNat] at ho31; rw [← Ny217.out] at ho31));have zM := aA.mk (Kd.dE (Kd.dU (Kd.dU ho31 (Kd.hH (dZ mF.out))) (Kd.hH (dZ FV.out))) (aJ (dD HB jC oE)));replace mF := aA.mk (Kd.cO (dZ mF.out) (Kd.dV ho31) hb);replace FV := aA.mk (Kd.cO (dZ FV.out) (Kd.dV ho31) hb);replace cM := aA.mk (aK (cN cM) hb);replace dI := aA.mk (aK (cN dI) hb);replace HB := aA.mk (aN (dD HB jC oE) hb);clear hb ho31;refine hK.out _ _ ⟨(aD dI.out 0).trans rfl, (aD dI.out 1).trans rfl, (aD dI.out 2).trans rfl, ((HB.out.cell (World.block_lt_of_cell? w _ sT)).trans sT)⟩ (fun hHeld => ?_);clear hK K;refine sB (a' := ?_) ?_ ?_;rotate_left
             ·show Act.put _ (some 51) _ = _
              simp only [Act.put, cW, cT, cZ, bJ, bM];rfl
             exact sB (by simp only [OH, Act.put, cW, cT, cZ]) (hCont (aBm, v218) _ ⟨hHeld, (by (with_reducible repeat first | apply Kd.bG | apply Kd.bF | apply Kd.bK); exact Kd.bN mF.out (fun _ hk => ⟨hk.1.2, hk.2⟩)), (dZ FV.out), (by (with_reducible repeat first | apply Kd.bG | apply Kd.bF | apply Kd.bK); exact Kd.bN zM.out (fun _ hk => ⟨hk.1.2, hk.2⟩)), (gW cM.out), (gW dI.out), (dD HB jC oE)⟩)
            ·skip
             refine Kd.WB (Kd.int .u8) _ 5 ?hg (N := 51) ?hd (xs := ([rd l1 mZ] : List Int)) (inner := [.int .u8 (rd l1 mZ)]) (ok := fun _ => True) (okp := fun _ => True) ?hr ?hp (fun _ hk => hk) trivial (Below.refl _ _) (Nat.le_refl _) (by simp) ?_; (case hd => rfl); (case hg => rfl); (case hr => first | (go_simp; done) | (go_simp; rfl)); (case hp => exact (fC.one (show Kd.M (Kd.int .u8) _ _ _ (rd l1 mZ) [.int .u8 (rd l1 mZ)] from rfl) (fC.none _ _)));intro v218 w29 ho30 hb hg_ hnew_;clear hg_ hnew_
             (first | rw [← Ny217.out] at ho30 | (simp only [Int.reduceToNat] at ho30; rw [← Ny217.out] at ho30));have zM := aA.mk (Kd.dE (Kd.dU (Kd.dU ho30 (Kd.hH (dZ eO.out))) (Kd.hH (dZ mF.out))) (aJ (dD HB jC oE)));replace eO := aA.mk (Kd.cO (dZ eO.out) (Kd.dV ho30) hb);replace mF := aA.mk (Kd.cO (dZ mF.out) (Kd.dV ho30) hb);replace cM := aA.mk (aK (cN cM) hb);replace dI := aA.mk (aK (cN dI) hb);replace HB := aA.mk (aN (dD HB jC oE) hb);clear hb ho30;refine hK.out _ _ ⟨(aD dI.out 0).trans rfl, (aD dI.out 1).trans rfl, (aD dI.out 2).trans rfl, ((HB.out.cell (World.block_lt_of_cell? w _ sT)).trans sT)⟩ (fun hHeld => ?_);clear hK K;refine sB (a' := ?_) ?_ ?_;rotate_left
             ·show Act.put _ (some 51) _ = _
              simp only [Act.put, cW, cT, cZ, bJ, bM];rfl
             refine AV (i := 3) (N := some 46) #[true, true, true, true, true, true, true, true, true, false, false, false] rfl rfl (iP HT_.out (by kernel_rfl)) (by decide) (fun K hK => ?_);refine Kd.oY (Kd.int .u8) (w0 := w) w.heap.size (by rfl) (.tmp 44) (.tmp 45) 22 5 (.int .u8 0) 1 rfl Try.underlying22 xI rfl (by decide) (by omega) (.slice RD eL.length QY) eL t209 _ _ _ (fun k_ => some k_ ≠ (.slice pA t209.length mI : Value).ownBlock ∧ some k_ ≠ (v218 : Value).ownBlock) (fun _ => False) rfl rfl ?aO ?aR (fun _ _ h => h) (fun _ h => h.elim) ?aF ?aB ?aS ?aL ?_
             (case aR => repeat (first | exact (Kd.bZ mF.out).2.2 | (with_reducible refine Kd.cY ?_ _) | (with_reducible refine Kd.cX ?_ _) | (with_reducible refine Kd.dM ?_)))
             (case aB => exact (dD HB jC oE))
             (case aF => exact (fun k_ hk => ⟨Kd.OS (Kd.hH (dZ mF.out)) k_ hk, Kd.OS (Kd.hH (dZ zM.out)) k_ hk⟩))
             (case aO => exact (by (with_reducible repeat first | apply Kd.bG | apply Kd.bF | apply Kd.bK); exact Kd.bN eO.out (fun _ hk => ⟨hk.1.2, hk.2⟩)))
             (case aS => exact (aJ (dD HB jC oE)))
             (case aL => have := LMc19.out; omega);intro aBm w31 ho hb hg hat;rw [← Ny213.out] at ho;have nH := aA.mk (eM (cN cM) hg (Kd.lV eO.out cM.out (by decide)));have nG := aA.mk (eM (cN dI) hg (Kd.lV eO.out dI.out (by decide)));have JK := aA.mk (Kd.DM (ok := (fun k_ => some k_ ≠ (v218 : Value).ownBlock)) (by (with_reducible repeat first | apply Kd.bG | apply Kd.bF | apply Kd.bK); exact Kd.bN mF.out (fun _ hk => ⟨hk.2, hk.1.2⟩)) hg hat);have UU := aA.mk (Kd.DM (ok := (fun k_ => some k_ ≠ (.slice pA t209.length mI : Value).ownBlock)) (by (with_reducible repeat first | apply Kd.bG | apply Kd.bF | apply Kd.bK); exact Kd.bN zM.out (fun _ hk => ⟨hk.2, hk.1.2⟩)) hg hat);have XW := aA.mk (hb);have n5_ := aA.mk (ho);clear cM;clear dI;clear mF;clear zM;clear HB;clear eO;have cM := nH;have dI := nG;have mF := JK;have zM := UU;have HB := XW;have FV := n5_;clear nH nG JK UU XW n5_;clear ho hb hg hat;refine hK.out _ _ ⟨(aD dI.out 0).trans rfl, (aD dI.out 1).trans rfl, (aD dI.out 2).trans rfl, ((HB.out.cell (World.block_lt_of_cell? w _ sT)).trans sT)⟩ (fun hHeld => ?_);clear hK K;refine sB (a' := ?_) ?_ ?_;rotate_left
             ·show Act.put _ (some 46) _ = _
              simp only [Act.put, cW, cT, cZ, bJ, bM];rfl
             exact sB (by simp only [OH, Act.put, cW, cT, cZ]) (hCont (aBm, v218) _ ⟨hHeld, (by (with_reducible repeat first | apply Kd.bG | apply Kd.bF | apply Kd.bK); exact Kd.bN mF.out (fun _ hk => ⟨hk.2, hk.1⟩)), (dZ FV.out), (dZ zM.out), (gW cM.out), (gW dI.out), (dD HB jC oE)⟩)
           rintro ⟨aBm, v218⟩ w32 ⟨hS_, h0_, h1_, h2_, h3_, h4_, h5_⟩;have nH : aA (Kd.R (Kd.int .u8) 5 w32 w.heap.size (fun k_ => some k_ ≠ (aBm : Value).ownBlock ∧ some k_ ≠ (v218 : Value).ownBlock) (.slice pA t209.length mI) t209) := ⟨h0_⟩
           have nG : aA (Kd.R (Kd.int .u8) 5 w32 w.heap.size (fun k_ => some k_ ≠ (.slice pA t209.length mI : Value).ownBlock ∧ some k_ ≠ (v218 : Value).ownBlock) aBm y213) := ⟨h1_⟩
           have JK : aA (Kd.R (Kd.int .u8) 5 w32 w.heap.size (fun k_ => some k_ ≠ (.slice pA t209.length mI : Value).ownBlock ∧ some k_ ≠ (aBm : Value).ownBlock) v218 y217) := ⟨h2_⟩
           have UU : aA (w32.heap[gP]? = some (.cells #[.int .i64 aV, .int .i64 aT, .slice cL bB.length cK] 24 (0, 0))) := ⟨h3_⟩
           have XW : aA (w32.heap[mD]? = some (.cells #[.int .i64 aV, .int .i64 (wrap64 (aT + 1)), .slice RD eL.length QY] 24 (0, 0))) := ⟨h4_⟩
           have n5_ : aA (Below w.heap.size w w32) := ⟨h5_⟩
           clear eO;clear mF;clear cM;clear dI;clear HB;clear h0_ h1_ h2_ h3_ h4_ h5_;have mF := nH;have FV := nG;have zM := JK;have cM := UU;have dI := XW;have HB := n5_;clear nH nG JK UU XW n5_;have hHeld : w32.cell? ⟨mD, 0, none⟩ = some (.int .i64 aV) ∧ w32.cell? ⟨mD, 1, none⟩ = some (.int .i64 (wrap64 (aT + 1))) ∧ w32.cell? ⟨mD, 2, none⟩ = some (.slice RD eL.length QY) ∧ w32.cell? (ad216.add (mZ).toNat) = some (.int .u8 (rd l1 mZ)) := hS_;obtain ⟨aCK, aCh, eo34⟩ := Kd.cH zM.out
           (first | subst eo34 | (injection eo34 with f1_ f2_ f3_; have f4_ := f1_.symm; have f5_ := f3_.symm; clear f1_ f2_ f3_; subst f4_; subst f5_));refine sB (a' := ?_) ?_ ?_;rotate_left
           ·simp only [OH, Act.put, cW, cT, cZ]
            rfl
           refine AV (i := 9) (N := some 52) #[true, true, true, true, true, true, true, true, true, true, false, false] rfl rfl (iP HT_.out (by kernel_rfl)) (by decide) (fun K hK => ?_);refine Kd.oY (Kd.int .u8) (w0 := w) w.heap.size (by rfl) (.tmp 46) (.tmp 51) 22 5 (.int .u8 0) 1 rfl Try.underlying22 xI rfl (by decide) (by omega) aBm y213 y217 _ _ _ (fun k_ => some k_ ≠ (.slice pA t209.length mI : Value).ownBlock ∧ some k_ ≠ (.slice aCK y217.length aCh : Value).ownBlock) (fun _ => False) rfl rfl ?aO ?aR (fun _ _ h => h) (fun _ h => h.elim) ?aF ?aB ?aS ?aL ?_
           (case aR => repeat (first | exact (Kd.bZ zM.out).2.2 | (with_reducible refine Kd.cY ?_ _) | (with_reducible refine Kd.cX ?_ _) | (with_reducible refine Kd.dM ?_)))
           (case aB => exact (dD HB jC oE))
           (case aF => exact (fun k_ hk => ⟨Kd.OS (Kd.hH (dZ mF.out)) k_ hk, Kd.OS (Kd.hH (dZ zM.out)) k_ hk⟩))
           (case aO => exact (dZ FV.out))
           (case aS => exact (aJ (dD HB jC oE)))
           (case aL => have := LMc22.out; omega);intro bAl w33 ho hb hg hat;rw [← Ny220.out] at ho;have nH := aA.mk (eM (cN cM) hg (Kd.lV FV.out cM.out (by decide)));have nG := aA.mk (eM (cN dI) hg (Kd.lV FV.out dI.out (by decide)));have JK := aA.mk (Kd.DM (ok := (fun k_ => some k_ ≠ (.slice aCK y217.length aCh : Value).ownBlock)) (by (with_reducible repeat first | apply Kd.bG | apply Kd.bF | apply Kd.bK); exact Kd.bN mF.out (fun _ hk => ⟨hk.2, hk.1⟩)) hg hat);have UU := aA.mk (Kd.DM (ok := (fun k_ => some k_ ≠ (.slice pA t209.length mI : Value).ownBlock)) (dZ zM.out) hg hat);have XW := aA.mk (hb);have n5_ := aA.mk (ho);clear cM;clear dI;clear mF;clear zM;clear HB;clear FV;have cM := nH;have dI := nG;have mF := JK;have zM := UU;have HB := XW;have aOm := n5_;clear nH nG JK UU XW n5_;clear ho hb hg hat;obtain ⟨FZ, FF, eo35⟩ := Kd.cH aOm.out
           (first | subst eo35 | (injection eo35 with f1_ f2_ f3_; have f4_ := f1_.symm; have f5_ := f3_.symm; clear f1_ f2_ f3_; subst f4_; subst f5_));refine hK.out _ _ ⟨(aD dI.out 0).trans rfl, (aD dI.out 1).trans rfl, (aD dI.out 2).trans rfl, ((HB.out.cell (World.block_lt_of_cell? w _ sT)).trans sT)⟩ (fun hHeld => ?_);clear hK K;refine sB (a' := ?_) ?_ ?_;rotate_left
           ·show Act.put _ (some 52) _ = _
            simp only [Act.put, cW, cT, cZ, bJ, bM];rfl
           refine cF (i := 10) (N := some 53) (v := ?_) (a' := ?_) #[true, true, true, true, true, true, true, true, true, true, true, false] rfl rfl (bX HT_.out (by kernel_rfl)) (fun _ _ _ h => h) (Or.inl ⟨by rfl, ?_⟩) ?_ ?_;rotate_left
           ·intro w'
            go_simp;(with_reducible rfl)
           rotate_left
           ·simp only [Act.put, cW, cT, cZ, bJ, bM]
            rfl
           refine PV (i := 11) (N := none) #[true, true, true, true, true, true, true, true, true, true, true, true] rfl rfl (iP HT_.out (by kernel_rfl)) (by decide) (fun K hK => ?_);have hs36 : w33.cell? ⟨mD, 2, none⟩ = some (.slice RD eL.length QY) := (aD dI.out 2).trans rfl;have hfs36 := aC dI.out 2;have hns36_0 := tK.out;have hms36_0 := IQ.out;refine JH (w1 := ?_) (by rfl) rfl ?_ ?_;rotate_left
           ·go_simp
            rfl
           refine hK.out _ _ ?_;clear hK K;refine xS (rR HT_.out (by kernel_rfl)) ?_
           try go_wp2
           go_roundg k2
           case measure => have := HJ2.out; have := uN.out; omega
           case rel => exact ⟨(wrap64 (mZ + 1)), (y220), (.slice FZ y220.length FF), kT, H', ⟨by have := HJ2.out; have := uN.out; omega⟩, ⟨by (with_reducible repeat first | apply Kd.bG | apply Kd.bF | apply Kd.bK); exact Kd.bN (Kd.aZ (p := ⟨mD, 2, none⟩) (Kd.bQ aOm.out dI.out (by decide)) (fun _ hk => hk.2) (.slice FZ y220.length FF)) (fun _ hk => trivial)⟩, ⟨by (with_reducible repeat first | apply aE | apply aH | apply aG); refine bE ?_ tK.out _; (with_reducible repeat first | apply aE | apply aH | apply aG); exact cM.out⟩, ⟨by (with_reducible repeat first | apply aE | apply aH | apply aG); refine bA (cs := #[.int .i64 aV, .int .i64 (wrap64 (aT + 1)), .slice RD eL.length QY]) ?_ 2 _ rfl; (with_reducible repeat first | apply aE | apply aH | apply aG); exact dI.out⟩, ⟨dD HB jC oE⟩⟩
          ·rw [if_neg c22] at H
           exact absurd H (by simp)
         ·rw [if_neg NV] at H
          exact absurd H (by simp)
        ·rw [if_neg c20] at H
         exact absurd H (by simp)
       ·rw [if_neg RA] at H
        exact absurd H (by simp)
      ·rw [if_neg KQ] at H
       have YS : decide (mZ < aV) = false := decide_eq_false KQ;clear KQ;replace H := Option.bind_eq_some_iff.mp H;obtain ⟨⟨t223, t224, t225, t228⟩, aTu, H⟩ := H;replace H : (if 0 ≤ aT then (if (aT : Int).toNat ≤ 281474976710656 then (aX.l1 k2 t228 (List.replicate (aT : Int).toNat 0) 0 aV aT bB t223 t224 t225) else (none)) else (none)) = some (r1, r2, r3) := H;have A37 := aA.mk aTu;clear aTu
       by_cases c38 : 0 ≤ aT
       ·rw [if_pos c38] at H
        have aFD := eq_true c38;have aSl : decide (0 ≤ aT) = true := decide_eq_true c38;clear c38
        by_cases c39 : (aT : Int).toNat ≤ 281474976710656
        ·rw [if_pos c39] at H
         have aJZ := eq_true c39;have aSk : decide ((aT : Int).toNat ≤ 281474976710656) = true := decide_eq_true c39;clear c39;obtain ⟨y232, hy232⟩ : ∃ y_ : List Int, y_ = (List.replicate (aT : Int).toNat 0) := ⟨_, rfl⟩
         replace H : (aX.l1 k2 t228 y232 0 aV aT bB t223 t224 t225) = some (r1, r2, r3) := by first | (rw [hy232]; with_reducible exact H) | (have H2_ := (Option.bind_some _ _).symm.trans H; rw [hy232]; with_reducible exact H2_) | (have H2_ := (Option.bind_some _ _).symm.trans H; with_reducible exact H2_) | with_reducible exact H | (rw [hy232]; exact H) | exact H
         have Ny232 := aA.mk hy232;clear hy232;have H' := aA.mk H;clear H;have aRz := tK.out;have aRh := IQ.out;have aFq : wr.cell? ⟨gP, 0, none⟩ = some (.int .i64 aV) := (aD cM.out 0).trans rfl;have aFp : wr.cell? ⟨gP, 1, none⟩ = some (.int .i64 aT) := (aD cM.out 1).trans rfl;have aFo : wr.cell? ⟨gP, 2, none⟩ = some (.slice cL bB.length cK) := (aD cM.out 2).trans rfl;have aEV := aC cM.out 0;have aEU := aC cM.out 1;have aET := aC cM.out 2;have aFn : wr.cell? ⟨mD, 0, none⟩ = some (.int .i64 aV) := (aD dI.out 0).trans rfl;have aFm : wr.cell? ⟨mD, 1, none⟩ = some (.int .i64 (wrap64 (aT + 1))) := (aD dI.out 1).trans rfl;have aFl : wr.cell? ⟨mD, 2, none⟩ = some (RJ) := (aD dI.out 2).trans rfl;have aES := aC dI.out 0;have aER := aC dI.out 1;have aEQ := aC dI.out 2;obtain ⟨AG, AB, eo43⟩ := Kd.cH eO.out;subst eo43;go_wp2_with (first | ((with_reducible refine bD (f := 86) rfl ?_); refine cQ (some 56) rfl rfl Try.func86 (by kernel_rfl) rfl #[.agg #[.int .i64 aV, .int .i64 (wrap64 (aT + 1)), .slice AG eL.length AB]] rfl kR ?_; (with_reducible refine (aM.calls k2 aV (wrap64 (aT + 1)) (fun k_ => some k_ = (.slice AG eL.length AB : Value).ownBlock) (.slice AG eL.length AB) eL t223 t224 t225 t228 w _ ?side1 ?side2 A37.out).mono ?_); (case side1 => repeat (first | (with_reducible first | exact HB.out | apply gG | apply gI | apply dY | refine eD ?_ jC.out | refine eD ?_ oE.out) | exact HB.out)); (case side2 => exact Kd.aNf rfl eO.out); rintro e w44 ⟨v226, v229, rfl, ho0, ho1, hb, hkp⟩; refine ⟨_, rfl, ?_⟩; have nH := aA.mk (aCx (gW cM.out) hkp (fun hs_ => (fun e_ => (Kd.lV eO.out cM.out (by decide)) e_) hs_)); have nG := aA.mk (aCx (gW dI.out) hkp (fun hs_ => (fun e_ => (Kd.lV eO.out dI.out (by decide)) e_) hs_)); have JK := aA.mk (Kd.bN (ok' := fun k_ => True) ho0 (fun k_ hk_ => trivial)); have UU := aA.mk (Kd.bN (ok' := fun k_ => True) ho1 (fun k_ hk_ => trivial)); have XW := aA.mk (hb); clear cM dI; clear HB eO; have cM := nH; have dI := nG; have WD := JK; have aCD := UU; have HB := XW; clear nH nG JK UU XW; (try clear hb); (try clear hkp); (try clear ho0); (try clear ho1)) | ((with_reducible refine bR (N := 11) rfl ?_); (try (refine jN (by rfl) ?_; dsimp only)); refine bL ?hg (N := 11) ?hd (cs := #[.int .i64 0, .int .i64 0, .slice none 0 0]) (t := 24) ?hr ?_; (case hd => rfl); (case hg => rfl); (case hr => first | (go_simp; done) | (go_simp; rfl)); intro qL hg w45 hbox hb; replace WD := aA.mk (Kd.bW (dZ WD.out) hb); replace aCD := aA.mk (Kd.bW (dZ aCD.out) hb); have jX := aA.mk (hbox); have aZw := aA.mk ((by rw [hg]; exact (aJ (dD HB jC oE)) : w.heap.size ≤ qL)); have WG := aA.mk ((by rw [hg]; exact (aJ (dD HB jC oE)) : w.heap.size ≤ qL)); replace HB := aA.mk (aN (dD HB jC oE) hb); have IS := aA.mk ((by rw [hg]; exact Nat.ne_of_lt (bV (cN cM)) : gP ≠ qL)); have aHY := aA.mk ((by rw [hg]; exact Nat.ne_of_gt (bV (cN cM)) : qL ≠ gP)); replace cM := aA.mk (aK (cN cM) hb); have IP := aA.mk ((by rw [hg]; exact Nat.ne_of_lt (bV (cN dI)) : mD ≠ qL)); have aHX := aA.mk ((by rw [hg]; exact Nat.ne_of_gt (bV (cN dI)) : qL ≠ mD)); replace dI := aA.mk (aK (cN dI) hb); clear hb hbox hg; have aRw := aHY.out; have aRe := IS.out; have aND := aHX.out; have aNv := IP.out; have aAH : w45.cell? ⟨qL, 0, none⟩ = some (.int .i64 0) := (aD jX.out 0).trans rfl; have aAG : w45.cell? ⟨qL, 1, none⟩ = some (.int .i64 0) := (aD jX.out 1).trans rfl; have aAF : w45.cell? ⟨qL, 2, none⟩ = some (.slice none 0 0) := (aD jX.out 2).trans rfl; have aAy := aC jX.out 0; have aAx := aC jX.out 1; have aAw := aC jX.out 2; obtain ⟨aBh, aAR, eo49⟩ := Kd.cH WD.out; subst eo49; have aMB : w45.cell? ⟨gP, 0, none⟩ = some (.int .i64 aV) := (aD cM.out 0).trans rfl; have aMA : w45.cell? ⟨gP, 1, none⟩ = some (.int .i64 aT) := (aD cM.out 1).trans rfl; have aMz : w45.cell? ⟨gP, 2, none⟩ = some (.slice cL bB.length cK) := (aD cM.out 2).trans rfl; have aMd := aC cM.out 0; have aMc := aC cM.out 1; have aMb := aC cM.out 2) | ((with_reducible refine bR (N := 61) rfl ?_); (try (refine jN (by rfl) ?_; dsimp only)); refine Kd.aBg (Kd.int .u8) _ 5 rfl (N := 61) rfl 22 _ _ rfl aT rfl rfl Try.underlying22 (.int .u8 0) 1 xI rfl (by decide) (by omega) 0 (ok := fun _ => True) (okp := fun _ => True) rfl (fun _ hk => hk) trivial (of_decide_eq_true sJ) (Nat.le_trans (Nat.mul_le_mul_right _ (of_decide_eq_true sJ : aT.toNat ≤ 281474976710656)) (by omega)) (Below.refl _ _) (Nat.le_refl _) ?_; intro v233 w51 ho52 hb hg_ hnew_; clear hg_ hnew_; (first | rw [← Ny232.out] at ho52 | (simp only [Int.reduceToNat] at ho52; rw [← Ny232.out] at ho52)); replace aCD := aA.mk (Kd.bW (by (with_reducible repeat first | apply Kd.bG | apply Kd.bF | apply Kd.bK); exact (Kd.bN (Kd.aZ (p := ⟨qL, 2, none⟩) (Kd.aZ (p := ⟨qL, 1, none⟩) (Kd.aZ (p := ⟨qL, 0, none⟩) (Kd.bQ aCD.out jX.out (by decide)) (fun _ hk => hk.2) (.int .i64 t223)) (fun _ hk => hk.2) (.int .i64 t224)) (fun _ hk => hk.2) (.slice aBh t225.length aAR)) (fun _ h_ => h_.1))) hb); have aSL := aA.mk (Kd.dE (Kd.dU ho52 (Kd.hH (by (with_reducible repeat first | apply Kd.bG | apply Kd.bF | apply Kd.bK); exact (Kd.bN (Kd.aZ (p := ⟨qL, 2, none⟩) (Kd.aZ (p := ⟨qL, 1, none⟩) (Kd.aZ (p := ⟨qL, 0, none⟩) (Kd.bQ WD.out jX.out (by decide)) (fun _ hk => hk.2) (.int .i64 t223)) (fun _ hk => hk.2) (.int .i64 t224)) (fun _ hk => hk.2) (.slice aBh t225.length aAR)) (fun _ h_ => h_.1))))) (aJ (gL HB jC oE WG))); replace WD := aA.mk (Kd.cO (by (with_reducible repeat first | apply Kd.bG | apply Kd.bF | apply Kd.bK); exact (Kd.bN (Kd.aZ (p := ⟨qL, 2, none⟩) (Kd.aZ (p := ⟨qL, 1, none⟩) (Kd.aZ (p := ⟨qL, 0, none⟩) (Kd.bQ WD.out jX.out (by decide)) (fun _ hk => hk.2) (.int .i64 t223)) (fun _ hk => hk.2) (.int .i64 t224)) (fun _ hk => hk.2) (.slice aBh t225.length aAR)) (fun _ h_ => h_.1))) (Kd.dV ho52) hb); replace cM := aA.mk (aK (g := gP) (o := .cells #[.int .i64 aV, .int .i64 aT, .slice cL bB.length cK] 24 (0, 0)) (by (with_reducible repeat first | apply aE | apply aH | apply aG); refine bE ?_ IS.out _; (with_reducible repeat first | apply aE | apply aH | apply aG); refine bE ?_ IS.out _; (with_reducible repeat first | apply aE | apply aH | apply aG); refine bE ?_ IS.out _; (with_reducible repeat first | apply aE | apply aH | apply aG); exact cM.out) hb); replace dI := aA.mk (aK (g := mD) (o := .cells #[.int .i64 aV, .int .i64 (wrap64 (aT + 1)), .slice AG eL.length AB] 24 (0, 0)) (by (with_reducible repeat first | apply aE | apply aH | apply aG); refine bE ?_ IP.out _; (with_reducible repeat first | apply aE | apply aH | apply aG); refine bE ?_ IP.out _; (with_reducible repeat first | apply aE | apply aH | apply aG); refine bE ?_ IP.out _; (with_reducible repeat first | apply aE | apply aH | apply aG); exact dI.out) hb); replace jX := aA.mk (aK (g := qL) (o := .cells #[.int .i64 t223, .int .i64 t224, .slice aBh t225.length aAR] 24 (0, 0)) (by (with_reducible repeat first | apply aE | apply aH | apply aG); refine bA (cs := #[.int .i64 t223, .int .i64 t224, .slice none 0 0]) ?_ 2 _ rfl; (with_reducible repeat first | apply aE | apply aH | apply aG); refine bA (cs := #[.int .i64 t223, .int .i64 0, .slice none 0 0]) ?_ 1 _ rfl; (with_reducible repeat first | apply aE | apply aH | apply aG); refine bA (cs := #[.int .i64 0, .int .i64 0, .slice none 0 0]) ?_ 0 _ rfl; (with_reducible repeat first | apply aE | apply aH | apply aG); exact jX.out) hb); replace HB := aA.mk (aN (gL HB jC oE WG) hb); clear hb ho52))
         go_loopg [14] k2 (fun kq v14 w' => ∃ (KY : List Int) (fO : Int), v14 = .int .i64 fO ∧ aA (aX.l1 kq t228 KY fO aV aT bB t223 t224 t225 = some (r1, r2, r3)) ∧ aA (kq ≤ k2) ∧ aA (Kd.R (Kd.int .i64) 3 w' w.heap.size (fun _ => True) v229 t228) ∧ aA (Kd.R (Kd.int .u8) 5 w' w.heap.size (fun k_ => some k_ ≠ ((.slice aBh t225.length aAR) : Value).ownBlock) v233 KY) ∧ aA (Kd.R (Kd.int .u8) 5 w' w.heap.size (fun k_ => some k_ ≠ (v233 : Value).ownBlock) (.slice aBh t225.length aAR) t225) ∧ aA (w'.heap[gP]? = some (.cells #[.int .i64 aV, .int .i64 aT, (.slice cL bB.length cK)] 24 (0, 0))) ∧ aA (w'.heap[mD]? = some (.cells #[.int .i64 aV, .int .i64 (wrap64 (aT + 1)), (.slice AG eL.length AB)] 24 (0, 0))) ∧ aA (w'.heap[qL]? = some (.cells #[.int .i64 t223, .int .i64 t224, (.slice aBh t225.length aAR)] 24 (0, 0))) ∧ aA (Below w.heap.size w w'))
         case atStart => exact ⟨(y232), (0), kT, H', ⟨Nat.le_refl _⟩, ⟨dZ aCD.out⟩, ⟨by (with_reducible repeat first | apply Kd.bG | apply Kd.bF | apply Kd.bK); exact Kd.bN aSL.out (fun _ hk => hk.2)⟩, ⟨by (with_reducible repeat first | apply Kd.bG | apply Kd.bF | apply Kd.bK); exact Kd.bN WD.out (fun _ hk => hk.2)⟩, ⟨gW cM.out⟩, ⟨gW dI.out⟩, ⟨gW jX.out⟩, ⟨gL HB jC oE WG⟩⟩
         case round =>
          clear H';(try clear c1);(try clear c2);(try clear p2);(try clear q2);(try clear hx2);(try clear c3);(try clear c4);(try clear c5);(try clear c6);(try clear p6);(try clear c8);(try clear uJ);(try clear YT);(try clear KQ);(try clear YS);(try clear RA);(try clear c20);(try clear aSp);(try clear NV);(try clear YQ);(try clear p21);(try clear q21);(try clear hx21);(try clear c22);(try clear c23);(try clear c38);(try clear aFD);(try clear aSl);(try clear c39);(try clear aJZ);(try clear aSk);(try clear c40);(try clear c46);(try clear c47);(try clear lQ);(try clear lP);(try clear lO);(try clear mX);(try clear mW);(try clear mU);(try clear mT);(try clear mS);(try clear mR);(try clear TJ);(try clear TI);(try clear TH);(try clear aFq);(try clear aFp);(try clear aFo);(try clear aFn);(try clear aFm);(try clear aFl);(try clear aAH);(try clear aAG);(try clear aAF);(try clear aMB);(try clear aMA);(try clear aMz);(try clear nS);(try clear nR);(try clear nQ);(try clear FB);(try clear FA);(try clear EZ);(try clear lN);(try clear lL);(try clear lK);(try clear mQ);(try clear mP);(try clear mO);(try clear mN);(try clear mM);(try clear mL);(try clear SK);(try clear SJ);(try clear SI);(try clear aEV);(try clear aEU);(try clear aET);(try clear aES);(try clear aER)
          (try clear aEQ);(try clear aAy);(try clear aAx);(try clear aAw);(try clear aMd);(try clear aMc);(try clear aMb);(try clear nP);(try clear nO);(try clear nN);(try clear EY);(try clear EX);(try clear EW);(try clear hx216_0);(try clear p2);(try clear aLy);(try clear p6);(try clear q216);obtain ⟨KY, fO, rfl, HA, FW, uL, uK, jJ, cM, dI, jX, HB⟩ := hrel
          cases gk with
          | zero => exact absurd HA.out (by simp [aX.l1])
          | succ k3 =>
           have H := HA.out;clear HA;simp only [aX.l1] at H
           by_cases PE : fO < (t228.length : Int)
           ·rw [if_pos PE] at H
            have DU : decide (fO < (t228.length : Int)) = true := decide_eq_true PE;clear PE
            by_cases c54 : 0 ≤ fO
            ·rw [if_pos c54] at H
             have aYF : decide (0 ≤ fO) = true := decide_eq_true c54;clear c54
             by_cases c55 : (rd t228 fO) = aT
             ·rw [if_pos c55] at H
              have aNT : ((rd t228 fO) == aT) = true := beq_iff_eq.mpr c55;have aSh : ((rd t228 fO) != aT) = false := bne_eq_false_iff_eq.mpr c55;clear c55;simp only [Option.some.injEq, Prod.mk.injEq] at H;obtain ⟨rfl, rfl, rfl⟩ := H;obtain ⟨bBh, bAJ, eo56⟩ := Kd.cH uL.out;subst eo56
              try go_wp2
              replace uL := aA.mk (Kd.bK uL.out);replace uK := aA.mk (Kd.bK uK.out);replace jJ := aA.mk (Kd.bK jJ.out);replace cM := aA.mk (aH cM.out);replace dI := aA.mk (aH dI.out);replace jX := aA.mk (aH jX.out);replace HB := aA.mk (dY HB.out);have aDr : 0 ≤ (fO : Int) := of_decide_eq_true sJ;have q235 : fO < (t228.length : Int) := of_decide_eq_true sJ;obtain ⟨ad235, e235, hx235_0⟩ := Kd.uE (Kd.bZ uL.out).2.2 fO aDr q235
              cases e235
              replace aDr := eq_true aDr;replace q235 := eq_true q235;refine sV (n := 7) (S := fun w' => w'.cell? ⟨gP, 0, none⟩ = some (.int .i64 aV) ∧ w'.cell? ⟨gP, 1, none⟩ = some (.int .i64 aT) ∧ w'.cell? ⟨gP, 2, none⟩ = some (.slice cL bB.length cK) ∧ w'.cell? (ad235.add (fO).toNat) = some (.int .i64 (rd t228 fO))) (ds := []) #[false, false, false, false, false, false, false] (by kernel_rfl) rfl rfl ⟨(aD cM.out 0).trans rfl, (aD cM.out 1).trans rfl, (aD cM.out 2).trans rfl, hx235_0⟩ (fun hHeld => ?_);generalize wr.drew = w57 at uL uK jJ cM dI jX HB hx235_0 hHeld ⊢;refine cF (i := 0) (N := some 68) (v := ?_) (a' := ?_) #[true, false, false, false, false, false, false] rfl rfl (by kernel_rfl) (fun _ _ _ h => h) (Or.inl ⟨by rfl, ?_⟩) ?_ ?_;rotate_left
              ·intro w'
               go_simp;(with_reducible rfl)
              rotate_left
              ·simp only [Act.put, cW, cT, cZ, bJ, bM]
               rfl
              refine cF (i := 1) (N := some 69) (v := ?_) (a' := ?_) #[true, true, false, false, false, false, false] rfl rfl (by kernel_rfl) (fun _ _ _ h => h) (Or.inl ⟨by rfl, ?_⟩) ?_ ?_;rotate_left
              ·intro w'
               go_simp;(with_reducible rfl)
              rotate_left
              ·simp only [Act.put, cW, cT, cZ, bJ, bM]
               rfl
              refine cF (i := 2) (N := some 70) (v := ?_) (a' := ?_) #[true, true, true, false, false, false, false] rfl rfl (by kernel_rfl) (fun _ _ _ h => h) (Or.inl ⟨by rfl, ?_⟩) ?_ ?_;rotate_left
              ·intro w'
               go_simp;(with_reducible rfl)
              rotate_left
              ·simp only [Act.put, cW, cT, cZ, bJ, bM]
               rfl
              refine cF (i := 4) (N := some 72) (v := ?_) (a' := ?_) #[true, true, true, false, true, false, false] rfl rfl (by kernel_rfl) (fun _ _ _ h => h) (Or.inl ⟨by rfl, ?_⟩) ?_ ?_;rotate_left
              ·intro w'
               go_simp;(with_reducible rfl)
              rotate_left
              ·simp only [Act.put, cW, cT, cZ, bJ, bM]
               rfl
              refine fW (i := 3) (N := some 71) (v := ?_) (a' := ?_) #[true, true, true, true, true, false, false] rfl rfl (by kernel_rfl) (fun _ _ _ h => h) (Or.inl ⟨by rfl, ?_⟩) hHeld ?_ ?_;rotate_left
              ·rintro w' ⟨s0, s1, s2, s3⟩
               go_simp;(with_reducible rfl)
              rotate_left
              ·simp only [Act.put, cW, cT, cZ, bJ, bM]
               rfl
              refine fW (i := 5) (N := some 73) (v := ?_) (a' := ?_) #[true, true, true, true, true, true, false] rfl rfl (by kernel_rfl) (fun _ _ _ h => h) (Or.inl ⟨by rfl, ?_⟩) hHeld ?_ ?_;rotate_left
              ·rintro w' ⟨s0, s1, s2, s3⟩
               go_simp;(with_reducible rfl)
              rotate_left
              ·simp only [Act.put, cW, cT, cZ, bJ, bM]
               rfl
              refine cF (i := 6) (N := some 74) (v := ?_) (a' := ?_) #[true, true, true, true, true, true, true] rfl rfl (by kernel_rfl) (fun _ _ _ h => h) (Or.inl ⟨by rfl, ?_⟩) ?_ ?_;rotate_left
              ·intro w'
               go_simp;(with_reducible rfl)
              rotate_left
              ·simp only [Act.put, cW, cT, cZ, bJ, bM]
               rfl
              refine xS (by kernel_rfl) ?_
              try go_wp2
              go_ret3
              exact ⟨_, tZ, IW, gL HB jC oE WG⟩
             ·rw [if_neg c55] at H
              have aNT : ((rd t228 fO) == aT) = false := beq_eq_false_iff_ne.mpr c55;have aSh : ((rd t228 fO) != aT) = true := bne_iff_ne.mpr c55;replace H := Option.bind_eq_some_iff.mp H;obtain ⟨t237, aTp, H⟩ := H;replace H : (if 0 ≤ (rd t228 fO) then (if (rd t228 fO) < (KY.length : Int) then (aX.l1 k3 t228 (KY.set ((rd t228 fO) : Int).toNat t237) (wrap64 (fO + 1)) aV aT bB t223 t224 t225) else (none)) else (none)) = some (r1, r2, r3) := H;have A58 := aA.mk aTp;clear aTp
              by_cases c59 : 0 ≤ (rd t228 fO)
              ·rw [if_pos c59] at H
               have aYD : decide (0 ≤ (rd t228 fO)) = true := decide_eq_true c59;clear c59
               by_cases c60 : (rd t228 fO) < (KY.length : Int)
               ·rw [if_pos c60] at H
                have aNS : decide ((rd t228 fO) < (KY.length : Int)) = true := decide_eq_true c60;clear c60;obtain ⟨y238, hy238⟩ : ∃ y_ : List Int, y_ = (KY.set ((rd t228 fO) : Int).toNat t237) := ⟨_, rfl⟩
                replace H : (aX.l1 k3 t228 y238 (wrap64 (fO + 1)) aV aT bB t223 t224 t225) = some (r1, r2, r3) := by first | (rw [hy238]; with_reducible exact H) | (have H2_ := (Option.bind_some _ _).symm.trans H; rw [hy238]; with_reducible exact H2_) | (have H2_ := (Option.bind_some _ _).symm.trans H; with_reducible exact H2_) | with_reducible exact H | (rw [hy238]; exact H) | exact H
                have Ny238 := aA.mk hy238;clear hy238;have H' := aA.mk H;clear H;obtain ⟨aXn, aXb, eo62⟩ := Kd.cH uL.out;subst eo62
                try go_wp2
                replace uL := aA.mk (Kd.bK uL.out);replace uK := aA.mk (Kd.bK uK.out);replace jJ := aA.mk (Kd.bK jJ.out);replace cM := aA.mk (aH cM.out);replace dI := aA.mk (aH dI.out);replace jX := aA.mk (aH jX.out);replace HB := aA.mk (dY HB.out);have aDr : 0 ≤ (fO : Int) := of_decide_eq_true sJ;have q235 : fO < (t228.length : Int) := of_decide_eq_true sJ;obtain ⟨ad235, e235, hx235_0⟩ := Kd.uE (Kd.bZ uL.out).2.2 fO aDr q235
                cases e235
                replace aDr := eq_true aDr;replace q235 := eq_true q235;refine sV (n := 7) (S := fun w' => w'.cell? ⟨gP, 0, none⟩ = some (.int .i64 aV) ∧ w'.cell? ⟨gP, 1, none⟩ = some (.int .i64 aT) ∧ w'.cell? ⟨gP, 2, none⟩ = some (.slice cL bB.length cK) ∧ w'.cell? (ad235.add (fO).toNat) = some (.int .i64 (rd t228 fO))) (ds := []) #[false, false, false, false, false, false, false] (by kernel_rfl) rfl rfl ⟨(aD cM.out 0).trans rfl, (aD cM.out 1).trans rfl, (aD cM.out 2).trans rfl, hx235_0⟩ (fun hHeld => ?_);generalize wr.drew = w63 at uL uK jJ cM dI jX HB hx235_0 hHeld ⊢;refine cF (i := 0) (N := some 68) (v := ?_) (a' := ?_) #[true, false, false, false, false, false, false] rfl rfl (by kernel_rfl) (fun _ _ _ h => h) (Or.inl ⟨by rfl, ?_⟩) ?_ ?_;rotate_left
                ·intro w'
                 go_simp;(with_reducible rfl)
                rotate_left
                ·simp only [Act.put, cW, cT, cZ, bJ, bM]
                 rfl
                refine cF (i := 1) (N := some 69) (v := ?_) (a' := ?_) #[true, true, false, false, false, false, false] rfl rfl (by kernel_rfl) (fun _ _ _ h => h) (Or.inl ⟨by rfl, ?_⟩) ?_ ?_;rotate_left
                ·intro w'
                 go_simp;(with_reducible rfl)
                rotate_left
                ·simp only [Act.put, cW, cT, cZ, bJ, bM]
                 rfl
                refine cF (i := 2) (N := some 70) (v := ?_) (a' := ?_) #[true, true, true, false, false, false, false] rfl rfl (by kernel_rfl) (fun _ _ _ h => h) (Or.inl ⟨by rfl, ?_⟩) ?_ ?_;rotate_left
                ·intro w'
                 go_simp;(with_reducible rfl)
                rotate_left
                ·simp only [Act.put, cW, cT, cZ, bJ, bM]
                 rfl
                refine cF (i := 4) (N := some 72) (v := ?_) (a' := ?_) #[true, true, true, false, true, false, false] rfl rfl (by kernel_rfl) (fun _ _ _ h => h) (Or.inl ⟨by rfl, ?_⟩) ?_ ?_;rotate_left
                ·intro w'
                 go_simp;(with_reducible rfl)
                rotate_left
                ·simp only [Act.put, cW, cT, cZ, bJ, bM]
                 rfl
                refine fW (i := 3) (N := some 71) (v := ?_) (a' := ?_) #[true, true, true, true, true, false, false] rfl rfl (by kernel_rfl) (fun _ _ _ h => h) (Or.inl ⟨by rfl, ?_⟩) hHeld ?_ ?_;rotate_left
                ·rintro w' ⟨s0, s1, s2, s3⟩
                 go_simp;(with_reducible rfl)
                rotate_left
                ·simp only [Act.put, cW, cT, cZ, bJ, bM]
                 rfl
                refine fW (i := 5) (N := some 73) (v := ?_) (a' := ?_) #[true, true, true, true, true, true, false] rfl rfl (by kernel_rfl) (fun _ _ _ h => h) (Or.inl ⟨by rfl, ?_⟩) hHeld ?_ ?_;rotate_left
                ·rintro w' ⟨s0, s1, s2, s3⟩
                 go_simp;(with_reducible rfl)
                rotate_left
                ·simp only [Act.put, cW, cT, cZ, bJ, bM]
                 rfl
                refine cF (i := 6) (N := some 74) (v := ?_) (a' := ?_) #[true, true, true, true, true, true, true] rfl rfl (by kernel_rfl) (fun _ _ _ h => h) (Or.inl ⟨by rfl, ?_⟩) ?_ ?_;rotate_left
                ·intro w'
                 go_simp;(with_reducible rfl)
                rotate_left
                ·simp only [Act.put, cW, cT, cZ, bJ, bM]
                 rfl
                refine xS (by kernel_rfl) ?_
                try go_wp2
                replace uL := aA.mk (Kd.bK uL.out);replace uK := aA.mk (Kd.bK uK.out);replace jJ := aA.mk (Kd.bK jJ.out);replace cM := aA.mk (aH cM.out);replace dI := aA.mk (aH dI.out);replace jX := aA.mk (aH jX.out);replace HB := aA.mk (dY HB.out);have aPe : 0 ≤ (fO : Int) := of_decide_eq_true sJ;have q236 : fO < (t228.length : Int) := of_decide_eq_true sJ;obtain ⟨ad236, e236, hx236_0⟩ := Kd.uE (Kd.bZ uL.out).2.2 fO aPe q236;obtain rfl : ad235 = ad236 := (by injection e236)
                replace aPe := eq_true aPe;replace q236 := eq_true q236;refine sV (n := 12) (S := fun w' => w'.cell? ⟨qL, 0, none⟩ = some (.int .i64 t223) ∧ w'.cell? ⟨qL, 1, none⟩ = some (.int .i64 t224) ∧ w'.cell? ⟨qL, 2, none⟩ = some (.slice aBh t225.length aAR) ∧ w'.cell? ⟨gP, 0, none⟩ = some (.int .i64 aV) ∧ w'.cell? ⟨gP, 1, none⟩ = some (.int .i64 aT) ∧ w'.cell? ⟨gP, 2, none⟩ = some (.slice cL bB.length cK) ∧ w'.cell? (ad235.add (fO).toNat) = some (.int .i64 (rd t228 fO))) (ds := [11]) #[false, false, false, false, false, false, false, false, false, false, false, false] (by kernel_rfl) rfl rfl ⟨(aD jX.out 0).trans rfl, (aD jX.out 1).trans rfl, (aD jX.out 2).trans rfl, (aD cM.out 0).trans rfl, (aD cM.out 1).trans rfl, (aD cM.out 2).trans rfl, hx236_0⟩ (fun hHeld => ?_); refine kB aX.aIn aX.aDO (fun HT_ HW_ => ?_);generalize w63.drew = w64 at uL uK jJ cM dI jX HB hx236_0 hHeld ⊢;refine cF (i := 0) (N := some 75) (v := ?_) (a' := ?_) #[true, false, false, false, false, false, false, false, false, false, false, false] rfl rfl (bX HT_.out (by kernel_rfl)) (fun _ _ _ h => h) (Or.inl ⟨by rfl, ?_⟩) ?_ ?_;rotate_left
                ·intro w'
                 go_simp;(with_reducible rfl)
                rotate_left
                ·simp only [Act.put, cW, cT, cZ, bJ, bM]
                 rfl
                refine cF (i := 1) (N := some 76) (v := ?_) (a' := ?_) #[true, true, false, false, false, false, false, false, false, false, false, false] rfl rfl (bX HT_.out (by kernel_rfl)) (fun _ _ _ h => h) (Or.inl ⟨by rfl, ?_⟩) ?_ ?_;rotate_left
                ·intro w'
                 go_simp;(with_reducible rfl)
                rotate_left
                ·simp only [Act.put, cW, cT, cZ, bJ, bM]
                 rfl
                refine cF (i := 2) (N := some 77) (v := ?_) (a' := ?_) #[true, true, true, false, false, false, false, false, false, false, false, false] rfl rfl (bX HT_.out (by kernel_rfl)) (fun _ _ _ h => h) (Or.inl ⟨by rfl, ?_⟩) ?_ ?_;rotate_left
                ·intro w'
                 go_simp;(with_reducible rfl)
                rotate_left
                ·simp only [Act.put, cW, cT, cZ, bJ, bM]
                 rfl
                refine cF (i := 3) (N := some 78) (v := ?_) (a' := ?_) #[true, true, true, true, false, false, false, false, false, false, false, false] rfl rfl (bX HT_.out (by kernel_rfl)) (fun _ _ _ h => h) (Or.inl ⟨by rfl, ?_⟩) ?_ ?_;rotate_left
                ·intro w'
                 go_simp;(with_reducible rfl)
                rotate_left
                ·simp only [Act.put, cW, cT, cZ, bJ, bM]
                 rfl
                refine cF (i := 6) (N := some 81) (v := ?_) (a' := ?_) #[true, true, true, true, false, false, true, false, false, false, false, false] rfl rfl (bX HT_.out (by kernel_rfl)) (fun _ _ _ h => h) (Or.inl ⟨by rfl, ?_⟩) ?_ ?_;rotate_left
                ·intro w'
                 go_simp;(with_reducible rfl)
                rotate_left
                ·simp only [Act.put, cW, cT, cZ, bJ, bM]
                 rfl
                refine cF (i := 7) (N := some 82) (v := ?_) (a' := ?_) #[true, true, true, true, false, false, true, true, false, false, false, false] rfl rfl (bX HT_.out (by kernel_rfl)) (fun _ _ _ h => h) (Or.inl ⟨by rfl, ?_⟩) ?_ ?_;rotate_left
                ·intro w'
                 go_simp;(with_reducible rfl)
                rotate_left
                ·simp only [Act.put, cW, cT, cZ, bJ, bM]
                 rfl
                refine fW (i := 4) (N := some 79) (v := ?_) (a' := ?_) #[true, true, true, true, true, false, true, true, false, false, false, false] rfl rfl (dQ HT_.out HW_.out (by kernel_rfl)) (fun _ _ _ h => h) (Or.inl ⟨by rfl, ?_⟩) hHeld ?_ ?_;rotate_left
                ·rintro w' ⟨s0, s1, s2, s3, s4, s5, s6⟩
                 go_simp;(with_reducible rfl)
                rotate_left
                ·simp only [Act.put, cW, cT, cZ, bJ, bM]
                 rfl
                refine fW (i := 5) (N := some 80) (v := ?_) (a' := ?_) #[true, true, true, true, true, true, true, true, false, false, false, false] rfl rfl (dQ HT_.out HW_.out (by kernel_rfl)) (fun _ _ _ h => h) (Or.inl ⟨by rfl, ?_⟩) hHeld ?_ ?_;rotate_left
                ·rintro w' ⟨s0, s1, s2, s3, s4, s5, s6⟩
                 go_simp;(with_reducible rfl)
                rotate_left
                ·simp only [Act.put, cW, cT, cZ, bJ, bM]
                 rfl
                refine fW (i := 8) (N := some 83) (v := ?_) (a' := ?_) #[true, true, true, true, true, true, true, true, true, false, false, false] rfl rfl (dQ HT_.out HW_.out (by kernel_rfl)) (fun _ _ _ h => h) (Or.inl ⟨by rfl, ?_⟩) hHeld ?_ ?_;rotate_left
                ·rintro w' ⟨s0, s1, s2, s3, s4, s5, s6⟩
                 go_simp;(with_reducible rfl)
                rotate_left
                ·simp only [Act.put, cW, cT, cZ, bJ, bM]
                 rfl
                refine AV (i := 9) (N := some 84) #[true, true, true, true, true, true, true, true, true, true, false, false] rfl rfl (iP HT_.out (by kernel_rfl)) (by decide) (fun K hK => ?_);refine AX Try.func25 (by kernel_rfl) rfl #[.agg #[.int .i64 t223, .int .i64 t224, .slice aBh t225.length aAR], .int .i64 fO, .int .i64 aT] (by rfl) rfl rfl kR ?_
                with_reducible refine (cJ.calls t223 t224 _ _ t225 fO aT t237 _ ?side1 ?side2 A58.out).mono ?_
                (case side1 => repeat (first | exact (Kd.bZ jJ.out).2.2 | (with_reducible refine Kd.cY ?_ _) | (with_reducible refine Kd.cX ?_ _) | (with_reducible refine Kd.dM ?_)))
                (case side2 => exact (Kd.bZ jJ.out).2.1);rintro e w65 ⟨rfl, hb⟩;have HS6_ := (hb.cell (World.block_lt_of_cell? _ _ (hHeld.2.2.2.2.2.2))).trans (hHeld.2.2.2.2.2.2);refine ⟨_, rfl, ?_⟩;replace uL := aA.mk (Kd.bW (dZ uL.out) hb);replace uK := aA.mk (Kd.bW (dZ uK.out) hb);replace jJ := aA.mk (Kd.bW (dZ jJ.out) hb);replace cM := aA.mk (aK (cN cM) hb);replace dI := aA.mk (aK (cN dI) hb);replace jX := aA.mk (aK (cN jX) hb);replace HB := aA.mk (aN (gL HB jC oE WG) hb);(try clear hb);(try clear hb2);(try clear hk);(try clear hi);have p61 : 0 ≤ ((rd t228 fO) : Int) := of_decide_eq_true sJ;have q61 : ((rd t228 fO) : Int) < ((KY.length : Int) : Int) := of_decide_eq_true sJ;obtain ⟨go61, bAI, eo61, aRK, gl61, cl61, HG61⟩ := Kd.AE uK.out (by omega)
                (first | cases eo61 | (injection eo61 with ea_ en_ ec_; (first | subst ea_ | (injection ea_ with ea_; subst ea_)); subst ec_; clear en_));have GB61 := aA.mk aRK;have GG61 := aA.mk HG61;clear aRK gl61 HG61;obtain ⟨hx61_0, hf61_0⟩ := Kd.rS 0 uK.out ((rd t228 fO) : Int) p61 q61;replace p61 := eq_true p61;replace q61 := eq_true q61;have HP66 := Kd.KM uK.out ((rd t228 fO) : Int) t237;rw [← Ny238.out] at HP66;have HQ66 := aA.mk HP66;clear HP66;refine hK.out _ _ ⟨(aD jX.out 0).trans rfl, (aD jX.out 1).trans rfl, (aD jX.out 2).trans rfl, (aD cM.out 0).trans rfl, (aD cM.out 1).trans rfl, (aD cM.out 2).trans rfl, HS6_⟩ (fun hHeld => ?_);clear hK K;refine sB (a' := ?_) ?_ ?_;rotate_left
                ·show Act.put _ (some 84) _ = _
                 simp only [Act.put, cW, cT, cZ, bJ, bM];rfl
                refine cF (i := 10) (N := some 85) (v := ?_) (a' := ?_) #[true, true, true, true, true, true, true, true, true, true, true, false] rfl rfl (bX HT_.out (by kernel_rfl)) (fun _ _ _ h => h) (Or.inl ⟨by rfl, ?_⟩) ?_ ?_;rotate_left
                ·intro w'
                 go_simp;(with_reducible rfl)
                rotate_left
                ·simp only [Act.put, cW, cT, cZ, bJ, bM]
                 rfl
                refine PV (i := 11) (N := none) #[true, true, true, true, true, true, true, true, true, true, true, true] rfl rfl (iP HT_.out (by kernel_rfl)) (by decide) (fun K hK => ?_);refine JH (w1 := ?_) (by rfl) rfl ?_ ?_;rotate_left
                ·go_simp
                 rfl
                refine hK.out _ _ ?_;clear hK K;refine xS (rR HT_.out (by kernel_rfl)) ?_
                try go_wp2
                go_roundg k3
                case measure => have := HJ2.out; have := uN.out; have := FW.out; omega
                case rel => exact ⟨(y238), (wrap64 (fO + 1)), kT, H', ⟨by have := HJ2.out; have := uN.out; have := FW.out; omega⟩, ⟨by (with_reducible repeat first | apply Kd.bG | apply Kd.bF | apply Kd.bK); exact Kd.bN (Kd.aZ (p := ⟨go61, ((rd t228 fO) : Int).toNat, none⟩) (Kd.bQ uL.out GG61.out (by decide)) (fun _ hk => hk.2) (.int .u8 t237)) (fun _ hk => trivial)⟩, ⟨dZ HQ66.out⟩, ⟨by (with_reducible repeat first | apply Kd.bG | apply Kd.bF | apply Kd.bK); exact Kd.bN (Kd.aZ (p := ⟨go61, ((rd t228 fO) : Int).toNat, none⟩) (Kd.bN jJ.out (fun k_ hk => (⟨hk, fun e_ => hk (by rw [e_]; rfl)⟩ : _ ∧ k_ ≠ go61))) (fun _ hk => hk.2) (.int .u8 t237)) (fun _ hk => hk.1)⟩, ⟨by (with_reducible repeat first | apply aE | apply aH | apply aG); refine bE ?_ (by have h_ := Kd.lV uK.out cM.out (by decide); intro e_; exact h_ (by rw [e_]; rfl)) _; (with_reducible repeat first | apply aE | apply aH | apply aG); exact cM.out⟩, ⟨by (with_reducible repeat first | apply aE | apply aH | apply aG); refine bE ?_ (by have h_ := Kd.lV uK.out dI.out (by decide); intro e_; exact h_ (by rw [e_]; rfl)) _; (with_reducible repeat first | apply aE | apply aH | apply aG); exact dI.out⟩, ⟨by (with_reducible repeat first | apply aE | apply aH | apply aG); refine bE ?_ (by have h_ := Kd.lV uK.out jX.out (by decide); intro e_; exact h_ (by rw [e_]; rfl)) _; (with_reducible repeat first | apply aE | apply aH | apply aG); exact jX.out⟩, ⟨JZ HB GB61 jC oE WG⟩⟩
               ·rw [if_neg c60] at H
                exact absurd H (by simp)
              ·rw [if_neg c59] at H
               exact absurd H (by simp)
            ·rw [if_neg c54] at H
             exact absurd H (by simp)
           ·rw [if_neg PE] at H
            have DU : decide (fO < (t228.length : Int)) = false := decide_eq_false PE;clear PE;simp only [Option.some.injEq, Prod.mk.injEq] at H;obtain ⟨rfl, rfl, rfl⟩ := H;obtain ⟨bBf, bAF, eo67⟩ := Kd.cH uL.out;subst eo67
            go_wp2
            go_ret3
            exact ⟨_, tZ, by (with_reducible repeat first | apply Kd.bG | apply Kd.bF | apply Kd.bK); exact Kd.bN uK.out (fun _ hk => trivial), gL HB jC oE WG⟩
        ·rw [if_neg c39] at H
         exact absurd H (by simp)
       ·rw [if_neg c38] at H
        exact absurd H (by simp)
end Go.Proofs.Yteofcbkjhdadpaa.Pr
