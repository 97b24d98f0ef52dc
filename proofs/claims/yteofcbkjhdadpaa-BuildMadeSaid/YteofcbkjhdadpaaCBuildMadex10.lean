import Derived.Test.YteofcbkjhdadpaaCBuildMadex0
import Derived.Test.YteofcbkjhdadpaaCBuildMadex1
import Derived.Test.YteofcbkjhdadpaaCBuildMadex6
set_option maxHeartbeats 8000000
set_option maxRecDepth 100000
set_option linter.unusedSimpArgs false
set_option linter.unusedVariables false
namespace Go.Proofs.Yteofcbkjhdadpaa.Pr
open Go.RowKit Go.Proofs.aI.bC Go.Proofs.aI.eW Go.Proofs.aI.jH
attribute [local go_sem] nM nK rG qZ kG kF nL nJ   -- for this text's walks alone
mutual
def aQ.j0 : Nat → List Int → List Int → Bool → Option (Int × Int × List Int × Int)
 | 0, _, _, _ => none
 | k + 1, x0, x1, x19 => if x19 = true then (some (0, 0, ([] : List Int), 4)) else ((dH.f x0).bind fun QP => (if QP.length + x1.length < 140737488355328 then (aQ.l0 k x0 x1 (QP ++ x1) 0) else (none)))
def aQ.l0 : Nat → List Int → List Int → List Int → Int → Option (Int × Int × List Int × Int)
 | 0, _, _, _, _ => none
 | k + 1, x0, x1, x6, x7 => if x7 < (x6.length : Int) then (aQ.l1 k x0 x1 x6 x7 0) else ((dG.f (x0.length : Int) (x1.length : Int)).bind fun aKi => (aQ.l2 k x0 x1 0 aKi.1 aKi.2.1 aKi.2.2))
def aQ.l1 : Nat → List Int → List Int → List Int → Int → Int → Option (Int × Int × List Int × Int)
 | 0, _, _, _, _, _ => none
 | k + 1, x0, x1, x6, x7, x8 => if x8 < x7 then (if 0 ≤ x7 then (if x7 < (x6.length : Int) then (if 0 ≤ x8 then (if x8 < (x6.length : Int) then (if (rd x6 x7) = (rd x6 x8) then (some (0, 0, ([] : List Int), 2)) else (aQ.l1 k x0 x1 x6 x7 (wrap64 (x8 + 1)))) else (none)) else (none)) else (none)) else (none)) else (aQ.l0 k x0 x1 x6 (wrap64 (x7 + 1)))
def aQ.l2 : Nat → List Int → List Int → Int → Int → Int → List Int → Option (Int × Int × List Int × Int)
 | 0, _, _, _, _, _, _ => none
 | k + 1, x0, x1, x10, KT, yH, GA => if x10 < (x0.length : Int) then (aQ.l3 k x0 x1 x10 0 KT yH GA) else (some (KT, yH, GA, 0))
def aQ.l3 : Nat → List Int → List Int → Int → Int → Int → Int → List Int → Option (Int × Int × List Int × Int)
 | 0, _, _, _, _, _, _, _ => none
 | k + 1, x0, x1, x10, x11, KT, yH, GA => if x11 < (x1.length : Int) then (if 0 ≤ x10 then (if x10 < (x0.length : Int) then (if 0 ≤ x11 then ((eQ.f (Go.bits .xor .u8 (rd x0 x10) (rd x1 x11))).bind fun aSq => (if 0 ≤ (wrap64 ((wrap64 (x10 * yH)) + x11)) then (if (wrap64 ((wrap64 (x10 * yH)) + x11)) < (GA.length : Int) then (aQ.l3 k x0 x1 x10 (wrap64 (x11 + 1)) KT yH (GA.set ((wrap64 ((wrap64 (x10 * yH)) + x11)) : Int).toNat aSq.1)) else (none)) else (none))) else (none)) else (none)) else (none)) else (aQ.l2 k x0 x1 (wrap64 (x10 + 1)) KT yH GA)
end
def aQ.f (k : Nat) (l0 : List Int) (l1 : List Int) : Option (Int × Int × List Int × Int) := if (l0.length : Int) > 64 then (aQ.j0 k l0 l1 true) else (aQ.j0 k l0 l1 (decide ((l1.length : Int) > 64)))
def aQ.T10 : Bool × List (List Nat × List Nat) := (true, [([], []), ([], []), ([0, 1], [0, 1]), ([2], [2]), ([], []), ([], []), ([4, 5], [4, 5]), ([6], [6]), ([3, 7], [3, 7])])
def aQ.B10 : List Nat := [0, 0, 3, 7, 0, 0, 48, 112, 255]
theorem aQ.aNn : sI .any (opsOf Try.f12 10) = aQ.T10 := by kernel_rfl
theorem aQ.aKm : mJ aQ.T10.2 aQ.B10 = true := by kernel_rfl
def aQ.T19 : Bool × List (List Nat × List Nat) := (true, [([], []), ([0], [0]), ([], []), ([], []), ([3], [3]), ([2, 4], [2, 4]), ([], []), ([5, 6], [5, 6]), ([], []), ([], []), ([8, 9], [8, 9]), ([10], [10]), ([], []), ([], []), ([12, 13], [12, 13]), ([14], [14]), ([11, 15], [11, 15]), ([16], [16]), ([17], [17]), ([18], [18]), ([18], [18]), ([1, 7, 0, 1, 2, 3, 4, 5, 6, 7, 8, 9, 10, 11, 12, 13, 14, 15, 16, 17, 18, 19], [1, 7]), ([21, 19, 17, 0, 1, 2, 3, 4, 5, 6, 7, 8, 9, 10, 11, 12, 13, 14, 15, 16, 17, 18, 19], [19, 21])])
def aQ.B19 : List Nat := [0, 1, 0, 0, 8, 28, 0, 124, 0, 0, 768, 1792, 0, 0, 12288, 28672, 65280, 130816, 261888, 524032, 524032, 1048575, 3145727]
theorem aQ.aQD : sI .any (opsOf Try.f12 19) = aQ.T19 := by kernel_rfl
theorem aQ.aPO : mJ aQ.T19.2 aQ.B19 = true := by kernel_rfl
theorem aQ.calls (k : Nat) (A0 : Option Addr) (c0 : Nat) (l0 : List Int) (A1 : Option Addr) (c1 : Nat) (l1 : List Int) (r1 : Int) (r2 : Int) (r3 : List Int) (r4 : Int) (w : World) (hr0 : Kd.C (Kd.int .u8) w A0 l0.length l0) (hc0 : l0.length ≤ c0) (hr1 : Kd.C (Kd.int .u8) w A1 l1.length l1) (hc1 : l1.length ≤ c1) (h : aQ.f k l0 l1 = some (r1, r2, r3, r4)) :
  Calls Try.prog 12 #[.slice A0 l0.length c0, .slice A1 l1.length c1] w fun e w' => ∃ qW : Value, e = .returned (.tuple #[.agg #[.int .i64 r1, .int .i64 r2, qW], .int .i64 r4]) ∧ Kd.R (Kd.int .u8) 5 w' w.heap.size (fun _ => True) qW r3 ∧ Below w.heap.size w w' := by
 have wA := Try.underlying24;have HR0 := aA.mk hr0;have HC0 := aA.mk hc0;clear hr0 hc0;have tS := aA.mk hr1;have HC1 := aA.mk hc1;clear hr1 hc1;have HB := aA.mk (Below.refl w.heap.size w);have H : (if (l0.length : Int) > 64 then (aQ.j0 k l0 l1 true) else (aQ.j0 k l0 l1 (decide ((l1.length : Int) > 64)))) = some (r1, r2, r3, r4) := h;clear h;have HC3 := aA.mk H;clear H;go_enter Try.func12, Try.ntmps12;go_upto_region 1 with (first | ((with_reducible refine bR (N := 4) rfl ?_); (try (refine jN (by rfl) ?_; dsimp only)); refine bL ?hg (N := 4) ?hd (cs := #[.int .i64 0, .int .i64 0, .slice none 0 0]) (t := 24) ?hr ?_; (case hd => rfl); (case hg => rfl); (case hr => first | (go_simp; done) | (go_simp; rfl)); intro pW hg w4 hbox hb; have eJ := aA.mk (hbox); have aZj := aA.mk ((by rw [hg]; exact (aJ (cV HB)) : w.heap.size ≤ pW)); have sE := aA.mk ((by rw [hg]; exact (aJ (cV HB)) : w.heap.size ≤ pW)); replace HB := aA.mk (aN (cV HB) hb); clear hb hbox hg))
 (try simp only [Act.put, cW, cT, cZ])
 go_cut [19] (fun v19 wc => ∃ (kq : Nat) (aEl : Bool), v19 = .bool aEl ∧ aA (aQ.j0 kq l0 l1 aEl = some (r1, r2, r3, r4)) ∧ aA (kq ≤ k) ∧ aA (wc.heap[pW]? = some (.cells #[.int .i64 0, .int .i64 0, (.slice none 0 0)] 24 (0, 0))) ∧ aA (Below w.heap.size w wc))
 case first =>
  have H := HC3.out;clear HC3
  by_cases c5 : (l0.length : Int) > 64
  ·rw [if_pos c5] at H
   have sZ : decide (64 < (l0.length : Int)) = true := decide_eq_true c5;have KI : decide (64 < l0.length) = true := decide_eq_true (by omega);clear c5
   (first | rw [sZ] | (simp only [bJ, bM]; rw [sZ]) | rw [KI] | skip);have H' := aA.mk H;clear H
   go_wp2
   go_meet
   case rel => exact ⟨_, (true), kT, H', ⟨q_o⟩, ⟨gW eJ.out⟩, ⟨cI HB sE⟩⟩
  ·rw [if_neg c5] at H
   have sZ : decide (64 < (l0.length : Int)) = false := decide_eq_false c5;have KI : decide (64 < l0.length) = false := decide_eq_false (by omega);clear c5
   (first | rw [sZ] | (simp only [bJ, bM]; rw [sZ]) | rw [KI] | skip);have H' := aA.mk H;clear H
   go_wp2
   go_meet
   case rel => exact ⟨_, (decide ((l1.length : Int) > 64)), kT, H', ⟨q_o⟩, ⟨gW eJ.out⟩, ⟨cI HB sE⟩⟩
 case rest =>
  clear HC3;(try clear c1);(try clear p2);(try clear c5);(try clear sZ);(try clear KI);obtain ⟨kq, aEl, rfl, HA, HJ2, eJ, HB⟩ := hcut
  cases kq with
  | zero => exact absurd HA.out (by simp [aQ.j0])
  | succ kj2 =>
   have H := HA.out;clear HA;simp only [aQ.j0] at H
   by_cases c6 : aEl = true
   ·subst c6
    have H1 : (some (0, 0, ([] : List Int), 4)) = some (r1, r2, r3, r4) := by rw [if_pos rfl] at H; exact H
    clear H;have H := H1;clear H1;simp only [Option.some.injEq, Prod.mk.injEq] at H;obtain ⟨rfl, rfl, rfl, rfl⟩ := H;have nS : wc.cell? ⟨pW, 0, none⟩ = some (.int .i64 0) := (aD eJ.out 0).trans rfl;have nR : wc.cell? ⟨pW, 1, none⟩ = some (.int .i64 0) := (aD eJ.out 1).trans rfl;have nQ : wc.cell? ⟨pW, 2, none⟩ = some (.slice none 0 0) := (aD eJ.out 2).trans rfl;have nP := aC eJ.out 0;have nO := aC eJ.out 1;have nN := aC eJ.out 2
    go_wp2
    refine bodyPost_ret (cS rfl _ _ pW 24 #[.int .i64 0, .int .i64 0, .slice none 0 0] (0, 0) _ rfl (by (with_reducible repeat first | apply aE | apply aH | apply aG); refine bA (cs := #[.int .i64 0, .int .i64 0, .slice none 0 0]) ?_ 2 _ rfl; (with_reducible repeat first | apply aE | apply aH | apply aG); refine bA (cs := #[.int .i64 0, .int .i64 0, .slice none 0 0]) ?_ 1 _ rfl; (with_reducible repeat first | apply aE | apply aH | apply aG); refine bA (cs := #[.int .i64 0, .int .i64 0, .slice none 0 0]) ?_ 0 _ rfl; (with_reducible repeat first | apply aE | apply aH | apply aG); exact eJ.out) Try.underlying24 rfl (by kernel_rfl)) rfl ?_;exact ⟨_, tZ, IW, cI HB sE⟩
   ·replace c6 := Bool.eq_false_iff.mpr c6
    subst c6;have H1 : ((dH.f l0).bind fun QP => (if QP.length + l1.length < 140737488355328 then (aQ.l0 kj2 l0 l1 (QP ++ l1) 0) else (none))) = some (r1, r2, r3, r4) := by rw [if_neg (show ¬ (false = true) by decide)] at H; exact H
    clear H;have H := H1;clear H1;replace H := Option.bind_eq_some_iff.mp H;obtain ⟨QP, A80, H⟩ := H;replace H : (if QP.length + l1.length < 140737488355328 then (aQ.l0 kj2 l0 l1 (QP ++ l1) 0) else (none)) = some (r1, r2, r3, r4) := H;have A8 := aA.mk A80;clear A80
    by_cases c9 : QP.length + l1.length < 140737488355328
    ·rw [if_pos c9] at H
     have LMc9 := aA.mk c9;clear c9;obtain ⟨y360, hy360⟩ : ∃ y_ : List Int, y_ = (QP ++ l1) := ⟨_, rfl⟩
     replace H : (aQ.l0 kj2 l0 l1 y360 0) = some (r1, r2, r3, r4) := by first | (rw [hy360]; with_reducible exact H) | (have H2_ := (Option.bind_some _ _).symm.trans H; rw [hy360]; with_reducible exact H2_) | (have H2_ := (Option.bind_some _ _).symm.trans H; with_reducible exact H2_) | with_reducible exact H | (rw [hy360]; exact H) | exact H
     have Ny360 := aA.mk hy360;clear hy360;have H' := aA.mk H;clear H;go_wp2_with (first | ((with_reducible refine bD (f := 41) rfl ?_); refine cQ (some 22) rfl rfl Try.func41 (by kernel_rfl) rfl #[.slice A0 l0.length c0] rfl kR ?_; (with_reducible refine (dH.calls _ _ l0 QP _ ?side1 ?side2 A8.out).mono ?_); (case side1 => repeat (first | exact (Kd.dW HR0.out HB.out) | (with_reducible refine Kd.cY ?_ _) | (with_reducible refine Kd.cX ?_ _) | (with_reducible refine Kd.dM ?_))); (case side2 => exact HC0.out); rintro e w10 ⟨aVW, rfl, ho0, hb⟩; refine ⟨_, rfl, ?_⟩; have aKv := aA.mk (Kd.dE ho0 (aJ (cI HB sE))); replace eJ := aA.mk (aK (cN eJ) hb); replace HB := aA.mk (aN (cI HB sE) hb); (try clear hb); (try clear hb2); (try clear hk); (try clear hi); (try clear ho0)) | ((with_reducible refine oW (b := .append) (xs := #[.tmp 22, .tmp 23]) rfl ?_); (try (refine jN (by rfl) ?_; dsimp only)); at_builtin; refine Kd.JM (Kd.int .u8) (w0 := w) w.heap.size rfl (.tmp 22) (.tmp 23) 22 5 (.int .u8 0) 1 rfl Try.underlying22 xI rfl (by decide) (by omega) aVW QP l1 _ _ _ (fun _ => True) (fun _ => False) rfl rfl ?aO ?aR (fun _ _ h => h) (fun _ h => h.elim) ?aF ?aB ?aS ?aL ?_; (case aR => repeat (first | exact (Kd.dW tS.out HB.out) | (with_reducible refine Kd.cY ?_ _) | (with_reducible refine Kd.cX ?_ _) | (with_reducible refine Kd.dM ?_))); (case aB => exact (cI HB sE)); (case aF => exact (fun _ _ => trivial)); (case aO => exact (dZ aKv.out)); (case aS => exact (aJ (cI HB sE))); (case aL => have := LMc9.out; omega); intro aVV w11 ho hb hg hat; rw [← Ny360.out] at ho; have nH := aA.mk (eM (cN eJ) hg (Kd.lV aKv.out eJ.out (by decide))); have nG := aA.mk (hb); have JK := aA.mk (ho); clear eJ HB aKv; have eJ := nH; have HB := nG; have aSH := JK; clear nH nG JK; clear ho hb hg hat))
     go_loopg [7] kj2 (fun kq v7 w' => ∃ (dK : Int) (uS : Int) (tA : Int), v7 = .int .i64 dK ∧ aA (aQ.l0 kq l0 l1 y360 dK = some (r1, r2, r3, r4)) ∧ aA (kq ≤ kj2) ∧ aA (Kd.R (Kd.int .u8) 5 w' w.heap.size (fun _ => True) aVV y360) ∧ aA (w'.heap[pW]? = some (.cells #[.int .i64 uS, .int .i64 tA, (.slice none 0 0)] 24 (0, 0))) ∧ aA (Below w.heap.size w w'))
     case atStart => exact ⟨(0), (0), (0), kT, H', ⟨Nat.le_refl _⟩, ⟨dZ aSH.out⟩, ⟨gW eJ.out⟩, ⟨cI HB sE⟩⟩
     case round =>
      clear H';(try clear c1);(try clear p2);(try clear c4);(try clear c5);(try clear sZ);(try clear KI);(try clear c6);(try clear c9);(try clear nS);(try clear nR);(try clear nQ);(try clear nP);(try clear nO);(try clear nN);(try clear p2);obtain ⟨dK, uS, tA, rfl, HA, uN, kH, eJ, HB⟩ := hrel
      cases gk with
      | zero => exact absurd HA.out (by simp [aQ.l0])
      | succ k2 =>
       have H := HA.out;clear HA;simp only [aQ.l0] at H
       by_cases uJ : dK < (y360.length : Int)
       ·rw [if_pos uJ] at H
        have FH : decide (dK < (y360.length : Int)) = true := decide_eq_true uJ;clear uJ;have H' := aA.mk H;clear H;obtain ⟨aDZ, aCj, eo13⟩ := Kd.cH kH.out;subst eo13
        go_wp2
        go_loopg [8] k2 (fun kq v8 w' => ∃ (kS : Int) (wR : Int) (uR : Int), v8 = .int .i64 kS ∧ aA (aQ.l1 kq l0 l1 y360 dK kS = some (r1, r2, r3, r4)) ∧ aA (kq ≤ k2) ∧ aA (Kd.R (Kd.int .u8) 5 w' w.heap.size (fun _ => True) (.slice aDZ y360.length aCj) y360) ∧ aA (w'.heap[pW]? = some (.cells #[.int .i64 wR, .int .i64 uR, (.slice none 0 0)] 24 (0, 0))) ∧ aA (Below w.heap.size w w'))
        case atStart => exact ⟨(0), (uS), (tA), kT, H', ⟨Nat.le_refl _⟩, ⟨dZ kH.out⟩, ⟨gW eJ.out⟩, ⟨cI HB sE⟩⟩
        case round =>
         clear H';(try clear c1);(try clear p2);(try clear c4);(try clear c5);(try clear sZ);(try clear KI);(try clear c6);(try clear c9);(try clear uJ);(try clear FH);(try clear nS);(try clear nR);(try clear nQ);(try clear nP);(try clear nO);(try clear nN);(try clear p2);obtain ⟨kS, wR, uR, rfl, HA, FW, kH, eJ, HB⟩ := hrel
         cases gk with
         | zero => exact absurd HA.out (by simp [aQ.l1])
         | succ k3 =>
          have H := HA.out;clear HA;simp only [aQ.l1] at H
          by_cases KR : kS < dK
          ·rw [if_pos KR] at H
           have aFH : decide (kS < dK) = true := decide_eq_true KR;clear KR
           by_cases YT : 0 ≤ dK
           ·rw [if_pos YT] at H
            have aKf : decide (0 ≤ dK) = true := decide_eq_true YT;clear YT
            by_cases c16 : dK < (y360.length : Int)
            ·rw [if_pos c16] at H
             have aKd : decide (dK < (y360.length : Int)) = true := decide_eq_true c16;clear c16
             by_cases KQ : 0 ≤ kS
             ·rw [if_pos KQ] at H
              have YS : decide (0 ≤ kS) = true := decide_eq_true KQ;clear KQ
              by_cases c18 : kS < (y360.length : Int)
              ·rw [if_pos c18] at H
               have YR : decide (kS < (y360.length : Int)) = true := decide_eq_true c18;clear c18
               by_cases RA : (rd y360 dK) = (rd y360 kS)
               ·rw [if_pos RA] at H
                have aCs : ((rd y360 dK) == (rd y360 kS)) = true := beq_iff_eq.mpr RA;have aCr : ((rd y360 dK) != (rd y360 kS)) = false := bne_eq_false_iff_eq.mpr RA;clear RA;simp only [Option.some.injEq, Prod.mk.injEq] at H;obtain ⟨rfl, rfl, rfl, rfl⟩ := H
                try go_wp2
                replace kH := aA.mk (Kd.bK kH.out);replace eJ := aA.mk (aH eJ.out);replace HB := aA.mk (dY HB.out);have aAm : 0 ≤ (dK : Int) := of_decide_eq_true sJ;have q363 : dK < (y360.length : Int) := of_decide_eq_true sJ;obtain ⟨ad363, e363, hx363_0⟩ := Kd.uE (Kd.bZ kH.out).2.2 dK aAm q363
                cases e363
                replace aAm := eq_true aAm;replace q363 := eq_true q363;have aAl : 0 ≤ (kS : Int) := of_decide_eq_true sJ;have q364 : kS < (y360.length : Int) := of_decide_eq_true sJ;obtain ⟨ad364, e364, hx364_0⟩ := Kd.uE (Kd.bZ kH.out).2.2 kS aAl q364;obtain rfl : ad363 = ad364 := (by injection e364)
                replace aAl := eq_true aAl;replace q364 := eq_true q364;refine sV (n := 9) (S := fun w' => w'.cell? (ad363.add (dK).toNat) = some (.int .u8 (rd y360 dK)) ∧ w'.cell? (ad363.add (kS).toNat) = some (.int .u8 (rd y360 kS))) (ds := []) #[false, false, false, false, false, false, false, false, false] (by kernel_rfl) rfl rfl ⟨hx363_0, hx364_0⟩ (fun hHeld => ?_); refine kB aQ.aNn aQ.aKm (fun HT_ HW_ => ?_);generalize wr.drew = w20 at kH eJ HB hx363_0 hx364_0 hHeld ⊢;refine cF (i := 0) (N := some 36) (v := ?_) (a' := ?_) #[true, false, false, false, false, false, false, false, false] rfl rfl (bX HT_.out (by kernel_rfl)) (fun _ _ _ h => h) (Or.inl ⟨by rfl, ?_⟩) ?_ ?_;rotate_left
                ·intro w'
                 go_simp;(with_reducible rfl)
                rotate_left
                ·simp only [Act.put, cW, cT, cZ, bJ, bM]
                 rfl
                refine cF (i := 1) (N := some 37) (v := ?_) (a' := ?_) #[true, true, false, false, false, false, false, false, false] rfl rfl (bX HT_.out (by kernel_rfl)) (fun _ _ _ h => h) (Or.inl ⟨by rfl, ?_⟩) ?_ ?_;rotate_left
                ·intro w'
                 go_simp;(with_reducible rfl)
                rotate_left
                ·simp only [Act.put, cW, cT, cZ, bJ, bM]
                 rfl
                refine cF (i := 2) (N := some 38) (v := ?_) (a' := ?_) #[true, true, true, false, false, false, false, false, false] rfl rfl (bX HT_.out (by kernel_rfl)) (fun _ _ _ h => h) (Or.inl ⟨by rfl, ?_⟩) ?_ ?_;rotate_left
                ·intro w'
                 go_simp;(with_reducible rfl)
                rotate_left
                ·simp only [Act.put, cW, cT, cZ, bJ, bM]
                 rfl
                refine cF (i := 4) (N := some 40) (v := ?_) (a' := ?_) #[true, true, true, false, true, false, false, false, false] rfl rfl (bX HT_.out (by kernel_rfl)) (fun _ _ _ h => h) (Or.inl ⟨by rfl, ?_⟩) ?_ ?_;rotate_left
                ·intro w'
                 go_simp;(with_reducible rfl)
                rotate_left
                ·simp only [Act.put, cW, cT, cZ, bJ, bM]
                 rfl
                refine cF (i := 5) (N := some 41) (v := ?_) (a' := ?_) #[true, true, true, false, true, true, false, false, false] rfl rfl (bX HT_.out (by kernel_rfl)) (fun _ _ _ h => h) (Or.inl ⟨by rfl, ?_⟩) ?_ ?_;rotate_left
                ·intro w'
                 go_simp;(with_reducible rfl)
                rotate_left
                ·simp only [Act.put, cW, cT, cZ, bJ, bM]
                 rfl
                refine cF (i := 6) (N := some 42) (v := ?_) (a' := ?_) #[true, true, true, false, true, true, true, false, false] rfl rfl (bX HT_.out (by kernel_rfl)) (fun _ _ _ h => h) (Or.inl ⟨by rfl, ?_⟩) ?_ ?_;rotate_left
                ·intro w'
                 go_simp;(with_reducible rfl)
                rotate_left
                ·simp only [Act.put, cW, cT, cZ, bJ, bM]
                 rfl
                refine fW (i := 3) (N := some 39) (v := ?_) (a' := ?_) #[true, true, true, true, true, true, true, false, false] rfl rfl (dQ HT_.out HW_.out (by kernel_rfl)) (fun _ _ _ h => h) (Or.inl ⟨by rfl, ?_⟩) hHeld ?_ ?_;rotate_left
                ·rintro w' ⟨s0, s1⟩
                 go_simp;(with_reducible rfl)
                rotate_left
                ·simp only [Act.put, cW, cT, cZ, bJ, bM]
                 rfl
                refine fW (i := 7) (N := some 43) (v := ?_) (a' := ?_) #[true, true, true, true, true, true, true, true, false] rfl rfl (dQ HT_.out HW_.out (by kernel_rfl)) (fun _ _ _ h => h) (Or.inl ⟨by rfl, ?_⟩) hHeld ?_ ?_;rotate_left
                ·rintro w' ⟨s0, s1⟩
                 go_simp;(with_reducible rfl)
                rotate_left
                ·simp only [Act.put, cW, cT, cZ, bJ, bM]
                 rfl
                refine cF (i := 8) (N := some 44) (v := ?_) (a' := ?_) #[true, true, true, true, true, true, true, true, true] rfl rfl (bX HT_.out (by kernel_rfl)) (fun _ _ _ h => h) (Or.inl ⟨by rfl, ?_⟩) ?_ ?_;rotate_left
                ·intro w'
                 go_simp;(with_reducible rfl)
                rotate_left
                ·simp only [Act.put, cW, cT, cZ, bJ, bM]
                 rfl
                refine xS (rR HT_.out (by kernel_rfl)) ?_;have MU : w20.cell? ⟨pW, 0, none⟩ = some (.int .i64 wR) := (aD eJ.out 0).trans rfl;have MT : w20.cell? ⟨pW, 1, none⟩ = some (.int .i64 uR) := (aD eJ.out 1).trans rfl;have MS : w20.cell? ⟨pW, 2, none⟩ = some (.slice none 0 0) := (aD eJ.out 2).trans rfl;have MI := aC eJ.out 0;have MH := aC eJ.out 1;have MG := aC eJ.out 2
                try go_wp2
                refine bodyPost_ret (cS rfl _ _ pW 24 #[.int .i64 0, .int .i64 0, .slice none 0 0] (0, 0) _ rfl (by (with_reducible repeat first | apply aE | apply aH | apply aG); refine bA (cs := #[.int .i64 0, .int .i64 0, .slice none 0 0]) ?_ 2 _ rfl; (with_reducible repeat first | apply aE | apply aH | apply aG); refine bA (cs := #[.int .i64 0, .int .i64 uR, .slice none 0 0]) ?_ 1 _ rfl; (with_reducible repeat first | apply aE | apply aH | apply aG); refine bA (cs := #[.int .i64 wR, .int .i64 uR, .slice none 0 0]) ?_ 0 _ rfl; (with_reducible repeat first | apply aE | apply aH | apply aG); exact eJ.out) Try.underlying24 rfl (by kernel_rfl)) rfl ?_;exact ⟨_, tZ, IW, cI HB sE⟩
               ·rw [if_neg RA] at H
                have aCs : ((rd y360 dK) == (rd y360 kS)) = false := beq_eq_false_iff_ne.mpr RA;have aCr : ((rd y360 dK) != (rd y360 kS)) = true := bne_iff_ne.mpr RA;have H' := aA.mk H;clear H
                try go_wp2
                replace kH := aA.mk (Kd.bK kH.out);replace eJ := aA.mk (aH eJ.out);replace HB := aA.mk (dY HB.out);have aAm : 0 ≤ (dK : Int) := of_decide_eq_true sJ;have q363 : dK < (y360.length : Int) := of_decide_eq_true sJ;obtain ⟨ad363, e363, hx363_0⟩ := Kd.uE (Kd.bZ kH.out).2.2 dK aAm q363
                cases e363
                replace aAm := eq_true aAm;replace q363 := eq_true q363;have aAl : 0 ≤ (kS : Int) := of_decide_eq_true sJ;have q364 : kS < (y360.length : Int) := of_decide_eq_true sJ;obtain ⟨ad364, e364, hx364_0⟩ := Kd.uE (Kd.bZ kH.out).2.2 kS aAl q364;obtain rfl : ad363 = ad364 := (by injection e364)
                replace aAl := eq_true aAl;replace q364 := eq_true q364;refine sV (n := 9) (S := fun w' => w'.cell? (ad363.add (dK).toNat) = some (.int .u8 (rd y360 dK)) ∧ w'.cell? (ad363.add (kS).toNat) = some (.int .u8 (rd y360 kS))) (ds := []) #[false, false, false, false, false, false, false, false, false] (by kernel_rfl) rfl rfl ⟨hx363_0, hx364_0⟩ (fun hHeld => ?_); refine kB aQ.aNn aQ.aKm (fun HT_ HW_ => ?_);generalize wr.drew = w22 at kH eJ HB hx363_0 hx364_0 hHeld ⊢;refine cF (i := 0) (N := some 36) (v := ?_) (a' := ?_) #[true, false, false, false, false, false, false, false, false] rfl rfl (bX HT_.out (by kernel_rfl)) (fun _ _ _ h => h) (Or.inl ⟨by rfl, ?_⟩) ?_ ?_;rotate_left
                ·intro w'
                 go_simp;(with_reducible rfl)
                rotate_left
                ·simp only [Act.put, cW, cT, cZ, bJ, bM]
                 rfl
                refine cF (i := 1) (N := some 37) (v := ?_) (a' := ?_) #[true, true, false, false, false, false, false, false, false] rfl rfl (bX HT_.out (by kernel_rfl)) (fun _ _ _ h => h) (Or.inl ⟨by rfl, ?_⟩) ?_ ?_;rotate_left
                ·intro w'
                 go_simp;(with_reducible rfl)
                rotate_left
                ·simp only [Act.put, cW, cT, cZ, bJ, bM]
                 rfl
                refine cF (i := 2) (N := some 38) (v := ?_) (a' := ?_) #[true, true, true, false, false, false, false, false, false] rfl rfl (bX HT_.out (by kernel_rfl)) (fun _ _ _ h => h) (Or.inl ⟨by rfl, ?_⟩) ?_ ?_;rotate_left
                ·intro w'
                 go_simp;(with_reducible rfl)
                rotate_left
                ·simp only [Act.put, cW, cT, cZ, bJ, bM]
                 rfl
                refine cF (i := 4) (N := some 40) (v := ?_) (a' := ?_) #[true, true, true, false, true, false, false, false, false] rfl rfl (bX HT_.out (by kernel_rfl)) (fun _ _ _ h => h) (Or.inl ⟨by rfl, ?_⟩) ?_ ?_;rotate_left
                ·intro w'
                 go_simp;(with_reducible rfl)
                rotate_left
                ·simp only [Act.put, cW, cT, cZ, bJ, bM]
                 rfl
                refine cF (i := 5) (N := some 41) (v := ?_) (a' := ?_) #[true, true, true, false, true, true, false, false, false] rfl rfl (bX HT_.out (by kernel_rfl)) (fun _ _ _ h => h) (Or.inl ⟨by rfl, ?_⟩) ?_ ?_;rotate_left
                ·intro w'
                 go_simp;(with_reducible rfl)
                rotate_left
                ·simp only [Act.put, cW, cT, cZ, bJ, bM]
                 rfl
                refine cF (i := 6) (N := some 42) (v := ?_) (a' := ?_) #[true, true, true, false, true, true, true, false, false] rfl rfl (bX HT_.out (by kernel_rfl)) (fun _ _ _ h => h) (Or.inl ⟨by rfl, ?_⟩) ?_ ?_;rotate_left
                ·intro w'
                 go_simp;(with_reducible rfl)
                rotate_left
                ·simp only [Act.put, cW, cT, cZ, bJ, bM]
                 rfl
                refine fW (i := 3) (N := some 39) (v := ?_) (a' := ?_) #[true, true, true, true, true, true, true, false, false] rfl rfl (dQ HT_.out HW_.out (by kernel_rfl)) (fun _ _ _ h => h) (Or.inl ⟨by rfl, ?_⟩) hHeld ?_ ?_;rotate_left
                ·rintro w' ⟨s0, s1⟩
                 go_simp;(with_reducible rfl)
                rotate_left
                ·simp only [Act.put, cW, cT, cZ, bJ, bM]
                 rfl
                refine fW (i := 7) (N := some 43) (v := ?_) (a' := ?_) #[true, true, true, true, true, true, true, true, false] rfl rfl (dQ HT_.out HW_.out (by kernel_rfl)) (fun _ _ _ h => h) (Or.inl ⟨by rfl, ?_⟩) hHeld ?_ ?_;rotate_left
                ·rintro w' ⟨s0, s1⟩
                 go_simp;(with_reducible rfl)
                rotate_left
                ·simp only [Act.put, cW, cT, cZ, bJ, bM]
                 rfl
                refine cF (i := 8) (N := some 44) (v := ?_) (a' := ?_) #[true, true, true, true, true, true, true, true, true] rfl rfl (bX HT_.out (by kernel_rfl)) (fun _ _ _ h => h) (Or.inl ⟨by rfl, ?_⟩) ?_ ?_;rotate_left
                ·intro w'
                 go_simp;(with_reducible rfl)
                rotate_left
                ·simp only [Act.put, cW, cT, cZ, bJ, bM]
                 rfl
                refine xS (rR HT_.out (by kernel_rfl)) ?_
                try go_wp2
                go_roundg k3
                case measure => have := HJ2.out; have := uN.out; have := FW.out; omega
                case rel => exact ⟨(wrap64 (kS + 1)), (wR), (uR), kT, H', ⟨by have := HJ2.out; have := uN.out; have := FW.out; omega⟩, ⟨dZ kH.out⟩, ⟨gW eJ.out⟩, ⟨cI HB sE⟩⟩
              ·rw [if_neg c18] at H
               exact absurd H (by simp)
             ·rw [if_neg KQ] at H
              exact absurd H (by simp)
            ·rw [if_neg c16] at H
             exact absurd H (by simp)
           ·rw [if_neg YT] at H
            exact absurd H (by simp)
          ·rw [if_neg KR] at H
           have aFH : decide (kS < dK) = false := decide_eq_false KR;clear KR;have H' := aA.mk H;clear H
           go_wp2
           go_roundg k3
           case measure => have := HJ2.out; have := uN.out; have := FW.out; omega
           case rel => exact ⟨(wrap64 (dK + 1)), (wR), (uR), kT, H', ⟨by have := HJ2.out; have := uN.out; have := FW.out; omega⟩, ⟨dZ kH.out⟩, ⟨gW eJ.out⟩, ⟨cI HB sE⟩⟩
       ·rw [if_neg uJ] at H
        have FH : decide (dK < (y360.length : Int)) = false := decide_eq_false uJ;clear uJ;replace H := Option.bind_eq_some_iff.mp H;obtain ⟨⟨EE, zT, aIr⟩, aKN, H⟩ := H;replace H : (aQ.l2 k2 l0 l1 0 EE zT aIr) = some (r1, r2, r3, r4) := H;have A23 := aA.mk aKN;clear aKN;have H' := aA.mk H;clear H;obtain ⟨aQi, aPD, eo24⟩ := Kd.cH kH.out;subst eo24;go_wp2_with (first | ((with_reducible refine bD (f := 45) rfl ?_); refine cQ (some 50) rfl rfl Try.func45 (by kernel_rfl) rfl #[.int .i64 (l0.length : Int), .int .i64 (l1.length : Int)] rfl kR ?_; (with_reducible refine (dG.calls (l0.length : Int) (l1.length : Int) EE zT aIr _ A23.out).mono ?_); rintro e w25 ⟨bAa, rfl, ho0, hb⟩; refine ⟨_, rfl, ?_⟩; have aFQ := aA.mk (Kd.dE (Kd.dU ho0 (Kd.hH (dZ kH.out))) (aJ (cI HB sE))); replace kH := aA.mk (Kd.cO (dZ kH.out) (Kd.dV ho0) hb); replace eJ := aA.mk (aK (cN eJ) hb); replace HB := aA.mk (aN (cI HB sE) hb); (try clear hb); (try clear hb2); (try clear hk); (try clear hi); (try clear ho0)) | ((with_reducible refine bR (N := 9) rfl ?_); (try (refine jN (by rfl) ?_; dsimp only)); refine bL ?hg (N := 9) ?hd (cs := #[.int .i64 0, .int .i64 0, .slice none 0 0]) (t := 24) ?hr ?_; (case hd => rfl); (case hg => rfl); (case hr => first | (go_simp; done) | (go_simp; rfl)); intro uI hg w26 hbox hb; replace kH := aA.mk (Kd.bW (dZ kH.out) hb); replace aFQ := aA.mk (Kd.bW (dZ aFQ.out) hb); have lY := aA.mk (hbox); have aZi := aA.mk ((by rw [hg]; exact (aJ (cI HB sE)) : w.heap.size ≤ uI)); have aCE := aA.mk ((by rw [hg]; exact (aJ (cI HB sE)) : w.heap.size ≤ uI)); replace HB := aA.mk (aN (cI HB sE) hb); have BD := aA.mk ((by rw [hg]; exact Nat.ne_of_lt (bV (cN eJ)) : pW ≠ uI)); have YX := aA.mk ((by rw [hg]; exact Nat.ne_of_gt (bV (cN eJ)) : uI ≠ pW)); replace eJ := aA.mk (aK (cN eJ) hb); clear hb hbox hg; have aJy := YX.out; have aJr := BD.out; have DC : w26.cell? ⟨uI, 0, none⟩ = some (.int .i64 0) := (aD lY.out 0).trans rfl; have DB : w26.cell? ⟨uI, 1, none⟩ = some (.int .i64 0) := (aD lY.out 1).trans rfl; have DA : w26.cell? ⟨uI, 2, none⟩ = some (.slice none 0 0) := (aD lY.out 2).trans rfl; have CT := aC lY.out 0; have CS := aC lY.out 1; have CR := aC lY.out 2; obtain ⟨aTk, aSb, eo29⟩ := Kd.cH aFQ.out; subst eo29))
        go_loopg [10] k2 (fun kq v10 w' => ∃ (nA : Int) (wQ : List Int) (tW : Value), v10 = .int .i64 nA ∧ aA (aQ.l2 kq l0 l1 nA EE zT wQ = some (r1, r2, r3, r4)) ∧ aA (kq ≤ k2) ∧ aA (Kd.R (Kd.int .u8) 5 w' w.heap.size (fun _ => True) tW wQ) ∧ aA (w'.heap[pW]? = some (.cells #[.int .i64 uS, .int .i64 tA, (.slice none 0 0)] 24 (0, 0))) ∧ aA (w'.heap[uI]? = some (.cells #[.int .i64 EE, .int .i64 zT, tW] 24 (0, 0))) ∧ aA (Below w.heap.size w w'))
        case atStart => exact ⟨(0), (aIr), (.slice aTk aIr.length aSb), kT, H', ⟨Nat.le_refl _⟩, ⟨by (with_reducible repeat first | apply Kd.bG | apply Kd.bF | apply Kd.bK); exact Kd.bN (Kd.aZ (p := ⟨uI, 2, none⟩) (Kd.aZ (p := ⟨uI, 1, none⟩) (Kd.aZ (p := ⟨uI, 0, none⟩) (Kd.bQ aFQ.out lY.out (by decide)) (fun _ hk => hk.2) (.int .i64 EE)) (fun _ hk => hk.2) (.int .i64 zT)) (fun _ hk => hk.2) (.slice aTk aIr.length aSb)) (fun _ hk => trivial)⟩, ⟨by (with_reducible repeat first | apply aE | apply aH | apply aG); refine bE ?_ BD.out _; (with_reducible repeat first | apply aE | apply aH | apply aG); refine bE ?_ BD.out _; (with_reducible repeat first | apply aE | apply aH | apply aG); refine bE ?_ BD.out _; (with_reducible repeat first | apply aE | apply aH | apply aG); exact eJ.out⟩, ⟨by (with_reducible repeat first | apply aE | apply aH | apply aG); refine bA (cs := #[.int .i64 EE, .int .i64 zT, .slice none 0 0]) ?_ 2 _ rfl; (with_reducible repeat first | apply aE | apply aH | apply aG); refine bA (cs := #[.int .i64 EE, .int .i64 0, .slice none 0 0]) ?_ 1 _ rfl; (with_reducible repeat first | apply aE | apply aH | apply aG); refine bA (cs := #[.int .i64 0, .int .i64 0, .slice none 0 0]) ?_ 0 _ rfl; (with_reducible repeat first | apply aE | apply aH | apply aG); exact lY.out⟩, ⟨dD HB sE aCE⟩⟩
        case round =>
         clear H';(try clear c1);(try clear c2);(try clear p2);(try clear p3);(try clear q3);(try clear hx3);(try clear c4);(try clear c5);(try clear sZ);(try clear KI);(try clear c6);(try clear p6);(try clear c9);(try clear uJ);(try clear FH);(try clear KR);(try clear aFH);(try clear YT);(try clear aKf);(try clear c16);(try clear aKd);(try clear KQ);(try clear YS);(try clear c18);(try clear YR);(try clear RA);(try clear aCs);(try clear aCr);(try clear c27);(try clear MU);(try clear MT);(try clear MS);(try clear DC);(try clear DB);(try clear DA);(try clear nS);(try clear nR);(try clear nQ);(try clear MI);(try clear MH);(try clear MG);(try clear CT);(try clear CS);(try clear CR);(try clear nP);(try clear nO);(try clear nN);(try clear hx363_0);(try clear hx364_0);(try clear p2);(try clear aAm);(try clear aAl);(try clear q363);(try clear q364);obtain ⟨nA, wQ, tW, rfl, HA, FW, kI, eJ, lY, HB⟩ := hrel
         cases gk with
         | zero => exact absurd HA.out (by simp [aQ.l2])
         | succ k3 =>
          have H := HA.out;clear HA;simp only [aQ.l2] at H
          by_cases c30 : nA < (l0.length : Int)
          ·rw [if_pos c30] at H
           have YP : decide (nA < (l0.length : Int)) = true := decide_eq_true c30;clear c30;have H' := aA.mk H;clear H
           go_wp2
           go_loopg [11] k3 (fun kq v11 w' => ∃ (pS : Int) (jZ : List Int) (tW : Value), v11 = .int .i64 pS ∧ aA (aQ.l3 kq l0 l1 nA pS EE zT jZ = some (r1, r2, r3, r4)) ∧ aA (kq ≤ k3) ∧ aA (Kd.R (Kd.int .u8) 5 w' w.heap.size (fun _ => True) tW jZ) ∧ aA (w'.heap[pW]? = some (.cells #[.int .i64 uS, .int .i64 tA, (.slice none 0 0)] 24 (0, 0))) ∧ aA (w'.heap[uI]? = some (.cells #[.int .i64 EE, .int .i64 zT, tW] 24 (0, 0))) ∧ aA (Below w.heap.size w w'))
           case atStart => exact ⟨(0), (wQ), (tW), kT, H', ⟨Nat.le_refl _⟩, ⟨dZ kI.out⟩, ⟨gW eJ.out⟩, ⟨gW lY.out⟩, ⟨dD HB sE aCE⟩⟩
           case round =>
            clear H';(try clear c1);(try clear c2);(try clear p2);(try clear c3);(try clear p3);(try clear q3);(try clear hx3);(try clear c4);(try clear c5);(try clear sZ);(try clear KI);(try clear c6);(try clear p6);(try clear c9);(try clear uJ);(try clear FH);(try clear KR);(try clear aFH);(try clear YT);(try clear aKf);(try clear c16);(try clear aKd);(try clear KQ);(try clear YS);(try clear c18);(try clear YR);(try clear RA);(try clear aCs);(try clear aCr);(try clear c27);(try clear c30);(try clear YP);(try clear MU);(try clear MT);(try clear MS);(try clear DC);(try clear DB);(try clear DA);(try clear nS);(try clear nR);(try clear nQ);(try clear MI);(try clear MH);(try clear MG);(try clear CT);(try clear CS);(try clear CR);(try clear nP);(try clear nO);(try clear nN);(try clear hx363_0);(try clear hx364_0);(try clear p2);(try clear p3);(try clear aAm);(try clear aAl);(try clear p6);(try clear q3);(try clear q363);(try clear q364);obtain ⟨pS, jZ, tW, rfl, HA, HK4, kI, eJ, lY, HB⟩ := hrel
            cases gk with
            | zero => exact absurd HA.out (by simp [aQ.l3])
            | succ k4 =>
             have H := HA.out;clear HA;simp only [aQ.l3] at H
             by_cases NB : pS < (l1.length : Int)
             ·rw [if_pos NB] at H
              have aCq : decide (pS < (l1.length : Int)) = true := decide_eq_true NB;clear NB
              by_cases c32 : 0 ≤ nA
              ·rw [if_pos c32] at H
               have aYJ : decide (0 ≤ nA) = true := decide_eq_true c32;clear c32
               by_cases c33 : nA < (l0.length : Int)
               ·rw [if_pos c33] at H
                have aYI : decide (nA < (l0.length : Int)) = true := decide_eq_true c33;clear c33
                by_cases c34 : 0 ≤ pS
                ·rw [if_pos c34] at H
                 have aYH : decide (0 ≤ pS) = true := decide_eq_true c34;clear c34;replace H := Option.bind_eq_some_iff.mp H;obtain ⟨⟨aIq, aWl⟩, aKL, H⟩ := H;replace H : (if 0 ≤ (wrap64 ((wrap64 (nA * zT)) + pS)) then (if (wrap64 ((wrap64 (nA * zT)) + pS)) < (jZ.length : Int) then (aQ.l3 k4 l0 l1 nA (wrap64 (pS + 1)) EE zT (jZ.set ((wrap64 ((wrap64 (nA * zT)) + pS)) : Int).toNat aIq)) else (none)) else (none)) = some (r1, r2, r3, r4) := H;have A35 := aA.mk aKL;clear aKL;obtain ⟨OP, aEF⟩ : ∃ j_ : Int, (wrap64 ((wrap64 (nA * zT)) + pS)) = j_ := ⟨_, rfl⟩
                 replace H : (if 0 ≤ (OP) then (if (OP) < (jZ.length : Int) then (aQ.l3 k4 l0 l1 nA (wrap64 (pS + 1)) EE zT (jZ.set ((OP) : Int).toNat aIq)) else (none)) else (none)) = some (r1, r2, r3, r4) := by first | (rw [aEF] at H; exact H) | (simp only [aEF] at H ⊢; exact H)
                 (try rw [aEF] at A35);have aWH : (IntKind.i64.wrap ((wrap64 (nA * zT)) + pS)) = OP := (bJ _).trans aEF
                 by_cases c37 : 0 ≤ (OP)
                 ·rw [if_pos c37] at H
                  have aNX : decide (0 ≤ (OP)) = true := decide_eq_true c37;clear c37
                  by_cases c38 : (OP) < (jZ.length : Int)
                  ·rw [if_pos c38] at H
                   have aFD : decide ((OP) < (jZ.length : Int)) = true := decide_eq_true c38;clear c38;obtain ⟨y375, hy375⟩ : ∃ y_ : List Int, y_ = (jZ.set ((OP) : Int).toNat aIq) := ⟨_, rfl⟩
                   replace H : (aQ.l3 k4 l0 l1 nA (wrap64 (pS + 1)) EE zT y375) = some (r1, r2, r3, r4) := by first | (rw [hy375]; with_reducible exact H) | (have H2_ := (Option.bind_some _ _).symm.trans H; rw [hy375]; with_reducible exact H2_) | (have H2_ := (Option.bind_some _ _).symm.trans H; with_reducible exact H2_) | with_reducible exact H | (rw [hy375]; exact H) | exact H
                   have Ny375 := aA.mk hy375;clear hy375;have H' := aA.mk H;clear H
                   try go_wp2
                   replace kI := aA.mk (Kd.bK kI.out);replace eJ := aA.mk (aH eJ.out);replace lY := aA.mk (aH lY.out);replace HB := aA.mk (dY HB.out);have aPb : 0 ≤ (nA : Int) := of_decide_eq_true sJ;have q371 : nA < (l0.length : Int) := of_decide_eq_true sJ;obtain ⟨ad371, e371, hx371_0⟩ := Kd.uE HR0.out nA aPb q371;have RS := hx371_0
                   cases e371
                   replace hx371_0 := (HB.out.cell (World.block_lt_of_cell? w _ hx371_0)).trans hx371_0;replace aPb := eq_true aPb;replace q371 := eq_true q371;have aPa : 0 ≤ (pS : Int) := of_decide_eq_true sJ;have q372 : pS < (l1.length : Int) := of_decide_eq_true sJ;obtain ⟨ad372, e372, hx372_0⟩ := Kd.uE tS.out pS aPa q372;have RQ := hx372_0
                   cases e372
                   replace hx372_0 := (HB.out.cell (World.block_lt_of_cell? w _ hx372_0)).trans hx372_0;replace aPa := eq_true aPa;replace q372 := eq_true q372;refine sV (n := 23) (S := fun w' => w'.cell? ⟨uI, 0, none⟩ = some (.int .i64 EE) ∧ w'.cell? ⟨uI, 1, none⟩ = some (.int .i64 zT) ∧ w'.cell? ⟨uI, 2, none⟩ = some (tW) ∧ w'.cell? (ad371.add (nA).toNat) = some (.int .u8 (rd l0 nA)) ∧ w'.cell? (ad372.add (pS).toNat) = some (.int .u8 (rd l1 pS))) (ds := [22]) #[false, false, false, false, false, false, false, false, false, false, false, false, false, false, false, false, false, false, false, false, false, false, false] (by kernel_rfl) rfl rfl ⟨(aD lY.out 0).trans rfl, (aD lY.out 1).trans rfl, (aD lY.out 2).trans rfl, ((HB.out.cell (World.block_lt_of_cell? w _ RS)).trans RS), ((HB.out.cell (World.block_lt_of_cell? w _ RQ)).trans RQ)⟩ (fun hHeld => ?_); refine kB aQ.aQD aQ.aPO (fun HT_ HW_ => ?_);generalize wr.drew = w40 at kI eJ lY HB hx371_0 hx372_0 hHeld ⊢;refine cF (i := 0) (N := some 64) (v := ?_) (a' := ?_) #[true, false, false, false, false, false, false, false, false, false, false, false, false, false, false, false, false, false, false, false, false, false, false] rfl rfl (bX HT_.out (by kernel_rfl)) (fun _ _ _ h => h) (Or.inl ⟨by rfl, ?_⟩) ?_ ?_;rotate_left
                   ·intro w'
                    go_simp;(with_reducible rfl)
                   rotate_left
                   ·simp only [Act.put, cW, cT, cZ, bJ, bM]
                    rfl
                   refine cF (i := 2) (N := some 66) (v := ?_) (a' := ?_) #[true, false, true, false, false, false, false, false, false, false, false, false, false, false, false, false, false, false, false, false, false, false, false] rfl rfl (bX HT_.out (by kernel_rfl)) (fun _ _ _ h => h) (Or.inl ⟨by rfl, ?_⟩) ?_ ?_;rotate_left
                   ·intro w'
                    go_simp;(with_reducible rfl)
                   rotate_left
                   ·simp only [Act.put, cW, cT, cZ, bJ, bM]
                    rfl
                   refine cF (i := 3) (N := some 67) (v := ?_) (a' := ?_) #[true, false, true, true, false, false, false, false, false, false, false, false, false, false, false, false, false, false, false, false, false, false, false] rfl rfl (bX HT_.out (by kernel_rfl)) (fun _ _ _ h => h) (Or.inl ⟨by rfl, ?_⟩) ?_ ?_;rotate_left
                   ·intro w'
                    go_simp;(with_reducible rfl)
                   rotate_left
                   ·simp only [Act.put, cW, cT, cZ, bJ, bM]
                    rfl
                   refine cF (i := 6) (N := some 70) (v := ?_) (a' := ?_) #[true, false, true, true, false, false, true, false, false, false, false, false, false, false, false, false, false, false, false, false, false, false, false] rfl rfl (bX HT_.out (by kernel_rfl)) (fun _ _ _ h => h) (Or.inl ⟨by rfl, ?_⟩) ?_ ?_;rotate_left
                   ·intro w'
                    go_simp;(with_reducible rfl)
                   rotate_left
                   ·simp only [Act.put, cW, cT, cZ, bJ, bM]
                    rfl
                   refine cF (i := 8) (N := some 72) (v := ?_) (a' := ?_) #[true, false, true, true, false, false, true, false, true, false, false, false, false, false, false, false, false, false, false, false, false, false, false] rfl rfl (bX HT_.out (by kernel_rfl)) (fun _ _ _ h => h) (Or.inl ⟨by rfl, ?_⟩) ?_ ?_;rotate_left
                   ·intro w'
                    go_simp;(with_reducible rfl)
                   rotate_left
                   ·simp only [Act.put, cW, cT, cZ, bJ, bM]
                    rfl
                   refine cF (i := 9) (N := some 73) (v := ?_) (a' := ?_) #[true, false, true, true, false, false, true, false, true, true, false, false, false, false, false, false, false, false, false, false, false, false, false] rfl rfl (bX HT_.out (by kernel_rfl)) (fun _ _ _ h => h) (Or.inl ⟨by rfl, ?_⟩) ?_ ?_;rotate_left
                   ·intro w'
                    go_simp;(with_reducible rfl)
                   rotate_left
                   ·simp only [Act.put, cW, cT, cZ, bJ, bM]
                    rfl
                   refine cF (i := 10) (N := some 74) (v := ?_) (a' := ?_) #[true, false, true, true, false, false, true, false, true, true, true, false, false, false, false, false, false, false, false, false, false, false, false] rfl rfl (bX HT_.out (by kernel_rfl)) (fun _ _ _ h => h) (Or.inl ⟨by rfl, ?_⟩) ?_ ?_;rotate_left
                   ·intro w'
                    go_simp;(with_reducible rfl)
                   rotate_left
                   ·simp only [Act.put, cW, cT, cZ, bJ, bM]
                    rfl
                   refine cF (i := 12) (N := some 76) (v := ?_) (a' := ?_) #[true, false, true, true, false, false, true, false, true, true, true, false, true, false, false, false, false, false, false, false, false, false, false] rfl rfl (bX HT_.out (by kernel_rfl)) (fun _ _ _ h => h) (Or.inl ⟨by rfl, ?_⟩) ?_ ?_;rotate_left
                   ·intro w'
                    go_simp;(with_reducible rfl)
                   rotate_left
                   ·simp only [Act.put, cW, cT, cZ, bJ, bM]
                    rfl
                   refine cF (i := 13) (N := some 77) (v := ?_) (a' := ?_) #[true, false, true, true, false, false, true, false, true, true, true, false, true, true, false, false, false, false, false, false, false, false, false] rfl rfl (bX HT_.out (by kernel_rfl)) (fun _ _ _ h => h) (Or.inl ⟨by rfl, ?_⟩) ?_ ?_;rotate_left
                   ·intro w'
                    go_simp;(with_reducible rfl)
                   rotate_left
                   ·simp only [Act.put, cW, cT, cZ, bJ, bM]
                    rfl
                   refine cF (i := 14) (N := some 78) (v := ?_) (a' := ?_) #[true, false, true, true, false, false, true, false, true, true, true, false, true, true, true, false, false, false, false, false, false, false, false] rfl rfl (bX HT_.out (by kernel_rfl)) (fun _ _ _ h => h) (Or.inl ⟨by rfl, ?_⟩) ?_ ?_;rotate_left
                   ·intro w'
                    go_simp;(with_reducible rfl)
                   rotate_left
                   ·simp only [Act.put, cW, cT, cZ, bJ, bM]
                    rfl
                   refine fW (i := 1) (N := some 65) (v := ?_) (a' := ?_) #[true, true, true, true, false, false, true, false, true, true, true, false, true, true, true, false, false, false, false, false, false, false, false] rfl rfl (dQ HT_.out HW_.out (by kernel_rfl)) (fun _ _ _ h => h) (Or.inl ⟨by rfl, ?_⟩) hHeld ?_ ?_;rotate_left
                   ·rintro w' ⟨s0, s1, s2, s3, s4⟩
                    go_simp;(with_reducible rfl)
                   rotate_left
                   ·simp only [Act.put, cW, cT, cZ, bJ, bM]
                    rfl
                   refine fW (i := 4) (N := some 68) (v := ?_) (a' := ?_) #[true, true, true, true, true, false, true, false, true, true, true, false, true, true, true, false, false, false, false, false, false, false, false] rfl rfl (dQ HT_.out HW_.out (by kernel_rfl)) (fun _ _ _ h => h) (Or.inl ⟨by rfl, ?_⟩) hHeld ?_ ?_;rotate_left
                   ·rintro w' ⟨s0, s1, s2, s3, s4⟩
                    go_simp;(with_reducible rfl)
                   rotate_left
                   ·simp only [Act.put, cW, cT, cZ, bJ, bM]
                    rfl
                   refine cF (i := 5) (N := some 69) (v := ?_) (a' := ?_) #[true, true, true, true, true, true, true, false, true, true, true, false, true, true, true, false, false, false, false, false, false, false, false] rfl rfl (bX HT_.out (by kernel_rfl)) (fun _ _ _ h => h) (Or.inl ⟨by rfl, ?_⟩) ?_ ?_;rotate_left
                   ·intro w'
                    go_simp;(with_reducible rfl)
                   rotate_left
                   ·simp only [Act.put, cW, cT, cZ, bJ, bM]
                    rfl
                   refine cF (i := 7) (N := some 71) (v := ?_) (a' := ?_) #[true, true, true, true, true, true, true, true, true, true, true, false, true, true, true, false, false, false, false, false, false, false, false] rfl rfl (bX HT_.out (by kernel_rfl)) (fun _ _ _ h => h) (Or.inl ⟨by rfl, ?_⟩) ?_ ?_;rotate_left
                   ·intro w'
                    go_simp;(with_reducible rfl)
                   rotate_left
                   ·simp only [Act.put, cW, cT, cZ, bJ, bM]
                    rfl
                   refine fW (i := 11) (N := some 75) (v := ?_) (a' := ?_) #[true, true, true, true, true, true, true, true, true, true, true, true, true, true, true, false, false, false, false, false, false, false, false] rfl rfl (dQ HT_.out HW_.out (by kernel_rfl)) (fun _ _ _ h => h) (Or.inl ⟨by rfl, ?_⟩) hHeld ?_ ?_;rotate_left
                   ·rintro w' ⟨s0, s1, s2, s3, s4⟩
                    go_simp;(with_reducible rfl)
                   rotate_left
                   ·simp only [Act.put, cW, cT, cZ, bJ, bM]
                    rfl
                   refine fW (i := 15) (N := some 79) (v := ?_) (a' := ?_) #[true, true, true, true, true, true, true, true, true, true, true, true, true, true, true, true, false, false, false, false, false, false, false] rfl rfl (dQ HT_.out HW_.out (by kernel_rfl)) (fun _ _ _ h => h) (Or.inl ⟨by rfl, ?_⟩) hHeld ?_ ?_;rotate_left
                   ·rintro w' ⟨s0, s1, s2, s3, s4⟩
                    go_simp;(with_reducible rfl)
                   rotate_left
                   ·simp only [Act.put, cW, cT, cZ, bJ, bM]
                    rfl
                   refine cF (i := 16) (N := some 80) (v := ?_) (a' := ?_) #[true, true, true, true, true, true, true, true, true, true, true, true, true, true, true, true, true, false, false, false, false, false, false] rfl rfl (bX HT_.out (by kernel_rfl)) (fun _ _ _ h => h) (Or.inl ⟨by rfl, ?_⟩) ?_ ?_;rotate_left
                   ·intro w'
                    go_simp;(with_reducible rfl)
                   rotate_left
                   ·simp only [Act.put, cW, cT, cZ, bJ, bM]
                    rfl
                   refine AV (i := 17) (N := some 81) #[true, true, true, true, true, true, true, true, true, true, true, true, true, true, true, true, true, true, false, false, false, false, false] rfl rfl (iP HT_.out (by kernel_rfl)) (by decide) (fun K hK => ?_);refine AX Try.func46 (by kernel_rfl) rfl #[.int .u8 (Go.bits .xor .u8 (rd l0 nA) (rd l1 pS))] (by rfl) rfl rfl kR ?_
                   with_reducible refine (eQ.calls (Go.bits .xor .u8 (rd l0 nA) (rd l1 pS)) aIq aWl _ A35.out).mono ?_
                   rintro e w' ⟨rfl, ⟨nd, rfl⟩⟩;refine ⟨_, rfl, ?_⟩;have p39 : 0 ≤ ((OP) : Int) := of_decide_eq_true sJ;have q39 : ((OP) : Int) < ((jZ.length : Int) : Int) := of_decide_eq_true sJ;obtain ⟨go39, aXd, eo39, aRN, gl39, cl39, HG39⟩ := Kd.AE kI.out (by omega)
                   (first | cases eo39 | (injection eo39 with ea_ en_ ec_; (first | subst ea_ | (injection ea_ with ea_; subst ea_)); subst ec_; clear en_));have GB39 := aA.mk aRN;have GG39 := aA.mk HG39;clear aRN gl39 HG39;obtain ⟨hx39_0, hf39_0⟩ := Kd.rS 0 kI.out ((OP) : Int) p39 q39;replace p39 := eq_true p39;replace q39 := eq_true q39;have HP41 := Kd.KM kI.out ((OP) : Int) aIq;rw [← Ny375.out] at HP41;have HQ41 := aA.mk HP41;clear HP41;refine hK.out _ _ ⟨(aD lY.out 0).trans rfl, (aD lY.out 1).trans rfl, (aD lY.out 2).trans rfl, ((HB.out.cell (World.block_lt_of_cell? w _ RS)).trans RS), ((HB.out.cell (World.block_lt_of_cell? w _ RQ)).trans RQ)⟩ (fun hHeld => ?_);clear hK K;refine sB (a' := ?_) ?_ ?_;rotate_left
                   ·show Act.put _ (some 81) _ = _
                    simp only [Act.put, cW, cT, cZ, bJ, bM];rfl
                   refine cF (i := 18) (N := some 63) (v := ?_) (a' := ?_) #[true, true, true, true, true, true, true, true, true, true, true, true, true, true, true, true, true, true, true, false, false, false, false] rfl rfl (bX HT_.out (by kernel_rfl)) (fun _ _ _ h => h) (Or.inl ⟨by rfl, ?_⟩) ?_ ?_;rotate_left
                   ·intro w'
                    go_simp;(with_reducible rfl)
                   rotate_left
                   ·simp only [Act.put, cW, cT, cZ, bJ, bM]
                    rfl
                   refine cF (i := 19) (N := some 82) (v := ?_) (a' := ?_) #[true, true, true, true, true, true, true, true, true, true, true, true, true, true, true, true, true, true, true, true, false, false, false] rfl rfl (bX HT_.out (by kernel_rfl)) (fun _ _ _ h => h) (Or.inl ⟨by rfl, ?_⟩) ?_ ?_;rotate_left
                   ·intro w'
                    go_simp;(with_reducible rfl)
                   rotate_left
                   ·simp only [Act.put, cW, cT, cZ, bJ, bM]
                    rfl
                   refine cF (i := 20) (N := some 83) (v := ?_) (a' := ?_) #[true, true, true, true, true, true, true, true, true, true, true, true, true, true, true, true, true, true, true, true, true, false, false] rfl rfl (bX HT_.out (by kernel_rfl)) (fun _ _ _ h => h) (Or.inl ⟨by rfl, ?_⟩) ?_ ?_;rotate_left
                   ·intro w'
                    go_simp;(with_reducible rfl)
                   rotate_left
                   ·simp only [Act.put, cW, cT, cZ, bJ, bM]
                    rfl
                   refine cF (i := 21) (N := some 84) (v := ?_) (a' := ?_) #[true, true, true, true, true, true, true, true, true, true, true, true, true, true, true, true, true, true, true, true, true, true, false] rfl rfl (bX HT_.out (by kernel_rfl)) (fun _ _ _ h => h) (Or.inl ⟨by rfl, ?_⟩) ?_ ?_;rotate_left
                   ·intro w'
                    go_simp;(with_reducible rfl)
                   rotate_left
                   ·simp only [Act.put, cW, cT, cZ, bJ, bM]
                    rfl
                   refine PV (i := 22) (N := none) #[true, true, true, true, true, true, true, true, true, true, true, true, true, true, true, true, true, true, true, true, true, true, true] rfl rfl (iP HT_.out (by kernel_rfl)) (by decide) (fun K hK => ?_);refine JH (w1 := ?_) (by rfl) rfl ?_ ?_;rotate_left
                   ·go_simp
                    rfl
                   refine hK.out _ _ ?_;clear hK K;refine xS (rR HT_.out (by kernel_rfl)) ?_
                   try go_wp2
                   go_roundg k4
                   case measure => have := HJ2.out; have := uN.out; have := FW.out; have := HK4.out; omega
                   case rel => exact ⟨(wrap64 (pS + 1)), (y375), (.slice (some ⟨go39, 0, none⟩) jZ.length aXd), kT, H', ⟨by have := HJ2.out; have := uN.out; have := FW.out; have := HK4.out; omega⟩, ⟨dZ HQ41.out⟩, ⟨by (with_reducible repeat first | apply aE | apply aH | apply aG); refine bE ?_ (by have h_ := Kd.lV kI.out eJ.out (by decide); intro e_; exact h_ (by rw [e_]; rfl)) _; (with_reducible repeat first | apply aE | apply aH | apply aG); exact eJ.out⟩, ⟨by (with_reducible repeat first | apply aE | apply aH | apply aG); refine bE ?_ (by have h_ := Kd.lV kI.out lY.out (by decide); intro e_; exact h_ (by rw [e_]; rfl)) _; (with_reducible repeat first | apply aE | apply aH | apply aG); exact lY.out⟩, ⟨gL HB GB39 sE aCE⟩⟩
                  ·rw [if_neg c38] at H
                   exact absurd H (by simp)
                 ·rw [if_neg c37] at H
                  exact absurd H (by simp)
                ·rw [if_neg c34] at H
                 exact absurd H (by simp)
               ·rw [if_neg c33] at H
                exact absurd H (by simp)
              ·rw [if_neg c32] at H
               exact absurd H (by simp)
             ·rw [if_neg NB] at H
              have aCq : decide (pS < (l1.length : Int)) = false := decide_eq_false NB;clear NB;have H' := aA.mk H;clear H
              go_wp2
              go_roundg k4
              case measure => have := HJ2.out; have := uN.out; have := FW.out; have := HK4.out; omega
              case rel => exact ⟨(wrap64 (nA + 1)), (jZ), (tW), kT, H', ⟨by have := HJ2.out; have := uN.out; have := FW.out; have := HK4.out; omega⟩, ⟨dZ kI.out⟩, ⟨gW eJ.out⟩, ⟨gW lY.out⟩, ⟨dD HB sE aCE⟩⟩
          ·rw [if_neg c30] at H
           have YP : decide (nA < (l0.length : Int)) = false := decide_eq_false c30;clear c30;simp only [Option.some.injEq, Prod.mk.injEq] at H;obtain ⟨rfl, rfl, rfl, rfl⟩ := H;have aNF := YX.out;have aNx := BD.out;have aME : wr.cell? ⟨uI, 0, none⟩ = some (.int .i64 EE) := (aD lY.out 0).trans rfl;have aMD : wr.cell? ⟨uI, 1, none⟩ = some (.int .i64 zT) := (aD lY.out 1).trans rfl;have aMC : wr.cell? ⟨uI, 2, none⟩ = some (tW) := (aD lY.out 2).trans rfl;have aMg := aC lY.out 0;have aMf := aC lY.out 1;have aMe := aC lY.out 2;have aFk : wr.cell? ⟨pW, 0, none⟩ = some (.int .i64 uS) := (aD eJ.out 0).trans rfl;have aFj : wr.cell? ⟨pW, 1, none⟩ = some (.int .i64 tA) := (aD eJ.out 1).trans rfl;have aFi : wr.cell? ⟨pW, 2, none⟩ = some (.slice none 0 0) := (aD eJ.out 2).trans rfl;have aEP := aC eJ.out 0;have aEO := aC eJ.out 1;have aEN := aC eJ.out 2;obtain ⟨aTj, aSa, eo45⟩ := Kd.cH kI.out;subst eo45
           go_wp2
           refine bodyPost_ret (cS rfl _ _ pW 24 #[.int .i64 EE, .int .i64 zT, .slice aTj wQ.length aSa] (0, 0) _ rfl (by (with_reducible repeat first | apply aE | apply aH | apply aG); refine bA (cs := #[.int .i64 EE, .int .i64 zT, .slice none 0 0]) ?_ 2 _ rfl; (with_reducible repeat first | apply aE | apply aH | apply aG); refine bA (cs := #[.int .i64 EE, .int .i64 tA, .slice none 0 0]) ?_ 1 _ rfl; (with_reducible repeat first | apply aE | apply aH | apply aG); refine bA (cs := #[.int .i64 uS, .int .i64 tA, .slice none 0 0]) ?_ 0 _ rfl; (with_reducible repeat first | apply aE | apply aH | apply aG); exact eJ.out) Try.underlying24 rfl (by kernel_rfl)) rfl ?_;exact ⟨_, tZ, by (with_reducible repeat first | apply Kd.bG | apply Kd.bF | apply Kd.bK); exact Kd.bN (Kd.aZ (p := ⟨pW, 2, none⟩) (Kd.aZ (p := ⟨pW, 1, none⟩) (Kd.aZ (p := ⟨pW, 0, none⟩) (Kd.bQ kI.out eJ.out (by decide)) (fun _ hk => hk.2) (.int .i64 EE)) (fun _ hk => hk.2) (.int .i64 zT)) (fun _ hk => hk.2) (.slice aTj wQ.length aSa)) (fun _ hk => trivial), dD HB sE aCE⟩
    ·rw [if_neg c9] at H
     exact absurd H (by simp)
end Go.Proofs.Yteofcbkjhdadpaa.Pr
