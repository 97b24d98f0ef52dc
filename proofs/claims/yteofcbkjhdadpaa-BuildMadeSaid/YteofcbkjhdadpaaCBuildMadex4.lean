import Derived.Test.YteofcbkjhdadpaaCBuildMadex0
import Derived.Test.YteofcbkjhdadpaaCBuildMadex2
set_option maxHeartbeats 8000000
set_option maxRecDepth 100000
set_option linter.unusedSimpArgs false
set_option linter.unusedVariables false
namespace Go.Proofs.Yteofcbkjhdadpaa.Pr
open Go.RowKit Go.Proofs.aI.bC Go.Proofs.aI.eW Go.Proofs.aI.jH
attribute [local go_sem] nM nK rG qZ kG kF nL nJ   -- for this text's walks alone
mutual
def aM.l0 : Nat → List Int → Int → Int → Int → List Int → Option (Int × Int × List Int × List Int)
 | 0, _, _, _, _, _ => none
 | k + 1, x4, x5, gK, eG, fZ => if x5 < eG then (aM.l1 k x4 x5 (x4.length : Int) (x4.length : Int) gK eG fZ) else (some (gK, eG, fZ, x4))
def aM.l1 : Nat → List Int → Int → Int → Int → Int → Int → List Int → Option (Int × Int × List Int × List Int)
 | 0, _, _, _, _, _, _, _ => none
 | k + 1, x4, x5, x6, x7, gK, eG, fZ => if x7 < gK then ((cJ.f gK eG fZ x7 x5).bind fun t190 => (if t190 = 0 then (aM.l1 k x4 x5 x6 (wrap64 (x7 + 1)) gK eG fZ) else ((eQ.f t190).bind fun aKk => (aM.l2 k x4 x5 x6 x7 aKk.1 0 gK eG fZ)))) else (aM.l0 k x4 (wrap64 (x5 + 1)) gK eG fZ)
def aM.l2 : Nat → List Int → Int → Int → Int → Int → Int → Int → Int → List Int → Option (Int × Int × List Int × List Int)
 | 0, _, _, _, _, _, _, _, _, _ => none
 | k + 1, x4, x5, x6, x7, x9, x11, gK, eG, fZ => if x11 < eG then ((cJ.f gK eG fZ x6 x11).bind fun t193 => ((cJ.f gK eG fZ x7 x11).bind fun t194 => (if 0 ≤ (wrap64 ((wrap64 (x7 * eG)) + x11)) then (if (wrap64 ((wrap64 (x7 * eG)) + x11)) < (fZ.length : Int) then ((cU.f x9 t194).bind fun t196 => (if 0 ≤ (wrap64 ((wrap64 (x6 * eG)) + x11)) then (if (wrap64 ((wrap64 (x6 * eG)) + x11)) < (fZ.length : Int) then (aM.l2 k x4 x5 x6 x7 x9 (wrap64 (x11 + 1)) gK eG ((fZ.set ((wrap64 ((wrap64 (x7 * eG)) + x11)) : Int).toNat t193).set ((wrap64 ((wrap64 (x6 * eG)) + x11)) : Int).toNat t196)) else (none)) else (none))) else (none)) else (none)))) else (aM.l3 k x4 x5 x6 0 gK eG fZ)
def aM.l3 : Nat → List Int → Int → Int → Int → Int → Int → List Int → Option (Int × Int × List Int × List Int)
 | 0, _, _, _, _, _, _, _ => none
 | k + 1, x4, x5, x6, TT, gK, eG, fZ => if TT < gK then ((cJ.f gK eG fZ TT x5).bind fun t201 => (aM.l4 k x4 x5 x6 TT t201 0 gK eG fZ)) else (if x4.length < 17592186044416 then (aM.l0 k (x4 ++ [x5]) (wrap64 (x5 + 1)) gK eG fZ) else (none))
def aM.l4 : Nat → List Int → Int → Int → Int → Int → Int → Int → Int → List Int → Option (Int × Int × List Int × List Int)
 | 0, _, _, _, _, _, _, _, _, _ => none
 | k + 1, x4, x5, x6, TT, x15, x16, gK, eG, fZ => if x16 < eG then (aM.j5 k x4 x5 x6 TT x15 x16 (TT != x6) gK eG fZ) else (aM.j5 k x4 x5 x6 TT x15 x16 false gK eG fZ)
def aM.j5 : Nat → List Int → Int → Int → Int → Int → Int → Bool → Int → Int → List Int → Option (Int × Int × List Int × List Int)
 | 0, _, _, _, _, _, _, _, _, _, _ => none
 | k + 1, x4, x5, x6, TT, x15, x16, x97, gK, eG, fZ => if x97 = true then (if 0 ≤ (wrap64 ((wrap64 (TT * eG)) + x16)) then (if (wrap64 ((wrap64 (TT * eG)) + x16)) < (fZ.length : Int) then ((cJ.f gK eG fZ x6 x16).bind fun t203 => ((cU.f x15 t203).bind fun t204 => (aM.l4 k x4 x5 x6 TT x15 (wrap64 (x16 + 1)) gK eG (fZ.set ((wrap64 ((wrap64 (TT * eG)) + x16)) : Int).toNat (Go.bits .xor .u8 (rd fZ (wrap64 ((wrap64 (TT * eG)) + x16))) t204))))) else (none)) else (none)) else (aM.l3 k x4 x5 x6 (wrap64 (TT + 1)) gK eG fZ)
end
def aM.f (k : Nat) (aV : Int) (aT : Int) (bB : List Int) : Option (Int × Int × List Int × List Int) := aM.l0 k ([] : List Int) 0 aV aT bB
def aM.T15 : Bool × List (List Nat × List Nat) := (true, [([], []), ([], []), ([], []), ([0, 1, 2], [0, 1, 2]), ([], []), ([], []), ([], []), ([4, 5, 6, 3], [4, 5, 6]), ([3, 7, 0, 1, 2, 3], [3]), ([7, 8, 0, 1, 2, 3, 4, 5, 6, 7, 8], [7])])
def aM.B15 : List Nat := [0, 0, 0, 7, 0, 0, 0, 127, 255, 511]
theorem aM.aQF : sI .any (opsOf Try.f86 15) = aM.T15 := by kernel_rfl
theorem aM.aPQ : mJ aM.T15.2 aM.B15 = true := by kernel_rfl
def aM.T17 : Bool × List (List Nat × List Nat) := (true, [([], []), ([0], [0]), ([], []), ([], []), ([3], [3]), ([2, 4], [2, 4]), ([], []), ([5, 6], [5, 6]), ([], []), ([], []), ([8, 9], [8, 9]), ([1, 7, 0, 1, 2, 3, 4, 5, 6, 7, 8, 9, 10], [1, 7]), ([11, 10, 10, 0, 1, 2, 3, 4, 5, 6, 7, 8, 9, 10], [10, 11])])
def aM.B17 : List Nat := [0, 1, 0, 0, 8, 28, 0, 124, 0, 0, 768, 2047, 4095]
theorem aM.aQE : sI .any (opsOf Try.f86 17) = aM.T17 := by kernel_rfl
theorem aM.aPP : mJ aM.T17.2 aM.B17 = true := by kernel_rfl
def aM.T25 : Bool × List (List Nat × List Nat) := (true, [([], []), ([0], [0]), ([], []), ([], []), ([3], [3]), ([2, 4], [2, 4]), ([], []), ([5, 6], [5, 6]), ([1, 7], [1, 7]), ([8], [8]), ([], []), ([], []), ([], []), ([], []), ([11, 12, 13], [11, 12, 13]), ([10, 14, 14], [10, 14]), ([9, 15], [9, 15]), ([1, 7, 0, 1, 2, 3, 4, 5, 6, 7, 8, 9, 10, 11, 12, 13, 14, 15, 16], [1, 7]), ([17, 16, 15, 0, 1, 2, 3, 4, 5, 6, 7, 8, 9, 10, 11, 12, 13, 14, 15, 16], [16, 17])])
def aM.B25 : List Nat := [0, 1, 0, 0, 8, 28, 0, 124, 255, 511, 0, 0, 0, 0, 14336, 31744, 65535, 131071, 262143]
theorem aM.aQC : sI .any (opsOf Try.f86 25) = aM.T25 := by kernel_rfl
theorem aM.aPN : mJ aM.T25.2 aM.B25 = true := by kernel_rfl
theorem aM.calls (k : Nat) (aV : Int) (aT : Int) (P0_2_ : Nat → Prop) (aCT : Value) (bB : List Int) (r1 : Int) (r2 : Int) (r3 : List Int) (r4 : List Int) (w0 w : World) (hB : Below w0.heap.size w0 w) (ho0_2 : Kd.R (Kd.int .u8) 5 w w0.heap.size P0_2_ aCT bB) (h : aM.f k aV aT bB = some (r1, r2, r3, r4)) :
  Calls Try.prog 86 #[.agg #[.int .i64 aV, .int .i64 aT, aCT]] w fun e w' => ∃ qW v3_ : Value, e = .returned (.tuple #[.agg #[.int .i64 r1, .int .i64 r2, qW], v3_]) ∧ Kd.R (Kd.int .u8) 5 w' w0.heap.size (fun k_ => (P0_2_ k_ ∨ w.heap.size ≤ k_)) qW r3 ∧ Kd.R (Kd.int .i64) 3 w' w0.heap.size (fun k_ => (P0_2_ k_ ∨ w.heap.size ≤ k_)) v3_ r4 ∧ Below w0.heap.size w0 w' ∧ Kept w w' (fun k_ => P0_2_ k_) := by
 have wA := Try.underlying24;have ZC := aA.mk (show Kd.R (Kd.int .u8) 5 w w0.heap.size (fun k_ => (P0_2_ k_ ∨ w.heap.size ≤ k_)) aCT bB from Kd.bN ho0_2 (fun k_ hk => (.inl hk)));have HK := aA.mk (Kept.refl w (fun k_ => P0_2_ k_));have HW0 := aA.mk hB.size;have HB := aA.mk hB;clear hB;have H : (aM.l0 k ([] : List Int) 0 aV aT bB) = some (r1, r2, r3, r4) := h;clear h;have H' := aA.mk H;clear H;obtain ⟨Ao2, co2, eo2⟩ := Kd.cH ZC.out;subst eo2;go_enter Try.func86, Try.ntmps86;go_wp2_with (first | ((with_reducible refine bR (N := 1) rfl ?_); refine bL ?hg (N := 1) ?hd (cs := #[.int .i64 aV, .int .i64 aT, .slice Ao2 bB.length co2]) (t := 24) ?hr ?_; (case hd => rfl); (case hg => rfl); (case hr => first | (go_simp; done) | (go_simp; rfl)); intro eT hg w3 hbox hb; replace ZC := aA.mk (Kd.bW (dZ ZC.out) hb); have cB := aA.mk (hbox); have pG := aA.mk ((by rw [hg]; exact (by first | exact HK.out.1 | exact (show Kept w _ (fun k_ => P0_2_ k_) from by repeat (first | (with_reducible first | exact HK.out | apply Kept.alloc | apply Kept.drewN | apply Kept.drew) | exact HK.out)).1) : w.heap.size ≤ eT)); replace HK := aA.mk (Kept.below (S := (fun k_ => P0_2_ k_)) (by repeat (first | (with_reducible first | exact HK.out | apply Kept.alloc | apply Kept.drewN | apply Kept.drew) | exact HK.out)) hb); have qG := aA.mk ((by rw [hg]; exact (aJ (cV HB)) : w0.heap.size ≤ eT)); replace HB := aA.mk (aN (cV HB) hb); clear hb hbox hg) | ((with_reducible refine bR (N := 2) rfl ?_); refine bL ?hg (N := 2) ?hd (cs := #[.int .i64 0, .int .i64 0, .slice none 0 0]) (t := 24) ?hr ?_; (case hd => rfl); (case hg => rfl); (case hr => first | (go_simp; done) | (go_simp; rfl)); intro tG hg w4 hbox hb; replace ZC := aA.mk (Kd.bW (dZ ZC.out) hb); have eK := aA.mk (hbox); have qS := aA.mk ((by rw [hg]; exact (by first | exact HK.out.1 | exact (show Kept w _ (fun k_ => P0_2_ k_) from by repeat (first | (with_reducible first | exact HK.out | apply Kept.alloc | apply Kept.drewN | apply Kept.drew | refine Kept.setCell ?_ (.inr pG.out) _) | exact HK.out)).1) : w.heap.size ≤ tG)); replace HK := aA.mk (Kept.below (S := (fun k_ => P0_2_ k_)) (by repeat (first | (with_reducible first | exact HK.out | apply Kept.alloc | apply Kept.drewN | apply Kept.drew | refine Kept.setCell ?_ (.inr pG.out) _) | exact HK.out)) hb); have sG := aA.mk ((by rw [hg]; exact (aJ (cI HB qG)) : w0.heap.size ≤ tG)); replace HB := aA.mk (aN (cI HB qG) hb); have nY := aA.mk ((by rw [hg]; exact Nat.ne_of_lt (bV (cN cB)) : eT ≠ tG)); have nX := aA.mk ((by rw [hg]; exact Nat.ne_of_gt (bV (cN cB)) : tG ≠ eT)); replace cB := aA.mk (aK (cN cB) hb); clear hb hbox hg))
 go_loopg [4, 5] k (fun kq v4 v5 w' => ∃ (jM : List Int) (iW : Int) (uT : List Int) (eF : Value), v5 = .int .i64 iW ∧ aA (aM.l0 kq jM iW aV aT uT = some (r1, r2, r3, r4)) ∧ aA (kq ≤ k) ∧ aA (Kd.R (Kd.int .i64) 3 w' w0.heap.size (fun k_ => (P0_2_ k_ ∨ w.heap.size ≤ k_)) v4 jM) ∧ aA (Kd.R (Kd.int .u8) 5 w' w0.heap.size (fun k_ => (P0_2_ k_ ∨ w.heap.size ≤ k_)) eF uT) ∧ aA (w'.heap[eT]? = some (.cells #[.int .i64 aV, .int .i64 aT, eF] 24 (0, 0))) ∧ aA (w'.heap[tG]? = some (.cells #[.int .i64 0, .int .i64 0, (.slice none 0 0)] 24 (0, 0))) ∧ aA (Kept w w' (fun k_ => P0_2_ k_)) ∧ aA (Below w0.heap.size w0 w'))
 case atStart => exact ⟨(([] : List Int)), (0), (bB), (.slice Ao2 bB.length co2), kT, H', ⟨Nat.le_refl _⟩, ⟨IW⟩, ⟨dZ ZC.out⟩, ⟨gW cB.out⟩, ⟨gW eK.out⟩, ⟨by repeat (first | (with_reducible first | exact HK.out | apply Kept.alloc | apply Kept.drewN | apply Kept.drew | refine Kept.setCell ?_ (.inr pG.out) _ | refine Kept.setCell ?_ (.inr qS.out) _) | exact HK.out)⟩, ⟨dD HB qG sG⟩⟩
 case round =>
  clear H';(try clear p2);obtain ⟨jM, iW, uT, eF, rfl, HA, BT, kO, bP, cB, eK, HK, HB⟩ := hrel
  cases gk with
  | zero => exact absurd HA.out (by simp [aM.l0])
  | succ k1 =>
   have H := HA.out;clear HA;simp only [aM.l0] at H
   by_cases c5 : iW < aT
   ·rw [if_pos c5] at H
    have sZ : decide (iW < aT) = true := decide_eq_true c5;clear c5;have H' := aA.mk H;clear H;have aWF := nY.out;have aWD := nX.out;have nS : wr.cell? ⟨eT, 0, none⟩ = some (.int .i64 aV) := (aD cB.out 0).trans rfl;have nR : wr.cell? ⟨eT, 1, none⟩ = some (.int .i64 aT) := (aD cB.out 1).trans rfl;have nQ : wr.cell? ⟨eT, 2, none⟩ = some (eF) := (aD cB.out 2).trans rfl;have nP := aC cB.out 0;have nO := aC cB.out 1;have nN := aC cB.out 2;obtain ⟨Ao8, co8, eo8⟩ := Kd.cH kO.out;subst eo8
    go_wp2
    go_loopg [4, 7] k1 (fun kq v4 v7 w' => ∃ (sH : List Int) (dK : Int) (iN : List Int) (eF : Value), v7 = .int .i64 dK ∧ aA (aM.l1 kq sH iW (jM.length : Int) dK aV aT iN = some (r1, r2, r3, r4)) ∧ aA (kq ≤ k1) ∧ aA (Kd.R (Kd.int .i64) 3 w' w0.heap.size (fun k_ => (P0_2_ k_ ∨ w.heap.size ≤ k_)) v4 sH) ∧ aA (Kd.R (Kd.int .u8) 5 w' w0.heap.size (fun k_ => (P0_2_ k_ ∨ w.heap.size ≤ k_)) eF iN) ∧ aA (w'.heap[eT]? = some (.cells #[.int .i64 aV, .int .i64 aT, eF] 24 (0, 0))) ∧ aA (w'.heap[tG]? = some (.cells #[.int .i64 0, .int .i64 0, (.slice none 0 0)] 24 (0, 0))) ∧ aA (Kept w w' (fun k_ => P0_2_ k_)) ∧ aA (Below w0.heap.size w0 w'))
    case atStart => exact ⟨(jM), ((jM.length : Int)), (uT), (eF), kT, H', ⟨Nat.le_refl _⟩, ⟨dZ kO.out⟩, ⟨dZ bP.out⟩, ⟨gW cB.out⟩, ⟨gW eK.out⟩, ⟨by repeat (first | (with_reducible first | exact HK.out | apply Kept.alloc | apply Kept.drewN | apply Kept.drew | refine Kept.setCell ?_ (.inr pG.out) _ | refine Kept.setCell ?_ (.inr qS.out) _) | exact HK.out)⟩, ⟨dD HB qG sG⟩⟩
    case round =>
     clear H';(try clear p2);(try clear c5);(try clear sZ);(try clear c6);(try clear c8);(try clear nS);(try clear nR);(try clear nQ);(try clear nP);(try clear nO);(try clear nN);(try clear p2);obtain ⟨sH, dK, iN, eF, rfl, HA, uN, kO, bP, cB, eK, HK, HB⟩ := hrel
     cases gk with
     | zero => exact absurd HA.out (by simp [aM.l1])
     | succ k2 =>
      have H := HA.out;clear HA;simp only [aM.l1] at H
      by_cases c9 : dK < aV
      ·rw [if_pos c9] at H
       have DJ : decide (dK < aV) = true := decide_eq_true c9;clear c9;replace H := Option.bind_eq_some_iff.mp H;obtain ⟨t190, aTE, H⟩ := H;replace H : (if t190 = 0 then (aM.l1 k2 sH iW (jM.length : Int) (wrap64 (dK + 1)) aV aT iN) else ((eQ.f t190).bind fun aKk => (aM.l2 k2 sH iW (jM.length : Int) dK aKk.1 0 aV aT iN))) = some (r1, r2, r3, r4) := H;have A10 := aA.mk aTE;clear aTE
       by_cases FI : t190 = 0
       ·rw [if_pos FI] at H
        have QC : (t190 == 0) = true := beq_iff_eq.mpr FI;have aCt : (t190 != 0) = false := bne_eq_false_iff_eq.mpr FI;clear FI;have H' := aA.mk H;clear H;have aNK := nY.out;have aNC := nX.out;have mX : wr.cell? ⟨eT, 0, none⟩ = some (.int .i64 aV) := (aD cB.out 0).trans rfl;have mW : wr.cell? ⟨eT, 1, none⟩ = some (.int .i64 aT) := (aD cB.out 1).trans rfl;have mU : wr.cell? ⟨eT, 2, none⟩ = some (eF) := (aD cB.out 2).trans rfl;have mQ := aC cB.out 0;have mP := aC cB.out 1;have mO := aC cB.out 2;obtain ⟨aTm, aJU, eo14⟩ := Kd.cH bP.out;subst eo14;go_wp2_with (first | ((with_reducible refine bD (f := 25) rfl ?_); refine cQ (some 35) rfl rfl Try.func25 (by kernel_rfl) rfl #[.agg #[.int .i64 aV, .int .i64 aT, .slice aTm iN.length aJU], .int .i64 dK, .int .i64 iW] rfl kR ?_; (with_reducible refine (cJ.calls aV aT _ _ iN dK iW t190 _ ?side1 ?side2 A10.out).mono ?_); (case side1 => repeat (first | exact (Kd.bZ bP.out).2.2 | (with_reducible refine Kd.cY ?_ _) | (with_reducible refine Kd.cX ?_ _) | (with_reducible refine Kd.dM ?_))); (case side2 => exact (Kd.bZ bP.out).2.1); rintro e w15 ⟨rfl, hb⟩; refine ⟨_, rfl, ?_⟩; replace kO := aA.mk (Kd.bW (dZ kO.out) hb); replace bP := aA.mk (Kd.bW (dZ bP.out) hb); replace cB := aA.mk (aK (cN cB) hb); replace eK := aA.mk (aK (cN eK) hb); replace HK := aA.mk (Kept.below (S := (fun k_ => P0_2_ k_)) (by repeat (first | (with_reducible first | exact HK.out | apply Kept.alloc | apply Kept.drewN | apply Kept.drew | refine Kept.setCell ?_ (.inr pG.out) _ | refine Kept.setCell ?_ (.inr qS.out) _) | exact HK.out)) hb); replace HB := aA.mk (aN (dD HB qG sG) hb); (try clear hb); (try clear hb2); (try clear hk); (try clear hi)))
        go_roundg k2
        case measure => have := BT.out; have := uN.out; omega
        case rel => exact ⟨(sH), (wrap64 (dK + 1)), (iN), (.slice aTm iN.length aJU), kT, H', ⟨by have := BT.out; have := uN.out; omega⟩, ⟨dZ kO.out⟩, ⟨dZ bP.out⟩, ⟨gW cB.out⟩, ⟨gW eK.out⟩, ⟨by repeat (first | (with_reducible first | exact HK.out | apply Kept.alloc | apply Kept.drewN | apply Kept.drew | refine Kept.setCell ?_ (.inr pG.out) _ | refine Kept.setCell ?_ (.inr qS.out) _) | exact HK.out)⟩, ⟨dD HB qG sG⟩⟩
       ·rw [if_neg FI] at H
        have QC : (t190 == 0) = false := beq_eq_false_iff_ne.mpr FI;have aCt : (t190 != 0) = true := bne_iff_ne.mpr FI;replace H := Option.bind_eq_some_iff.mp H;obtain ⟨⟨t191, t192⟩, aTA, H⟩ := H;replace H : (aM.l2 k2 sH iW (jM.length : Int) dK t191 0 aV aT iN) = some (r1, r2, r3, r4) := H;have A16 := aA.mk aTA;clear aTA;have H' := aA.mk H;clear H;have aYx := nY.out;have aXW := nX.out;have rN : wr.cell? ⟨eT, 0, none⟩ = some (.int .i64 aV) := (aD cB.out 0).trans rfl;have rL : wr.cell? ⟨eT, 1, none⟩ = some (.int .i64 aT) := (aD cB.out 1).trans rfl;have rK : wr.cell? ⟨eT, 2, none⟩ = some (eF) := (aD cB.out 2).trans rfl;have rJ := aC cB.out 0;have rI := aC cB.out 1;have rH := aC cB.out 2;obtain ⟨aKF, aJT, eo19⟩ := Kd.cH bP.out;subst eo19;go_wp2_with (first | ((with_reducible refine bD (f := 25) rfl ?_); refine cQ (some 35) rfl rfl Try.func25 (by kernel_rfl) rfl #[.agg #[.int .i64 aV, .int .i64 aT, .slice aKF iN.length aJT], .int .i64 dK, .int .i64 iW] rfl kR ?_; (with_reducible refine (cJ.calls aV aT _ _ iN dK iW t190 _ ?side1 ?side2 A10.out).mono ?_); (case side1 => repeat (first | exact (Kd.bZ bP.out).2.2 | (with_reducible refine Kd.cY ?_ _) | (with_reducible refine Kd.cX ?_ _) | (with_reducible refine Kd.dM ?_))); (case side2 => exact (Kd.bZ bP.out).2.1); rintro e w20 ⟨rfl, hb⟩; refine ⟨_, rfl, ?_⟩; replace kO := aA.mk (Kd.bW (dZ kO.out) hb); replace bP := aA.mk (Kd.bW (dZ bP.out) hb); replace cB := aA.mk (aK (cN cB) hb); replace eK := aA.mk (aK (cN eK) hb); replace HK := aA.mk (Kept.below (S := (fun k_ => P0_2_ k_)) (by repeat (first | (with_reducible first | exact HK.out | apply Kept.alloc | apply Kept.drewN | apply Kept.drew | refine Kept.setCell ?_ (.inr pG.out) _ | refine Kept.setCell ?_ (.inr qS.out) _) | exact HK.out)) hb); replace HB := aA.mk (aN (dD HB qG sG) hb); (try clear hb); (try clear hb2); (try clear hk); (try clear hi)) | ((with_reducible refine bD (f := 46) rfl ?_); refine cQ (some 40) rfl rfl Try.func46 (by kernel_rfl) rfl #[.int .u8 t190] rfl kR ?_; (with_reducible refine (eQ.calls t190 t191 t192 _ A16.out).mono ?_); rintro e w' ⟨rfl, ⟨nd, rfl⟩⟩; refine ⟨_, rfl, ?_⟩))
        go_loopg [11] k2 (fun kq v11 w' => ∃ (gF : Int) (dO : List Int) (eF : Value), v11 = .int .i64 gF ∧ aA (aM.l2 kq sH iW (jM.length : Int) dK t191 gF aV aT dO = some (r1, r2, r3, r4)) ∧ aA (kq ≤ k2) ∧ aA (Kd.R (Kd.int .i64) 3 w' w0.heap.size (fun k_ => (P0_2_ k_ ∨ w.heap.size ≤ k_)) u4 sH) ∧ aA (Kd.R (Kd.int .u8) 5 w' w0.heap.size (fun k_ => (P0_2_ k_ ∨ w.heap.size ≤ k_)) eF dO) ∧ aA (w'.heap[eT]? = some (.cells #[.int .i64 aV, .int .i64 aT, eF] 24 (0, 0))) ∧ aA (w'.heap[tG]? = some (.cells #[.int .i64 0, .int .i64 0, (.slice none 0 0)] 24 (0, 0))) ∧ aA (Kept w w' (fun k_ => P0_2_ k_)) ∧ aA (Below w0.heap.size w0 w'))
        case atStart => exact ⟨(0), (iN), (.slice aKF iN.length aJT), kT, H', ⟨Nat.le_refl _⟩, ⟨dZ kO.out⟩, ⟨dZ bP.out⟩, ⟨gW cB.out⟩, ⟨gW eK.out⟩, ⟨by repeat (first | (with_reducible first | exact HK.out | apply Kept.alloc | apply Kept.drewN | apply Kept.drew | refine Kept.setCell ?_ (.inr pG.out) _ | refine Kept.setCell ?_ (.inr qS.out) _) | exact HK.out)⟩, ⟨dD HB qG sG⟩⟩
        case round =>
         clear H';(try clear c1);(try clear c2);(try clear p2);(try clear c4);(try clear c5);(try clear sZ);(try clear c6);(try clear p6);(try clear c8);(try clear c9);(try clear DJ);(try clear FI);(try clear QC);(try clear aCt);(try clear uJ);(try clear KQ);(try clear mX);(try clear mW);(try clear mU);(try clear rN);(try clear rL);(try clear rK);(try clear nS);(try clear nR);(try clear nQ);(try clear mQ);(try clear mP);(try clear mO);(try clear rJ);(try clear rI);(try clear rH);(try clear nP);(try clear nO);(try clear nN);(try clear p2);obtain ⟨gF, dO, eF, rfl, HA, FW, kO, bP, cB, eK, HK, HB⟩ := hrel
         cases gk with
         | zero => exact absurd HA.out (by simp [aM.l2])
         | succ k3 =>
          have H := HA.out;clear HA;simp only [aM.l2] at H
          by_cases NV : gF < aT
          ·rw [if_pos NV] at H
           have YQ : decide (gF < aT) = true := decide_eq_true NV;clear NV;replace H := Option.bind_eq_some_iff.mp H;obtain ⟨t193, aTy, H⟩ := H;replace H : ((cJ.f aV aT dO dK gF).bind fun t194 => (if 0 ≤ (wrap64 ((wrap64 (dK * aT)) + gF)) then (if (wrap64 ((wrap64 (dK * aT)) + gF)) < (dO.length : Int) then ((cU.f t191 t194).bind fun t196 => (if 0 ≤ (wrap64 ((wrap64 ((jM.length : Int) * aT)) + gF)) then (if (wrap64 ((wrap64 ((jM.length : Int) * aT)) + gF)) < (dO.length : Int) then (aM.l2 k3 sH iW (jM.length : Int) dK t191 (wrap64 (gF + 1)) aV aT ((dO.set ((wrap64 ((wrap64 (dK * aT)) + gF)) : Int).toNat t193).set ((wrap64 ((wrap64 ((jM.length : Int) * aT)) + gF)) : Int).toNat t196)) else (none)) else (none))) else (none)) else (none))) = some (r1, r2, r3, r4) := H;have A22 := aA.mk aTy;clear aTy;replace H := Option.bind_eq_some_iff.mp H;obtain ⟨t194, aKN, H⟩ := H;replace H : (if 0 ≤ (wrap64 ((wrap64 (dK * aT)) + gF)) then (if (wrap64 ((wrap64 (dK * aT)) + gF)) < (dO.length : Int) then ((cU.f t191 t194).bind fun t196 => (if 0 ≤ (wrap64 ((wrap64 ((jM.length : Int) * aT)) + gF)) then (if (wrap64 ((wrap64 ((jM.length : Int) * aT)) + gF)) < (dO.length : Int) then (aM.l2 k3 sH iW (jM.length : Int) dK t191 (wrap64 (gF + 1)) aV aT ((dO.set ((wrap64 ((wrap64 (dK * aT)) + gF)) : Int).toNat t193).set ((wrap64 ((wrap64 ((jM.length : Int) * aT)) + gF)) : Int).toNat t196)) else (none)) else (none))) else (none)) else (none)) = some (r1, r2, r3, r4) := H
           have A23 := aA.mk aKN;clear aKN;obtain ⟨KB, aBW⟩ : ∃ j_ : Int, (wrap64 ((wrap64 (dK * aT)) + gF)) = j_ := ⟨_, rfl⟩
           replace H : (if 0 ≤ (KB) then (if (KB) < (dO.length : Int) then ((cU.f t191 t194).bind fun t196 => (if 0 ≤ (wrap64 ((wrap64 ((jM.length : Int) * aT)) + gF)) then (if (wrap64 ((wrap64 ((jM.length : Int) * aT)) + gF)) < (dO.length : Int) then (aM.l2 k3 sH iW (jM.length : Int) dK t191 (wrap64 (gF + 1)) aV aT ((dO.set ((KB) : Int).toNat t193).set ((wrap64 ((wrap64 ((jM.length : Int) * aT)) + gF)) : Int).toNat t196)) else (none)) else (none))) else (none)) else (none)) = some (r1, r2, r3, r4) := by first | (rw [aBW] at H; exact H) | (simp only [aBW] at H ⊢; exact H)
           (try rw [aBW] at A22);(try rw [aBW] at A23);have aWJ : (IntKind.i64.wrap ((wrap64 (dK * aT)) + gF)) = KB := (bJ _).trans aBW
           by_cases c25 : 0 ≤ (KB)
           ·rw [if_pos c25] at H
            have aKc : decide (0 ≤ (KB)) = true := decide_eq_true c25;clear c25
            by_cases c26 : (KB) < (dO.length : Int)
            ·rw [if_pos c26] at H
             have aKb : decide ((KB) < (dO.length : Int)) = true := decide_eq_true c26;clear c26;obtain ⟨y195, hy195⟩ : ∃ y_ : List Int, y_ = (dO.set ((KB) : Int).toNat t193) := ⟨_, rfl⟩
             replace H : ((cU.f t191 t194).bind fun t196 => (if 0 ≤ (wrap64 ((wrap64 ((jM.length : Int) * aT)) + gF)) then (if (wrap64 ((wrap64 ((jM.length : Int) * aT)) + gF)) < (dO.length : Int) then (aM.l2 k3 sH iW (jM.length : Int) dK t191 (wrap64 (gF + 1)) aV aT (y195.set ((wrap64 ((wrap64 ((jM.length : Int) * aT)) + gF)) : Int).toNat t196)) else (none)) else (none))) = some (r1, r2, r3, r4) := by first | (rw [hy195]; with_reducible exact H) | (have H2_ := (Option.bind_some _ _).symm.trans H; rw [hy195]; with_reducible exact H2_) | (have H2_ := (Option.bind_some _ _).symm.trans H; with_reducible exact H2_) | with_reducible exact H | (rw [hy195]; exact H) | exact H
             have Ny195 := aA.mk hy195;clear hy195;replace H := Option.bind_eq_some_iff.mp H;obtain ⟨t196, aTv, H⟩ := H;replace H : (if 0 ≤ (wrap64 ((wrap64 ((jM.length : Int) * aT)) + gF)) then (if (wrap64 ((wrap64 ((jM.length : Int) * aT)) + gF)) < (dO.length : Int) then (aM.l2 k3 sH iW (jM.length : Int) dK t191 (wrap64 (gF + 1)) aV aT (y195.set ((wrap64 ((wrap64 ((jM.length : Int) * aT)) + gF)) : Int).toNat t196)) else (none)) else (none)) = some (r1, r2, r3, r4) := H;have A28 := aA.mk aTv;clear aTv;obtain ⟨LS, YD⟩ : ∃ j_ : Int, (wrap64 ((wrap64 ((jM.length : Int) * aT)) + gF)) = j_ := ⟨_, rfl⟩
             replace H : (if 0 ≤ (LS) then (if (LS) < (dO.length : Int) then (aM.l2 k3 sH iW (jM.length : Int) dK t191 (wrap64 (gF + 1)) aV aT (y195.set ((LS) : Int).toNat t196)) else (none)) else (none)) = some (r1, r2, r3, r4) := by first | (rw [YD] at H; exact H) | (simp only [YD] at H ⊢; exact H)
             (try rw [YD] at A22);(try rw [YD] at A23);(try rw [YD] at A28);have aWI : (IntKind.i64.wrap ((wrap64 ((jM.length : Int) * aT)) + gF)) = LS := (bJ _).trans YD
             by_cases c30 : 0 ≤ (LS)
             ·rw [if_pos c30] at H
              have YP : decide (0 ≤ (LS)) = true := decide_eq_true c30;clear c30
              by_cases NB : (LS) < (dO.length : Int)
              ·rw [if_pos NB] at H
               have aCq : decide ((LS) < (dO.length : Int)) = true := decide_eq_true NB;clear NB;obtain ⟨y197, hy197⟩ : ∃ y_ : List Int, y_ = (y195.set ((LS) : Int).toNat t196) := ⟨_, rfl⟩
               replace H : (aM.l2 k3 sH iW (jM.length : Int) dK t191 (wrap64 (gF + 1)) aV aT y197) = some (r1, r2, r3, r4) := by first | (rw [hy197]; with_reducible exact H) | (have H2_ := (Option.bind_some _ _).symm.trans H; rw [hy197]; with_reducible exact H2_) | (have H2_ := (Option.bind_some _ _).symm.trans H; with_reducible exact H2_) | with_reducible exact H | (rw [hy197]; exact H) | exact H
               have Ny197 := aA.mk hy197;clear hy197;have H' := aA.mk H;clear H;have aJw := nY.out;have aJp := nX.out;have wN : wr.cell? ⟨eT, 0, none⟩ = some (.int .i64 aV) := (aD cB.out 0).trans rfl;have wM : wr.cell? ⟨eT, 1, none⟩ = some (.int .i64 aT) := (aD cB.out 1).trans rfl;have wL : wr.cell? ⟨eT, 2, none⟩ = some (eF) := (aD cB.out 2).trans rfl;have wK := aC cB.out 0;have wJ := aC cB.out 1;have wI := aC cB.out 2
               try go_wp2
               replace kO := aA.mk (Kd.bK kO.out);replace bP := aA.mk (Kd.bK bP.out);replace cB := aA.mk (aH cB.out);replace eK := aA.mk (aH eK.out);replace HK := aA.mk (Kept.drew HK.out);replace HB := aA.mk (dY HB.out);obtain ⟨aNk, aCg, eo36⟩ := Kd.cH bP.out
               (first | subst eo36 | (injection eo36 with f1_ f2_ f3_; have f4_ := f1_.symm; have f5_ := f3_.symm; clear f1_ f2_ f3_; subst f4_; subst f5_));refine sV (n := 10) (S := fun w' => w'.cell? ⟨eT, 0, none⟩ = some (.int .i64 aV) ∧ w'.cell? ⟨eT, 1, none⟩ = some (.int .i64 aT) ∧ w'.cell? ⟨eT, 2, none⟩ = some (.slice aNk dO.length aCg)) (ds := []) #[false, false, false, false, false, false, false, false, false, false] (by kernel_rfl) rfl rfl ⟨(aD cB.out 0).trans rfl, (aD cB.out 1).trans rfl, (aD cB.out 2).trans rfl⟩ (fun hHeld => ?_); refine kB aM.aQF aM.aPQ (fun HT_ HW_ => ?_);generalize wr.drew = w35 at kO bP cB eK HK HB hHeld ⊢;refine cF (i := 1) (N := some 50) (v := ?_) (a' := ?_) #[false, true, false, false, false, false, false, false, false, false] rfl rfl (bX HT_.out (by kernel_rfl)) (fun _ _ _ h => h) (Or.inl ⟨by rfl, ?_⟩) ?_ ?_;rotate_left
               ·intro w'
                go_simp;(with_reducible rfl)
               rotate_left
               ·simp only [Act.put, cW, cT, cZ, bJ, bM]
                rfl
               refine cF (i := 2) (N := some 51) (v := ?_) (a' := ?_) #[false, true, true, false, false, false, false, false, false, false] rfl rfl (bX HT_.out (by kernel_rfl)) (fun _ _ _ h => h) (Or.inl ⟨by rfl, ?_⟩) ?_ ?_;rotate_left
               ·intro w'
                go_simp;(with_reducible rfl)
               rotate_left
               ·simp only [Act.put, cW, cT, cZ, bJ, bM]
                rfl
               refine cF (i := 5) (N := some 54) (v := ?_) (a' := ?_) #[false, true, true, false, false, true, false, false, false, false] rfl rfl (bX HT_.out (by kernel_rfl)) (fun _ _ _ h => h) (Or.inl ⟨by rfl, ?_⟩) ?_ ?_;rotate_left
               ·intro w'
                go_simp;(with_reducible rfl)
               rotate_left
               ·simp only [Act.put, cW, cT, cZ, bJ, bM]
                rfl
               refine cF (i := 6) (N := some 55) (v := ?_) (a' := ?_) #[false, true, true, false, false, true, true, false, false, false] rfl rfl (bX HT_.out (by kernel_rfl)) (fun _ _ _ h => h) (Or.inl ⟨by rfl, ?_⟩) ?_ ?_;rotate_left
               ·intro w'
                go_simp;(with_reducible rfl)
               rotate_left
               ·simp only [Act.put, cW, cT, cZ, bJ, bM]
                rfl
               refine fW (i := 0) (N := some 49) (v := ?_) (a' := ?_) #[true, true, true, false, false, true, true, false, false, false] rfl rfl (dQ HT_.out HW_.out (by kernel_rfl)) (fun _ _ _ h => h) (Or.inl ⟨by rfl, ?_⟩) hHeld ?_ ?_;rotate_left
               ·rintro w' ⟨s0, s1, s2⟩
                go_simp;(with_reducible rfl)
               rotate_left
               ·simp only [Act.put, cW, cT, cZ, bJ, bM]
                rfl
               refine fW (i := 4) (N := some 53) (v := ?_) (a' := ?_) #[true, true, true, false, true, true, true, false, false, false] rfl rfl (dQ HT_.out HW_.out (by kernel_rfl)) (fun _ _ _ h => h) (Or.inl ⟨by rfl, ?_⟩) hHeld ?_ ?_;rotate_left
               ·rintro w' ⟨s0, s1, s2⟩
                go_simp;(with_reducible rfl)
               rotate_left
               ·simp only [Act.put, cW, cT, cZ, bJ, bM]
                rfl
               refine AV (i := 3) (N := some 52) #[true, true, true, true, true, true, true, false, false, false] rfl rfl (iP HT_.out (by kernel_rfl)) (by decide) (fun K hK => ?_);refine AX Try.func25 (by kernel_rfl) rfl #[.agg #[.int .i64 aV, .int .i64 aT, .slice aNk dO.length aCg], .int .i64 (jM.length : Int), .int .i64 gF] (by rfl) rfl rfl kR ?_
               with_reducible refine (cJ.calls aV aT _ _ dO (jM.length : Int) gF t193 _ ?side1 ?side2 A22.out).mono ?_
               (case side1 => repeat (first | exact (Kd.bZ bP.out).2.2 | (with_reducible refine Kd.cY ?_ _) | (with_reducible refine Kd.cX ?_ _) | (with_reducible refine Kd.dM ?_)))
               (case side2 => exact (Kd.bZ bP.out).2.1);rintro e w37 ⟨rfl, hb⟩;refine ⟨_, rfl, ?_⟩;replace kO := aA.mk (Kd.bW (dZ kO.out) hb);replace bP := aA.mk (Kd.bW (dZ bP.out) hb);replace cB := aA.mk (aK (cN cB) hb);replace eK := aA.mk (aK (cN eK) hb);replace HK := aA.mk (Kept.below (S := (fun k_ => P0_2_ k_)) (by repeat (first | (with_reducible first | exact HK.out | apply Kept.alloc | apply Kept.drewN | apply Kept.drew | refine Kept.setCell ?_ (.inr pG.out) _ | refine Kept.setCell ?_ (.inr qS.out) _) | exact HK.out)) hb);replace HB := aA.mk (aN (dD HB qG sG) hb);(try clear hb);(try clear hb2);(try clear hk);(try clear hi);refine hK.out _ _ ⟨(aD cB.out 0).trans rfl, (aD cB.out 1).trans rfl, (aD cB.out 2).trans rfl⟩ (fun hHeld => ?_);clear hK K;refine sB (a' := ?_) ?_ ?_;rotate_left
               ·show Act.put _ (some 52) _ = _
                simp only [Act.put, cW, cT, cZ, bJ, bM];rfl
               refine AV (i := 7) (N := some 56) #[true, true, true, true, true, true, true, true, false, false] rfl rfl (iP HT_.out (by kernel_rfl)) (by decide) (fun K hK => ?_);refine AX Try.func25 (by kernel_rfl) rfl #[.agg #[.int .i64 aV, .int .i64 aT, .slice aNk dO.length aCg], .int .i64 dK, .int .i64 gF] (by rfl) rfl rfl kR ?_
               with_reducible refine (cJ.calls aV aT _ _ dO dK gF t194 _ ?side1 ?side2 A23.out).mono ?_
               (case side1 => repeat (first | exact (Kd.bZ bP.out).2.2 | (with_reducible refine Kd.cY ?_ _) | (with_reducible refine Kd.cX ?_ _) | (with_reducible refine Kd.dM ?_)))
               (case side2 => exact (Kd.bZ bP.out).2.1);rintro e w38 ⟨rfl, hb⟩;refine ⟨_, rfl, ?_⟩;replace kO := aA.mk (Kd.bW (dZ kO.out) hb);replace bP := aA.mk (Kd.bW (dZ bP.out) hb);replace cB := aA.mk (aK (cN cB) hb);replace eK := aA.mk (aK (cN eK) hb);replace HK := aA.mk (Kept.below (S := (fun k_ => P0_2_ k_)) (by repeat (first | (with_reducible first | exact HK.out | apply Kept.alloc | apply Kept.drewN | apply Kept.drew | refine Kept.setCell ?_ (.inr pG.out) _ | refine Kept.setCell ?_ (.inr qS.out) _) | exact HK.out)) hb);replace HB := aA.mk (aN (dD HB qG sG) hb);(try clear hb);(try clear hb2);(try clear hk);(try clear hi);refine hK.out _ _ ⟨(aD cB.out 0).trans rfl, (aD cB.out 1).trans rfl, (aD cB.out 2).trans rfl⟩ (fun hHeld => ?_);clear hK K;refine sB (a' := ?_) ?_ ?_;rotate_left
               ·show Act.put _ (some 56) _ = _
                simp only [Act.put, cW, cT, cZ, bJ, bM];rfl
               refine cF (i := 8) (N := some 12) (v := ?_) (a' := ?_) #[true, true, true, true, true, true, true, true, true, false] rfl rfl (bX HT_.out (by kernel_rfl)) (fun _ _ _ h => h) (Or.inl ⟨by rfl, ?_⟩) ?_ ?_;rotate_left
               ·intro w'
                go_simp;(with_reducible rfl)
               rotate_left
               ·simp only [Act.put, cW, cT, cZ, bJ, bM]
                rfl
               refine cF (i := 9) (N := some 13) (v := ?_) (a' := ?_) #[true, true, true, true, true, true, true, true, true, true] rfl rfl (bX HT_.out (by kernel_rfl)) (fun _ _ _ h => h) (Or.inl ⟨by rfl, ?_⟩) ?_ ?_;rotate_left
               ·intro w'
                go_simp;(with_reducible rfl)
               rotate_left
               ·simp only [Act.put, cW, cT, cZ, bJ, bM]
                rfl
               refine xS (rR HT_.out (by kernel_rfl)) ?_;have aAK : w38.cell? ⟨eT, 0, none⟩ = some (.int .i64 aV) := (aD cB.out 0).trans rfl;have aAJ : w38.cell? ⟨eT, 1, none⟩ = some (.int .i64 aT) := (aD cB.out 1).trans rfl;have aAI : w38.cell? ⟨eT, 2, none⟩ = some (.slice aNk dO.length aCg) := (aD cB.out 2).trans rfl;have aAB := aC cB.out 0;have aAA := aC cB.out 1;have aAz := aC cB.out 2;have p27 : 0 ≤ ((KB) : Int) := of_decide_eq_true sJ;have q27 : ((KB) : Int) < ((dO.length : Int) : Int) := of_decide_eq_true sJ;obtain ⟨go27, mI, eo27, aRO, gl27, cl27, HG27⟩ := Kd.AE bP.out (by omega)
               (first | cases eo27 | (injection eo27 with ea_ en_ ec_; (first | subst ea_ | (injection ea_ with ea_; subst ea_)); subst ec_; clear en_));have GB27 := aA.mk aRO;have GG27 := aA.mk HG27;clear aRO gl27 HG27;have HMgo27 := aA.mk (show (P0_2_ go27 ∨ w.heap.size ≤ go27) from (bP.out.1 _ rfl));obtain ⟨hx27_0, hf27_0⟩ := Kd.rS 0 bP.out ((KB) : Int) p27 q27;replace p27 := eq_true p27;replace q27 := eq_true q27;obtain ⟨hy40_, hz40_⟩ := Kd.rS 0 bP.out ((KB) : Int) (of_decide_eq_true sJ) (of_decide_eq_true sJ);have HP40 := Kd.aBf bP.out ((KB) : Int) t193
               try go_wp2_with (first | ((with_reducible refine DH (t := 5) (p := 66) rfl ?_); refine yL (t := 5) (p := 66) (v := ?vo_w41) (w1 := (w38.setCell ⟨go27, ((KB) : Int).toNat, none⟩ (.int .u8 t193))) ?hg ?ho ?hn ?hr ?_; (case ho => rfl); (case hg => rfl); (case hn => rfl); (case hr => first | (go_simp; done) | (go_simp; rfl)); intro w41 hw; have hg : w38.grownBy w41 (some go27) := (by rw [hw]; exact HP40.2); have hp_ : Kd.R (Kd.int .u8) 5 w41 w0.heap.size (fun k_ => (P0_2_ k_ ∨ w.heap.size ≤ k_)) (.slice (some ⟨go27, 0, none⟩) dO.length aCg) y195 := (by rw [hw, Ny195.out]; exact HP40.1); clear HP40; replace kO := aA.mk (Kd.aFM (v := (.slice (some ⟨go27, 0, none⟩) dO.length aCg)) (dZ kO.out) (Kd.aBe bP.out) (by decide) hg); replace cB := aA.mk (eM (cN cB) hg (Kd.lV bP.out cB.out (by decide))); replace eK := aA.mk (eM (cN eK) hg (Kd.lV bP.out eK.out (by decide))); replace HB := aA.mk ((by rw [hw]; exact eD (HB.out) GB27.out : Below w0.heap.size w0 w41)); replace HK := aA.mk (Kept.UR (S := (fun k_ => P0_2_ k_)) hg (by repeat (first | (with_reducible first | exact HK.out | apply Kept.alloc | apply Kept.drewN | apply Kept.drew | refine Kept.setCell ?_ (.inr pG.out) _ | refine Kept.setCell ?_ (.inr qS.out) _) | exact HK.out)) (fun k_ e_ => (bP.out.1 k_ e_))); replace bP := aA.mk (hp_); clear hg hw hp_))
               replace kO := aA.mk (Kd.bK kO.out);replace bP := aA.mk (Kd.bK bP.out);replace cB := aA.mk (aH cB.out);replace eK := aA.mk (aH eK.out);replace HK := aA.mk (Kept.drew HK.out);replace HB := aA.mk (dY HB.out);refine sV (n := 13) (S := fun w' => w'.cell? ⟨eT, 0, none⟩ = some (.int .i64 aV) ∧ w'.cell? ⟨eT, 1, none⟩ = some (.int .i64 aT) ∧ w'.cell? ⟨eT, 2, none⟩ = some (.slice (some ⟨go27, 0, none⟩) dO.length aCg)) (ds := [12]) #[false, false, false, false, false, false, false, false, false, false, false, false, false] (by kernel_rfl) rfl rfl ⟨(aD cB.out 0).trans rfl, (aD cB.out 1).trans rfl, (aD cB.out 2).trans rfl⟩ (fun hHeld => ?_); refine kB aM.aQE aM.aPP (fun HT_ HW_ => ?_);generalize w41.drew = w42 at kO bP cB eK HK HB hHeld ⊢;refine cF (i := 0) (N := some 67) (v := ?_) (a' := ?_) #[true, false, false, false, false, false, false, false, false, false, false, false, false] rfl rfl (bX HT_.out (by kernel_rfl)) (fun _ _ _ h => h) (Or.inl ⟨by rfl, ?_⟩) ?_ ?_;rotate_left
               ·intro w'
                go_simp;(with_reducible rfl)
               rotate_left
               ·simp only [Act.put, cW, cT, cZ, bJ, bM]
                rfl
               refine cF (i := 2) (N := some 69) (v := ?_) (a' := ?_) #[true, false, true, false, false, false, false, false, false, false, false, false, false] rfl rfl (bX HT_.out (by kernel_rfl)) (fun _ _ _ h => h) (Or.inl ⟨by rfl, ?_⟩) ?_ ?_;rotate_left
               ·intro w'
                go_simp;(with_reducible rfl)
               rotate_left
               ·simp only [Act.put, cW, cT, cZ, bJ, bM]
                rfl
               refine cF (i := 3) (N := some 70) (v := ?_) (a' := ?_) #[true, false, true, true, false, false, false, false, false, false, false, false, false] rfl rfl (bX HT_.out (by kernel_rfl)) (fun _ _ _ h => h) (Or.inl ⟨by rfl, ?_⟩) ?_ ?_;rotate_left
               ·intro w'
                go_simp;(with_reducible rfl)
               rotate_left
               ·simp only [Act.put, cW, cT, cZ, bJ, bM]
                rfl
               refine cF (i := 6) (N := some 73) (v := ?_) (a' := ?_) #[true, false, true, true, false, false, true, false, false, false, false, false, false] rfl rfl (bX HT_.out (by kernel_rfl)) (fun _ _ _ h => h) (Or.inl ⟨by rfl, ?_⟩) ?_ ?_;rotate_left
               ·intro w'
                go_simp;(with_reducible rfl)
               rotate_left
               ·simp only [Act.put, cW, cT, cZ, bJ, bM]
                rfl
               refine cF (i := 8) (N := some 75) (v := ?_) (a' := ?_) #[true, false, true, true, false, false, true, false, true, false, false, false, false] rfl rfl (bX HT_.out (by kernel_rfl)) (fun _ _ _ h => h) (Or.inl ⟨by rfl, ?_⟩) ?_ ?_;rotate_left
               ·intro w'
                go_simp;(with_reducible rfl)
               rotate_left
               ·simp only [Act.put, cW, cT, cZ, bJ, bM]
                rfl
               refine cF (i := 9) (N := some 76) (v := ?_) (a' := ?_) #[true, false, true, true, false, false, true, false, true, true, false, false, false] rfl rfl (bX HT_.out (by kernel_rfl)) (fun _ _ _ h => h) (Or.inl ⟨by rfl, ?_⟩) ?_ ?_;rotate_left
               ·intro w'
                go_simp;(with_reducible rfl)
               rotate_left
               ·simp only [Act.put, cW, cT, cZ, bJ, bM]
                rfl
               refine fW (i := 1) (N := some 68) (v := ?_) (a' := ?_) #[true, true, true, true, false, false, true, false, true, true, false, false, false] rfl rfl (dQ HT_.out HW_.out (by kernel_rfl)) (fun _ _ _ h => h) (Or.inl ⟨by rfl, ?_⟩) hHeld ?_ ?_;rotate_left
               ·rintro w' ⟨s0, s1, s2⟩
                go_simp;(with_reducible rfl)
               rotate_left
               ·simp only [Act.put, cW, cT, cZ, bJ, bM]
                rfl
               refine fW (i := 4) (N := some 71) (v := ?_) (a' := ?_) #[true, true, true, true, true, false, true, false, true, true, false, false, false] rfl rfl (dQ HT_.out HW_.out (by kernel_rfl)) (fun _ _ _ h => h) (Or.inl ⟨by rfl, ?_⟩) hHeld ?_ ?_;rotate_left
               ·rintro w' ⟨s0, s1, s2⟩
                go_simp;(with_reducible rfl)
               rotate_left
               ·simp only [Act.put, cW, cT, cZ, bJ, bM]
                rfl
               refine cF (i := 5) (N := some 72) (v := ?_) (a' := ?_) #[true, true, true, true, true, true, true, false, true, true, false, false, false] rfl rfl (bX HT_.out (by kernel_rfl)) (fun _ _ _ h => h) (Or.inl ⟨by rfl, ?_⟩) ?_ ?_;rotate_left
               ·intro w'
                go_simp;(with_reducible rfl)
               rotate_left
               ·simp only [Act.put, cW, cT, cZ, bJ, bM]
                rfl
               refine cF (i := 7) (N := some 74) (v := ?_) (a' := ?_) #[true, true, true, true, true, true, true, true, true, true, false, false, false] rfl rfl (bX HT_.out (by kernel_rfl)) (fun _ _ _ h => h) (Or.inl ⟨by rfl, ?_⟩) ?_ ?_;rotate_left
               ·intro w'
                go_simp;(with_reducible rfl)
               rotate_left
               ·simp only [Act.put, cW, cT, cZ, bJ, bM]
                rfl
               refine AV (i := 10) (N := some 77) #[true, true, true, true, true, true, true, true, true, true, true, false, false] rfl rfl (iP HT_.out (by kernel_rfl)) (by decide) (fun K hK => ?_);refine AX Try.func24 (by kernel_rfl) rfl #[.int .u8 t191, .int .u8 t194] (by rfl) rfl rfl kR ?_
               with_reducible refine (cU.calls t191 t194 t196 _ A28.out).mono ?_
               rintro e w' ⟨rfl, ⟨nd, rfl⟩⟩;refine ⟨_, rfl, ?_⟩;have p32 : 0 ≤ ((LS) : Int) := of_decide_eq_true sJ;have q32 : ((LS) : Int) < ((dO.length : Int) : Int) := of_decide_eq_true sJ;obtain ⟨hx32_0, hf32_0⟩ := Kd.rS 0 bP.out ((LS) : Int) p32 q32;replace p32 := eq_true p32;replace q32 := eq_true q32;have HP43 := Kd.KM bP.out ((LS) : Int) t196;rw [← Ny197.out] at HP43;have HQ43 := aA.mk HP43;clear HP43;refine hK.out _ _ ⟨(aD cB.out 0).trans rfl, (aD cB.out 1).trans rfl, (aD cB.out 2).trans rfl⟩ (fun hHeld => ?_);clear hK K;refine sB (a' := ?_) ?_ ?_;rotate_left
               ·show Act.put _ (some 77) _ = _
                simp only [Act.put, cW, cT, cZ, bJ, bM];rfl
               refine cF (i := 11) (N := some 78) (v := ?_) (a' := ?_) #[true, true, true, true, true, true, true, true, true, true, true, true, false] rfl rfl (bX HT_.out (by kernel_rfl)) (fun _ _ _ h => h) (Or.inl ⟨by rfl, ?_⟩) ?_ ?_;rotate_left
               ·intro w'
                go_simp;(with_reducible rfl)
               rotate_left
               ·simp only [Act.put, cW, cT, cZ, bJ, bM]
                rfl
               refine PV (i := 12) (N := none) #[true, true, true, true, true, true, true, true, true, true, true, true, true] rfl rfl (iP HT_.out (by kernel_rfl)) (by decide) (fun K hK => ?_);refine JH (w1 := ?_) (by rfl) rfl ?_ ?_;rotate_left
               ·go_simp
                rfl
               refine hK.out _ _ ?_;clear hK K;refine xS (rR HT_.out (by kernel_rfl)) ?_
               try go_wp2
               go_roundg k3
               case measure => have := BT.out; have := uN.out; have := FW.out; omega
               case rel => exact ⟨(wrap64 (gF + 1)), (y197), (.slice (some ⟨go27, 0, none⟩) dO.length aCg), kT, H', ⟨by have := BT.out; have := uN.out; have := FW.out; omega⟩, ⟨by (with_reducible repeat first | apply Kd.bG | apply Kd.bF | apply Kd.bK); exact Kd.bN (Kd.aZ (p := ⟨go27, ((LS) : Int).toNat, none⟩) (Kd.bQ kO.out (Kd.aBe bP.out _ rfl).choose_spec (by decide)) (fun _ hk => hk.2) (.int .u8 t196)) (fun _ hk => hk.1)⟩, ⟨dZ HQ43.out⟩, ⟨by (with_reducible repeat first | apply aE | apply aH | apply aG); refine bE ?_ (by have h_ := Kd.lV bP.out cB.out (by decide); intro e_; exact h_ (by rw [e_]; rfl)) _; (with_reducible repeat first | apply aE | apply aH | apply aG); exact cB.out⟩, ⟨by (with_reducible repeat first | apply aE | apply aH | apply aG); refine bE ?_ (by have h_ := Kd.lV bP.out eK.out (by decide); intro e_; exact h_ (by rw [e_]; rfl)) _; (with_reducible repeat first | apply aE | apply aH | apply aG); exact eK.out⟩, ⟨by repeat (first | (with_reducible first | exact HK.out | apply Kept.alloc | apply Kept.drewN | apply Kept.drew | refine Kept.setCell ?_ HMgo27.out _ | refine Kept.setCell ?_ (.inr pG.out) _ | refine Kept.setCell ?_ (.inr qS.out) _) | exact HK.out)⟩, ⟨gL HB GB27 qG sG⟩⟩
              ·rw [if_neg NB] at H
               exact absurd H (by simp)
             ·rw [if_neg c30] at H
              exact absurd H (by simp)
            ·rw [if_neg c26] at H
             exact absurd H (by simp)
           ·rw [if_neg c25] at H
            exact absurd H (by simp)
          ·rw [if_neg NV] at H
           have YQ : decide (gF < aT) = false := decide_eq_false NV;clear NV;have H' := aA.mk H;clear H;have aJv := nY.out;have aJo := nX.out;have SX : wr.cell? ⟨eT, 0, none⟩ = some (.int .i64 aV) := (aD cB.out 0).trans rfl;have SW : wr.cell? ⟨eT, 1, none⟩ = some (.int .i64 aT) := (aD cB.out 1).trans rfl;have SV : wr.cell? ⟨eT, 2, none⟩ = some (eF) := (aD cB.out 2).trans rfl;have RY := aC cB.out 0;have RX := aC cB.out 1;have RW := aC cB.out 2
           go_wp2
           go_loopg [14] k3 (fun kq v14 w' => ∃ (pB : Int) (pK : List Int) (eF : Value), v14 = .int .i64 pB ∧ aA (aM.l3 kq sH iW (jM.length : Int) pB aV aT pK = some (r1, r2, r3, r4)) ∧ aA (kq ≤ k3) ∧ aA (Kd.R (Kd.int .i64) 3 w' w0.heap.size (fun k_ => (P0_2_ k_ ∨ w.heap.size ≤ k_)) u4 sH) ∧ aA (Kd.R (Kd.int .u8) 5 w' w0.heap.size (fun k_ => (P0_2_ k_ ∨ w.heap.size ≤ k_)) eF pK) ∧ aA (w'.heap[eT]? = some (.cells #[.int .i64 aV, .int .i64 aT, eF] 24 (0, 0))) ∧ aA (w'.heap[tG]? = some (.cells #[.int .i64 0, .int .i64 0, (.slice none 0 0)] 24 (0, 0))) ∧ aA (Kept w w' (fun k_ => P0_2_ k_)) ∧ aA (Below w0.heap.size w0 w'))
           case atStart => exact ⟨(0), (dO), (eF), kT, H', ⟨Nat.le_refl _⟩, ⟨dZ kO.out⟩, ⟨dZ bP.out⟩, ⟨gW cB.out⟩, ⟨gW eK.out⟩, ⟨by repeat (first | (with_reducible first | exact HK.out | apply Kept.alloc | apply Kept.drewN | apply Kept.drew | refine Kept.setCell ?_ (.inr pG.out) _ | refine Kept.setCell ?_ (.inr qS.out) _) | exact HK.out)⟩, ⟨dD HB qG sG⟩⟩
           case round =>
            clear H';(try clear c1);(try clear c2);(try clear p2);(try clear q2);(try clear hx2);(try clear hf2);(try clear c3);(try clear p3);(try clear q3);(try clear hx3);(try clear hf3);(try clear c4);(try clear c5);(try clear sZ);(try clear c6);(try clear p6);(try clear c8);(try clear c9);(try clear DJ);(try clear FI);(try clear QC);(try clear aCt);(try clear uJ);(try clear KQ);(try clear NV);(try clear YQ);(try clear c24);(try clear c25);(try clear aKc);(try clear c26);(try clear aKb);(try clear p27);(try clear q27);(try clear hx27);(try clear hf27);(try clear c30);(try clear YP);(try clear NB);(try clear aCq);(try clear p32);(try clear q32);(try clear hx32);(try clear hf32);(try clear c33);(try clear c44);(try clear mX);(try clear mW);(try clear mU);(try clear rN);(try clear rL);(try clear rK);(try clear wN);(try clear wM);(try clear wL);(try clear aAK);(try clear aAJ);(try clear aAI);(try clear SX);(try clear SW);(try clear SV);(try clear nS);(try clear nR);(try clear nQ);(try clear mQ);(try clear mP);(try clear mO);(try clear rJ);(try clear rI);(try clear rH);(try clear wK);(try clear wJ);(try clear wI);(try clear aAB);(try clear aAA);(try clear aAz);(try clear RY);(try clear RX);(try clear RW);(try clear nP);(try clear nO);(try clear nN);(try clear hx27_0);(try clear hx32_0);(try clear p2)
            (try clear p27);(try clear p32);(try clear p6);(try clear q27);(try clear q32);obtain ⟨pB, pK, eF, rfl, HA, HK4, kO, bP, cB, eK, HK, HB⟩ := hrel
            cases gk with
            | zero => exact absurd HA.out (by simp [aM.l3])
            | succ k4 =>
             have H := HA.out;clear HA;simp only [aM.l3] at H
             by_cases c46 : pB < aV
             ·rw [if_pos c46] at H
              have aJY : decide (pB < aV) = true := decide_eq_true c46;clear c46;replace H := Option.bind_eq_some_iff.mp H;obtain ⟨t201, aTq, H⟩ := H;replace H : (aM.l4 k4 sH iW (jM.length : Int) pB t201 0 aV aT pK) = some (r1, r2, r3, r4) := H;have A47 := aA.mk aTq;clear aTq;have H' := aA.mk H;clear H;have aRv := nY.out;have aRd := nX.out;have SU : wr.cell? ⟨eT, 0, none⟩ = some (.int .i64 aV) := (aD cB.out 0).trans rfl;have SS : wr.cell? ⟨eT, 1, none⟩ = some (.int .i64 aT) := (aD cB.out 1).trans rfl;have SR : wr.cell? ⟨eT, 2, none⟩ = some (eF) := (aD cB.out 2).trans rfl;have RV := aC cB.out 0;have RU := aC cB.out 1;have RT := aC cB.out 2;obtain ⟨aTi, aRZ, eo50⟩ := Kd.cH bP.out;subst eo50;go_wp2_with (first | ((with_reducible refine bD (f := 25) rfl ?_); refine cQ (some 88) rfl rfl Try.func25 (by kernel_rfl) rfl #[.agg #[.int .i64 aV, .int .i64 aT, .slice aTi pK.length aRZ], .int .i64 pB, .int .i64 iW] rfl kR ?_; (with_reducible refine (cJ.calls aV aT _ _ pK pB iW t201 _ ?side1 ?side2 A47.out).mono ?_); (case side1 => repeat (first | exact (Kd.bZ bP.out).2.2 | (with_reducible refine Kd.cY ?_ _) | (with_reducible refine Kd.cX ?_ _) | (with_reducible refine Kd.dM ?_))); (case side2 => exact (Kd.bZ bP.out).2.1); rintro e w51 ⟨rfl, hb⟩; refine ⟨_, rfl, ?_⟩; replace kO := aA.mk (Kd.bW (dZ kO.out) hb); replace bP := aA.mk (Kd.bW (dZ bP.out) hb); replace cB := aA.mk (aK (cN cB) hb); replace eK := aA.mk (aK (cN eK) hb); replace HK := aA.mk (Kept.below (S := (fun k_ => P0_2_ k_)) (by repeat (first | (with_reducible first | exact HK.out | apply Kept.alloc | apply Kept.drewN | apply Kept.drew | refine Kept.setCell ?_ (.inr pG.out) _ | refine Kept.setCell ?_ (.inr qS.out) _) | exact HK.out)) hb); replace HB := aA.mk (aN (dD HB qG sG) hb); (try clear hb); (try clear hb2); (try clear hk); (try clear hi)))
              go_loopg [16] k4 (fun kq v16 w' => ∃ (qI : Int) (dS : List Int) (eF : Value), v16 = .int .i64 qI ∧ aA (aM.l4 kq sH iW (jM.length : Int) pB t201 qI aV aT dS = some (r1, r2, r3, r4)) ∧ aA (kq ≤ k4) ∧ aA (Kd.R (Kd.int .i64) 3 w' w0.heap.size (fun k_ => (P0_2_ k_ ∨ w.heap.size ≤ k_)) u4 sH) ∧ aA (Kd.R (Kd.int .u8) 5 w' w0.heap.size (fun k_ => (P0_2_ k_ ∨ w.heap.size ≤ k_)) eF dS) ∧ aA (w'.heap[eT]? = some (.cells #[.int .i64 aV, .int .i64 aT, eF] 24 (0, 0))) ∧ aA (w'.heap[tG]? = some (.cells #[.int .i64 0, .int .i64 0, (.slice none 0 0)] 24 (0, 0))) ∧ aA (Kept w w' (fun k_ => P0_2_ k_)) ∧ aA (Below w0.heap.size w0 w'))
              case atStart => exact ⟨(0), (pK), (.slice aTi pK.length aRZ), kT, H', ⟨Nat.le_refl _⟩, ⟨dZ kO.out⟩, ⟨dZ bP.out⟩, ⟨gW cB.out⟩, ⟨gW eK.out⟩, ⟨by repeat (first | (with_reducible first | exact HK.out | apply Kept.alloc | apply Kept.drewN | apply Kept.drew | refine Kept.setCell ?_ (.inr pG.out) _ | refine Kept.setCell ?_ (.inr qS.out) _) | exact HK.out)⟩, ⟨dD HB qG sG⟩⟩
              case round =>
               clear H';(try clear c1);(try clear c2);(try clear p2);(try clear q2);(try clear hx2);(try clear hf2);(try clear c3);(try clear p3);(try clear q3);(try clear hx3);(try clear hf3);(try clear c4);(try clear c5);(try clear sZ);(try clear c6);(try clear p6);(try clear c8);(try clear c9);(try clear DJ);(try clear FI);(try clear QC);(try clear aCt);(try clear uJ);(try clear KQ);(try clear NV);(try clear YQ);(try clear c24);(try clear c25);(try clear aKc);(try clear c26);(try clear aKb);(try clear p27);(try clear q27);(try clear hx27);(try clear hf27);(try clear c30);(try clear YP);(try clear NB);(try clear aCq);(try clear p32);(try clear q32);(try clear hx32);(try clear hf32);(try clear c33);(try clear c44);(try clear c46);(try clear aJY);(try clear c48);(try clear mX);(try clear mW);(try clear mU);(try clear rN);(try clear rL);(try clear rK);(try clear wN);(try clear wM);(try clear wL);(try clear aAK);(try clear aAJ);(try clear aAI);(try clear SX);(try clear SW);(try clear SV);(try clear SU);(try clear SS);(try clear SR);(try clear nS);(try clear nR);(try clear nQ);(try clear mQ);(try clear mP);(try clear mO);(try clear rJ);(try clear rI);(try clear rH);(try clear wK);(try clear wJ);(try clear wI);(try clear aAB);(try clear aAA);(try clear aAz);(try clear RY);(try clear RX);(try clear RW)
               (try clear RV);(try clear RU);(try clear RT);(try clear nP);(try clear nO);(try clear nN);(try clear hx27_0);(try clear hx32_0);(try clear p2);(try clear p27);(try clear p3);(try clear p32);(try clear p6);(try clear q2);(try clear q27);(try clear q3);(try clear q32);obtain ⟨qI, dS, eF, rfl, HA, HK5, kO, bP, cB, eK, HK, HB⟩ := hrel
               cases gk with
               | zero => exact absurd HA.out (by simp [aM.l4])
               | succ k5 =>
                have H := HA.out;clear HA;simp only [aM.l4] at H;have aQc := aA.mk H;clear H;go_upto_region 23 with (fail)
                go_cut [97] (fun v97 wc => ∃ (kq : Nat) (ZI : Bool), v97 = .bool ZI ∧ aA (aM.j5 kq sH iW (jM.length : Int) pB t201 qI ZI aV aT dS = some (r1, r2, r3, r4)) ∧ aA (kq ≤ k5) ∧ aA (Kd.R (Kd.int .i64) 3 wc w0.heap.size (fun k_ => (P0_2_ k_ ∨ w.heap.size ≤ k_)) u4 sH) ∧ aA (Kd.R (Kd.int .u8) 5 wc w0.heap.size (fun k_ => (P0_2_ k_ ∨ w.heap.size ≤ k_)) eF dS) ∧ aA (wc.heap[eT]? = some (.cells #[.int .i64 aV, .int .i64 aT, eF] 24 (0, 0))) ∧ aA (wc.heap[tG]? = some (.cells #[.int .i64 0, .int .i64 0, (.slice none 0 0)] 24 (0, 0))) ∧ aA (Kept w wc (fun k_ => P0_2_ k_)) ∧ aA (Below w0.heap.size w0 wc))
                case first =>
                 have H := aQc.out;clear aQc
                 by_cases PE : qI < aT
                 ·rw [if_pos PE] at H
                  have DU : decide (qI < aT) = true := decide_eq_true PE;clear PE
                  (first | rw [DU] | (simp only [bJ, bM]; rw [DU]) | rw [aNU] | skip);have H' := aA.mk H;clear H;have aRs := nY.out;have aRa := nX.out;have aFe : wr.cell? ⟨eT, 0, none⟩ = some (.int .i64 aV) := (aD cB.out 0).trans rfl;have aFd : wr.cell? ⟨eT, 1, none⟩ = some (.int .i64 aT) := (aD cB.out 1).trans rfl;have aFc : wr.cell? ⟨eT, 2, none⟩ = some (eF) := (aD cB.out 2).trans rfl;have aEJ := aC cB.out 0;have aEI := aC cB.out 1;have aEH := aC cB.out 2
                  go_wp2
                  go_meet
                  case rel => exact ⟨_, ((pB != (jM.length : Int))), kT, H', ⟨by have := BT.out; have := uN.out; have := FW.out; have := HK4.out; have := HK5.out; first | omega | exact Nat.le_refl _⟩, ⟨dZ kO.out⟩, ⟨dZ bP.out⟩, ⟨gW cB.out⟩, ⟨gW eK.out⟩, ⟨by repeat (first | (with_reducible first | exact HK.out | apply Kept.alloc | apply Kept.drewN | apply Kept.drew | refine Kept.setCell ?_ (.inr pG.out) _ | refine Kept.setCell ?_ (.inr qS.out) _) | exact HK.out)⟩, ⟨dD HB qG sG⟩⟩
                 ·rw [if_neg PE] at H
                  have DU : decide (qI < aT) = false := decide_eq_false PE;clear PE
                  (first | rw [DU] | (simp only [bJ, bM]; rw [DU]) | rw [aNU] | skip);have H' := aA.mk H;clear H;have aRr := nY.out;have aQZ := nX.out;have ML : wr.cell? ⟨eT, 0, none⟩ = some (.int .i64 aV) := (aD cB.out 0).trans rfl;have MK : wr.cell? ⟨eT, 1, none⟩ = some (.int .i64 aT) := (aD cB.out 1).trans rfl;have MJ : wr.cell? ⟨eT, 2, none⟩ = some (eF) := (aD cB.out 2).trans rfl;have LZ := aC cB.out 0;have LY := aC cB.out 1;have LX := aC cB.out 2
                  go_wp2
                  go_meet
                  case rel => exact ⟨_, (false), kT, H', ⟨by have := BT.out; have := uN.out; have := FW.out; have := HK4.out; have := HK5.out; first | omega | exact Nat.le_refl _⟩, ⟨dZ kO.out⟩, ⟨dZ bP.out⟩, ⟨gW cB.out⟩, ⟨gW eK.out⟩, ⟨by repeat (first | (with_reducible first | exact HK.out | apply Kept.alloc | apply Kept.drewN | apply Kept.drew | refine Kept.setCell ?_ (.inr pG.out) _ | refine Kept.setCell ?_ (.inr qS.out) _) | exact HK.out)⟩, ⟨dD HB qG sG⟩⟩
                case rest =>
                 clear aQc;(try clear c1);(try clear c2);(try clear p2);(try clear q2);(try clear hx2);(try clear hf2);(try clear c3);(try clear p3);(try clear q3);(try clear hx3);(try clear hf3);(try clear c4);(try clear c5);(try clear sZ);(try clear c6);(try clear p6);(try clear c8);(try clear c9);(try clear DJ);(try clear FI);(try clear QC);(try clear aCt);(try clear uJ);(try clear KQ);(try clear NV);(try clear YQ);(try clear c24);(try clear c25);(try clear aKc);(try clear c26);(try clear aKb);(try clear p27);(try clear q27);(try clear hx27);(try clear hf27);(try clear c30);(try clear YP);(try clear NB);(try clear aCq);(try clear p32);(try clear q32);(try clear hx32);(try clear hf32);(try clear c33);(try clear c44);(try clear c46);(try clear aJY);(try clear c48);(try clear PE);(try clear DU);(try clear aNU);(try clear c54);(try clear c56);(try clear mX);(try clear mW);(try clear mU);(try clear rN);(try clear rL);(try clear rK);(try clear wN);(try clear wM);(try clear wL);(try clear aAK);(try clear aAJ);(try clear aAI);(try clear SX);(try clear SW);(try clear SV);(try clear SU);(try clear SS);(try clear SR);(try clear aFe);(try clear aFd);(try clear aFc);(try clear ML);(try clear MK);(try clear MJ);(try clear nS);(try clear nR);(try clear nQ);(try clear mQ);(try clear mP);(try clear mO);(try clear rJ)
                 (try clear rI);(try clear rH);(try clear wK);(try clear wJ);(try clear wI);(try clear aAB);(try clear aAA);(try clear aAz);(try clear RY);(try clear RX);(try clear RW);(try clear RV);(try clear RU);(try clear RT);(try clear aEJ);(try clear aEI);(try clear aEH);(try clear LZ);(try clear LY);(try clear LX);(try clear nP);(try clear nO);(try clear nN);(try clear hx27_0);(try clear hx32_0);(try clear p2);(try clear p27);(try clear p3);(try clear p32);(try clear p6);(try clear q2);(try clear q27);(try clear q3);(try clear q32);obtain ⟨kq, ZI, rfl, HA, HJ51, kO, bP, cB, eK, HK, HB⟩ := hcut
                 cases kq with
                 | zero => exact absurd HA.out (by simp [aM.j5])
                 | succ kj51 =>
                  have H := HA.out;clear HA;simp only [aM.j5] at H
                  by_cases c58 : ZI = true
                  ·subst c58
                   have H1 : (if 0 ≤ (wrap64 ((wrap64 (pB * aT)) + qI)) then (if (wrap64 ((wrap64 (pB * aT)) + qI)) < (dS.length : Int) then ((cJ.f aV aT dS (jM.length : Int) qI).bind fun t203 => ((cU.f t201 t203).bind fun t204 => (aM.l4 kj51 sH iW (jM.length : Int) pB t201 (wrap64 (qI + 1)) aV aT (dS.set ((wrap64 ((wrap64 (pB * aT)) + qI)) : Int).toNat (Go.bits .xor .u8 (rd dS (wrap64 ((wrap64 (pB * aT)) + qI))) t204))))) else (none)) else (none)) = some (r1, r2, r3, r4) := by rw [if_pos rfl] at H; exact H
                   clear H;have H := H1;clear H1;obtain ⟨iQ, VE⟩ : ∃ j_ : Int, (wrap64 ((wrap64 (pB * aT)) + qI)) = j_ := ⟨_, rfl⟩
                   replace H : (if 0 ≤ (iQ) then (if (iQ) < (dS.length : Int) then ((cJ.f aV aT dS (jM.length : Int) qI).bind fun t203 => ((cU.f t201 t203).bind fun t204 => (aM.l4 kj51 sH iW (jM.length : Int) pB t201 (wrap64 (qI + 1)) aV aT (dS.set ((iQ) : Int).toNat (Go.bits .xor .u8 (rd dS (iQ)) t204))))) else (none)) else (none)) = some (r1, r2, r3, r4) := by first | (rw [VE] at H; exact H) | (simp only [VE] at H ⊢; exact H)
                   have aPp : (IntKind.i64.wrap ((wrap64 (pB * aT)) + qI)) = iQ := (bJ _).trans VE
                   by_cases c60 : 0 ≤ (iQ)
                   ·rw [if_pos c60] at H
                    have aNS : decide (0 ≤ (iQ)) = true := decide_eq_true c60;clear c60
                    by_cases c61 : (iQ) < (dS.length : Int)
                    ·rw [if_pos c61] at H
                     have aSf : decide ((iQ) < (dS.length : Int)) = true := decide_eq_true c61;clear c61;replace H := Option.bind_eq_some_iff.mp H;obtain ⟨t203, aKJ, H⟩ := H;replace H : ((cU.f t201 t203).bind fun t204 => (aM.l4 kj51 sH iW (jM.length : Int) pB t201 (wrap64 (qI + 1)) aV aT (dS.set ((iQ) : Int).toNat (Go.bits .xor .u8 (rd dS (iQ)) t204)))) = some (r1, r2, r3, r4) := H;have A62 := aA.mk aKJ;clear aKJ;replace H := Option.bind_eq_some_iff.mp H;obtain ⟨t204, aKI, H⟩ := H;replace H : (aM.l4 kj51 sH iW (jM.length : Int) pB t201 (wrap64 (qI + 1)) aV aT (dS.set ((iQ) : Int).toNat (Go.bits .xor .u8 (rd dS (iQ)) t204))) = some (r1, r2, r3, r4) := H;have A63 := aA.mk aKI;clear aKI;obtain ⟨y205, hy205⟩ : ∃ y_ : List Int, y_ = (dS.set ((iQ) : Int).toNat (Go.bits .xor .u8 (rd dS (iQ)) t204)) := ⟨_, rfl⟩
                     replace H : (aM.l4 kj51 sH iW (jM.length : Int) pB t201 (wrap64 (qI + 1)) aV aT y205) = some (r1, r2, r3, r4) := by first | (rw [hy205]; with_reducible exact H) | (have H2_ := (Option.bind_some _ _).symm.trans H; rw [hy205]; with_reducible exact H2_) | (have H2_ := (Option.bind_some _ _).symm.trans H; with_reducible exact H2_) | with_reducible exact H | (rw [hy205]; exact H) | exact H
                     have Ny205 := aA.mk hy205;clear hy205;have H' := aA.mk H;clear H
                     try go_wp2
                     replace kO := aA.mk (Kd.bK kO.out);replace bP := aA.mk (Kd.bK bP.out);replace cB := aA.mk (aH cB.out);replace eK := aA.mk (aH eK.out);replace HK := aA.mk (Kept.drew HK.out);replace HB := aA.mk (dY HB.out);obtain ⟨bBg, aPA, eo66⟩ := Kd.cH bP.out
                     (first | subst eo66 | (injection eo66 with f1_ f2_ f3_; have f4_ := f1_.symm; have f5_ := f3_.symm; clear f1_ f2_ f3_; subst f4_; subst f5_));have aPf : 0 ≤ ((iQ) : Int) := of_decide_eq_true sJ;have q202 : (iQ) < (dS.length : Int) := of_decide_eq_true sJ;obtain ⟨ad202, e202, hx202_0⟩ := Kd.uE (Kd.bZ bP.out).2.2 (iQ) aPf q202
                     cases e202
                     replace aPf := eq_true aPf;replace q202 := eq_true q202;refine sV (n := 19) (S := fun w' => w'.cell? ⟨eT, 0, none⟩ = some (.int .i64 aV) ∧ w'.cell? ⟨eT, 1, none⟩ = some (.int .i64 aT) ∧ w'.cell? ⟨eT, 2, none⟩ = some (.slice (some ad202) dS.length aPA) ∧ w'.cell? (ad202.add ((iQ)).toNat) = some (.int .u8 (rd dS (iQ)))) (ds := [18]) #[false, false, false, false, false, false, false, false, false, false, false, false, false, false, false, false, false, false, false] (by kernel_rfl) rfl rfl ⟨(aD cB.out 0).trans rfl, (aD cB.out 1).trans rfl, (aD cB.out 2).trans rfl, hx202_0⟩ (fun hHeld => ?_); refine kB aM.aQC aM.aPN (fun HT_ HW_ => ?_);generalize wc.drew = w65 at kO bP cB eK HK HB hx202_0 hHeld ⊢;refine cF (i := 0) (N := some 100) (v := ?_) (a' := ?_) #[true, false, false, false, false, false, false, false, false, false, false, false, false, false, false, false, false, false, false] rfl rfl (bX HT_.out (by kernel_rfl)) (fun _ _ _ h => h) (Or.inl ⟨by rfl, ?_⟩) ?_ ?_;rotate_left
                     ·intro w'
                      go_simp;(with_reducible rfl)
                     rotate_left
                     ·simp only [Act.put, cW, cT, cZ, bJ, bM]
                      rfl
                     refine cF (i := 2) (N := some 102) (v := ?_) (a' := ?_) #[true, false, true, false, false, false, false, false, false, false, false, false, false, false, false, false, false, false, false] rfl rfl (bX HT_.out (by kernel_rfl)) (fun _ _ _ h => h) (Or.inl ⟨by rfl, ?_⟩) ?_ ?_;rotate_left
                     ·intro w'
                      go_simp;(with_reducible rfl)
                     rotate_left
                     ·simp only [Act.put, cW, cT, cZ, bJ, bM]
                      rfl
                     refine cF (i := 3) (N := some 103) (v := ?_) (a' := ?_) #[true, false, true, true, false, false, false, false, false, false, false, false, false, false, false, false, false, false, false] rfl rfl (bX HT_.out (by kernel_rfl)) (fun _ _ _ h => h) (Or.inl ⟨by rfl, ?_⟩) ?_ ?_;rotate_left
                     ·intro w'
                      go_simp;(with_reducible rfl)
                     rotate_left
                     ·simp only [Act.put, cW, cT, cZ, bJ, bM]
                      rfl
                     refine cF (i := 6) (N := some 106) (v := ?_) (a' := ?_) #[true, false, true, true, false, false, true, false, false, false, false, false, false, false, false, false, false, false, false] rfl rfl (bX HT_.out (by kernel_rfl)) (fun _ _ _ h => h) (Or.inl ⟨by rfl, ?_⟩) ?_ ?_;rotate_left
                     ·intro w'
                      go_simp;(with_reducible rfl)
                     rotate_left
                     ·simp only [Act.put, cW, cT, cZ, bJ, bM]
                      rfl
                     refine cF (i := 10) (N := some 110) (v := ?_) (a' := ?_) #[true, false, true, true, false, false, true, false, false, false, true, false, false, false, false, false, false, false, false] rfl rfl (bX HT_.out (by kernel_rfl)) (fun _ _ _ h => h) (Or.inl ⟨by rfl, ?_⟩) ?_ ?_;rotate_left
                     ·intro w'
                      go_simp;(with_reducible rfl)
                     rotate_left
                     ·simp only [Act.put, cW, cT, cZ, bJ, bM]
                      rfl
                     refine cF (i := 12) (N := some 112) (v := ?_) (a' := ?_) #[true, false, true, true, false, false, true, false, false, false, true, false, true, false, false, false, false, false, false] rfl rfl (bX HT_.out (by kernel_rfl)) (fun _ _ _ h => h) (Or.inl ⟨by rfl, ?_⟩) ?_ ?_;rotate_left
                     ·intro w'
                      go_simp;(with_reducible rfl)
                     rotate_left
                     ·simp only [Act.put, cW, cT, cZ, bJ, bM]
                      rfl
                     refine cF (i := 13) (N := some 113) (v := ?_) (a' := ?_) #[true, false, true, true, false, false, true, false, false, false, true, false, true, true, false, false, false, false, false] rfl rfl (bX HT_.out (by kernel_rfl)) (fun _ _ _ h => h) (Or.inl ⟨by rfl, ?_⟩) ?_ ?_;rotate_left
                     ·intro w'
                      go_simp;(with_reducible rfl)
                     rotate_left
                     ·simp only [Act.put, cW, cT, cZ, bJ, bM]
                      rfl
                     refine fW (i := 1) (N := some 101) (v := ?_) (a' := ?_) #[true, true, true, true, false, false, true, false, false, false, true, false, true, true, false, false, false, false, false] rfl rfl (dQ HT_.out HW_.out (by kernel_rfl)) (fun _ _ _ h => h) (Or.inl ⟨by rfl, ?_⟩) hHeld ?_ ?_;rotate_left
                     ·rintro w' ⟨s0, s1, s2, s3⟩
                      go_simp;(with_reducible rfl)
                     rotate_left
                     ·simp only [Act.put, cW, cT, cZ, bJ, bM]
                      rfl
                     refine fW (i := 4) (N := some 104) (v := ?_) (a' := ?_) #[true, true, true, true, true, false, true, false, false, false, true, false, true, true, false, false, false, false, false] rfl rfl (dQ HT_.out HW_.out (by kernel_rfl)) (fun _ _ _ h => h) (Or.inl ⟨by rfl, ?_⟩) hHeld ?_ ?_;rotate_left
                     ·rintro w' ⟨s0, s1, s2, s3⟩
                      go_simp;(with_reducible rfl)
                     rotate_left
                     ·simp only [Act.put, cW, cT, cZ, bJ, bM]
                      rfl
                     refine cF (i := 5) (N := some 105) (v := ?_) (a' := ?_) #[true, true, true, true, true, true, true, false, false, false, true, false, true, true, false, false, false, false, false] rfl rfl (bX HT_.out (by kernel_rfl)) (fun _ _ _ h => h) (Or.inl ⟨by rfl, ?_⟩) ?_ ?_;rotate_left
                     ·intro w'
                      go_simp;(with_reducible rfl)
                     rotate_left
                     ·simp only [Act.put, cW, cT, cZ, bJ, bM]
                      rfl
                     refine cF (i := 7) (N := some 107) (v := ?_) (a' := ?_) #[true, true, true, true, true, true, true, true, false, false, true, false, true, true, false, false, false, false, false] rfl rfl (bX HT_.out (by kernel_rfl)) (fun _ _ _ h => h) (Or.inl ⟨by rfl, ?_⟩) ?_ ?_;rotate_left
                     ·intro w'
                      go_simp;(with_reducible rfl)
                     rotate_left
                     ·simp only [Act.put, cW, cT, cZ, bJ, bM]
                      rfl
                     refine cF (i := 8) (N := some 108) (v := ?_) (a' := ?_) #[true, true, true, true, true, true, true, true, true, false, true, false, true, true, false, false, false, false, false] rfl rfl (bX HT_.out (by kernel_rfl)) (fun _ _ _ h => h) (Or.inl ⟨by rfl, ?_⟩) ?_ ?_;rotate_left
                     ·intro w'
                      go_simp;(with_reducible rfl)
                     rotate_left
                     ·simp only [Act.put, cW, cT, cZ, bJ, bM]
                      rfl
                     refine fW (i := 9) (N := some 109) (v := ?_) (a' := ?_) #[true, true, true, true, true, true, true, true, true, true, true, false, true, true, false, false, false, false, false] rfl rfl (dQ HT_.out HW_.out (by kernel_rfl)) (fun _ _ _ h => h) (Or.inl ⟨by rfl, ?_⟩) hHeld ?_ ?_;rotate_left
                     ·rintro w' ⟨s0, s1, s2, s3⟩
                      go_simp;(with_reducible rfl)
                     rotate_left
                     ·simp only [Act.put, cW, cT, cZ, bJ, bM]
                      rfl
                     refine fW (i := 11) (N := some 111) (v := ?_) (a' := ?_) #[true, true, true, true, true, true, true, true, true, true, true, true, true, true, false, false, false, false, false] rfl rfl (dQ HT_.out HW_.out (by kernel_rfl)) (fun _ _ _ h => h) (Or.inl ⟨by rfl, ?_⟩) hHeld ?_ ?_;rotate_left
                     ·rintro w' ⟨s0, s1, s2, s3⟩
                      go_simp;(with_reducible rfl)
                     rotate_left
                     ·simp only [Act.put, cW, cT, cZ, bJ, bM]
                      rfl
                     refine AV (i := 14) (N := some 114) #[true, true, true, true, true, true, true, true, true, true, true, true, true, true, true, false, false, false, false] rfl rfl (iP HT_.out (by kernel_rfl)) (by decide) (fun K hK => ?_);refine AX Try.func25 (by kernel_rfl) rfl #[.agg #[.int .i64 aV, .int .i64 aT, .slice (some ad202) dS.length aPA], .int .i64 (jM.length : Int), .int .i64 qI] (by rfl) rfl rfl kR ?_
                     with_reducible refine (cJ.calls aV aT _ _ dS (jM.length : Int) qI t203 _ ?side1 ?side2 A62.out).mono ?_
                     (case side1 => repeat (first | exact (Kd.bZ bP.out).2.2 | (with_reducible refine Kd.cY ?_ _) | (with_reducible refine Kd.cX ?_ _) | (with_reducible refine Kd.dM ?_)))
                     (case side2 => exact (Kd.bZ bP.out).2.1);rintro e w67 ⟨rfl, hb⟩;have HS3_ := (hb.cell (World.block_lt_of_cell? _ _ (hHeld.2.2.2))).trans (hHeld.2.2.2);refine ⟨_, rfl, ?_⟩;replace kO := aA.mk (Kd.bW (dZ kO.out) hb);replace bP := aA.mk (Kd.bW (dZ bP.out) hb);replace cB := aA.mk (aK (cN cB) hb);replace eK := aA.mk (aK (cN eK) hb);replace HK := aA.mk (Kept.below (S := (fun k_ => P0_2_ k_)) (by repeat (first | (with_reducible first | exact HK.out | apply Kept.alloc | apply Kept.drewN | apply Kept.drew | refine Kept.setCell ?_ (.inr pG.out) _ | refine Kept.setCell ?_ (.inr qS.out) _) | exact HK.out)) hb);replace HB := aA.mk (aN (dD HB qG sG) hb);(try clear hb);(try clear hb2);(try clear hk);(try clear hi);refine hK.out _ _ ⟨(aD cB.out 0).trans rfl, (aD cB.out 1).trans rfl, (aD cB.out 2).trans rfl, HS3_⟩ (fun hHeld => ?_);clear hK K;refine sB (a' := ?_) ?_ ?_;rotate_left
                     ·show Act.put _ (some 114) _ = _
                      simp only [Act.put, cW, cT, cZ, bJ, bM];rfl
                     refine AV (i := 15) (N := some 115) #[true, true, true, true, true, true, true, true, true, true, true, true, true, true, true, true, false, false, false] rfl rfl (iP HT_.out (by kernel_rfl)) (by decide) (fun K hK => ?_);refine AX Try.func24 (by kernel_rfl) rfl #[.int .u8 t201, .int .u8 t203] (by rfl) rfl rfl kR ?_
                     with_reducible refine (cU.calls t201 t203 t204 _ A63.out).mono ?_
                     rintro e w' ⟨rfl, ⟨nd, rfl⟩⟩;refine ⟨_, rfl, ?_⟩;have p64 : 0 ≤ ((iQ) : Int) := of_decide_eq_true sJ;have q64 : ((iQ) : Int) < ((dS.length : Int) : Int) := of_decide_eq_true sJ;obtain ⟨go64, bAH, eo64, aRJ, gl64, cl64, HG64⟩ := Kd.AE bP.out (by omega)
                     (first | cases eo64 | (injection eo64 with ea_ en_ ec_; (first | subst ea_ | (injection ea_ with ea_; subst ea_)); subst ec_; clear en_));have GB64 := aA.mk aRJ;have GG64 := aA.mk HG64;clear aRJ gl64 HG64;have HMgo64 := aA.mk (show (P0_2_ go64 ∨ w.heap.size ≤ go64) from (bP.out.1 _ rfl))
                     (first | simp only [add_plain] at hx202_0 | skip);obtain ⟨hx64_0, hf64_0⟩ := Kd.rS 0 bP.out ((iQ) : Int) p64 q64;replace p64 := eq_true p64;replace q64 := eq_true q64;have HP68 := Kd.KM bP.out ((iQ) : Int) (Go.bits .xor .u8 (rd dS (iQ)) t204);rw [← Ny205.out] at HP68;have HQ68 := aA.mk HP68;clear HP68;refine hK.out _ _ ⟨(aD cB.out 0).trans rfl, (aD cB.out 1).trans rfl, (aD cB.out 2).trans rfl, hHeld.2.2.2⟩ (fun hHeld => ?_);clear hK K;refine sB (a' := ?_) ?_ ?_;rotate_left
                     ·show Act.put _ (some 115) _ = _
                      simp only [Act.put, cW, cT, cZ, bJ, bM];rfl
                     refine cF (i := 16) (N := some 116) (v := ?_) (a' := ?_) #[true, true, true, true, true, true, true, true, true, true, true, true, true, true, true, true, true, false, false] rfl rfl (bX HT_.out (by kernel_rfl)) (fun _ _ _ h => h) (Or.inl ⟨by rfl, ?_⟩) ?_ ?_;rotate_left
                     ·intro w'
                      go_simp;(with_reducible rfl)
                     rotate_left
                     ·simp only [Act.put, cW, cT, cZ, bJ, bM]
                      rfl
                     refine cF (i := 17) (N := some 117) (v := ?_) (a' := ?_) #[true, true, true, true, true, true, true, true, true, true, true, true, true, true, true, true, true, true, false] rfl rfl (bX HT_.out (by kernel_rfl)) (fun _ _ _ h => h) (Or.inl ⟨by rfl, ?_⟩) ?_ ?_;rotate_left
                     ·intro w'
                      go_simp;(with_reducible rfl)
                     rotate_left
                     ·simp only [Act.put, cW, cT, cZ, bJ, bM]
                      rfl
                     refine PV (i := 18) (N := none) #[true, true, true, true, true, true, true, true, true, true, true, true, true, true, true, true, true, true, true] rfl rfl (iP HT_.out (by kernel_rfl)) (by decide) (fun K hK => ?_);refine JH (w1 := ?_) (by rfl) rfl ?_ ?_;rotate_left
                     ·go_simp
                      rfl
                     refine hK.out _ _ ?_;clear hK K;refine xS (rR HT_.out (by kernel_rfl)) ?_
                     try go_wp2
                     go_roundg kj51
                     case measure => have := BT.out; have := uN.out; have := FW.out; have := HK4.out; have := HK5.out; have := HJ51.out; omega
                     case rel => exact ⟨(wrap64 (qI + 1)), (y205), (.slice (some ⟨go64, 0, none⟩) dS.length aPA), kT, H', ⟨by have := BT.out; have := uN.out; have := FW.out; have := HK4.out; have := HK5.out; have := HJ51.out; omega⟩, ⟨by (with_reducible repeat first | apply Kd.bG | apply Kd.bF | apply Kd.bK); exact Kd.bN (Kd.aZ (p := ⟨go64, ((iQ) : Int).toNat, none⟩) (Kd.bQ kO.out GG64.out (by decide)) (fun _ hk => hk.2) (.int .u8 (Go.bits .xor .u8 (rd dS (iQ)) t204))) (fun _ hk => hk.1)⟩, ⟨dZ HQ68.out⟩, ⟨by (with_reducible repeat first | apply aE | apply aH | apply aG); refine bE ?_ (by have h_ := Kd.lV bP.out cB.out (by decide); intro e_; exact h_ (by rw [e_]; rfl)) _; (with_reducible repeat first | apply aE | apply aH | apply aG); exact cB.out⟩, ⟨by (with_reducible repeat first | apply aE | apply aH | apply aG); refine bE ?_ (by have h_ := Kd.lV bP.out eK.out (by decide); intro e_; exact h_ (by rw [e_]; rfl)) _; (with_reducible repeat first | apply aE | apply aH | apply aG); exact eK.out⟩, ⟨by repeat (first | (with_reducible first | exact HK.out | apply Kept.alloc | apply Kept.drewN | apply Kept.drew | refine Kept.setCell ?_ HMgo64.out _ | refine Kept.setCell ?_ (.inr pG.out) _ | refine Kept.setCell ?_ (.inr qS.out) _) | exact HK.out)⟩, ⟨gL HB GB64 qG sG⟩⟩
                    ·rw [if_neg c61] at H
                     exact absurd H (by simp)
                   ·rw [if_neg c60] at H
                    exact absurd H (by simp)
                  ·replace c58 := Bool.eq_false_iff.mpr c58
                   subst c58;have H1 : (aM.l3 kj51 sH iW (jM.length : Int) (wrap64 (pB + 1)) aV aT dS) = some (r1, r2, r3, r4) := by rw [if_neg (show ¬ (false = true) by decide)] at H; exact H
                   clear H;have H := H1;clear H1;have H' := aA.mk H;clear H
                   go_wp2
                   go_roundg kj51
                   case measure => have := BT.out; have := uN.out; have := FW.out; have := HK4.out; have := HK5.out; have := HJ51.out; omega
                   case rel => exact ⟨(wrap64 (pB + 1)), (dS), (eF), kT, H', ⟨by have := BT.out; have := uN.out; have := FW.out; have := HK4.out; have := HK5.out; have := HJ51.out; omega⟩, ⟨dZ kO.out⟩, ⟨dZ bP.out⟩, ⟨gW cB.out⟩, ⟨gW eK.out⟩, ⟨by repeat (first | (with_reducible first | exact HK.out | apply Kept.alloc | apply Kept.drewN | apply Kept.drew | refine Kept.setCell ?_ (.inr pG.out) _ | refine Kept.setCell ?_ (.inr qS.out) _) | exact HK.out)⟩, ⟨dD HB qG sG⟩⟩
             ·rw [if_neg c46] at H
              have aJY : decide (pB < aV) = false := decide_eq_false c46;clear c46
              by_cases c69 : sH.length < 17592186044416
              ·rw [if_pos c69] at H
               have LMc69 := aA.mk c69;clear c69;obtain ⟨y198, hy198⟩ : ∃ y_ : List Int, y_ = (sH ++ [iW]) := ⟨_, rfl⟩
               replace H : (aM.l0 k4 y198 (wrap64 (iW + 1)) aV aT pK) = some (r1, r2, r3, r4) := by first | (rw [hy198]; with_reducible exact H) | (have H2_ := (Option.bind_some _ _).symm.trans H; rw [hy198]; with_reducible exact H2_) | (have H2_ := (Option.bind_some _ _).symm.trans H; with_reducible exact H2_) | with_reducible exact H | (rw [hy198]; exact H) | exact H
               have Ny198 := aA.mk hy198;clear hy198;have H' := aA.mk H;clear H;have aRo := nY.out;have aQW := nX.out;have aMp : wr.cell? ⟨eT, 0, none⟩ = some (.int .i64 aV) := (aD cB.out 0).trans rfl;have aMo : wr.cell? ⟨eT, 1, none⟩ = some (.int .i64 aT) := (aD cB.out 1).trans rfl;have aMn : wr.cell? ⟨eT, 2, none⟩ = some (eF) := (aD cB.out 2).trans rfl;have aLR := aC cB.out 0;have aLQ := aC cB.out 1;have aLP := aC cB.out 2;go_wp2_with (first | ((with_reducible refine oW (b := .append) (xs := #[.tmp 118, .tmp 120]) rfl ?_); at_builtin; refine Kd.FR (Kd.int .i64) (w0 := w0) w0.heap.size rfl (.tmp 118) (.tmp 120) 37 3 (.int .i64 0) 8 rfl Try.underlying37 aQS rfl (by decide) (by omega) u4 sH iW [.int .i64 iW] (fun k_ => (P0_2_ k_ ∨ w.heap.size ≤ k_)) (fun _ => False) rfl rfl ?aP (fun _ hk => hk.elim) ?aF ?aO ?aB ?aS ?aL ?_; (case aP => exact rfl); (case aB => exact (dD HB qG sG)); (case aF => exact (fun k_ hk => (.inr (Nat.le_trans (by first | exact HK.out.1 | exact (show Kept w _ (fun k_ => P0_2_ k_) from by repeat (first | (with_reducible first | exact HK.out | apply Kept.alloc | apply Kept.drewN | apply Kept.drew | refine Kept.setCell ?_ (.inr pG.out) _ | refine Kept.setCell ?_ (.inr qS.out) _) | exact HK.out)).1) hk)))); (case aO => exact (dZ kO.out)); (case aS => exact (aJ (dD HB qG sG))); (case aL => have := LMc69.out; omega); intro bAm w72 ho hb hg hat; rw [← Ny198.out] at ho; have nH := aA.mk (Kd.aFM (dZ bP.out) (Kd.aBe (dZ kO.out)) (by decide) hg); have nG := aA.mk (eM (cN cB) hg (Kd.lV kO.out cB.out (by decide))); have JK := aA.mk (eM (cN eK) hg (Kd.lV kO.out eK.out (by decide))); have UU := aA.mk (hb); have XW := aA.mk (Kept.UR (S := (fun k_ => P0_2_ k_)) hg (by repeat (first | (with_reducible first | exact HK.out | apply Kept.alloc | apply Kept.drewN | apply Kept.drew | refine Kept.setCell ?_ (.inr pG.out) _ | refine Kept.setCell ?_ (.inr qS.out) _) | exact HK.out)) (fun k_ e_ => (kO.out.1 k_ e_))); have n5_ := aA.mk (ho); clear bP cB; clear eK HB; clear HK kO; have bP := nH; have cB := nG; have eK := JK; have HB := UU; have HK := XW; have aSM := n5_; clear nH nG JK UU XW n5_; clear ho hb hg hat))
               go_roundg k4
               case measure => have := BT.out; have := uN.out; have := FW.out; have := HK4.out; omega
               case rel => exact ⟨(y198), (wrap64 (iW + 1)), (pK), (eF), kT, H', ⟨by have := BT.out; have := uN.out; have := FW.out; have := HK4.out; omega⟩, ⟨dZ aSM.out⟩, ⟨dZ bP.out⟩, ⟨gW cB.out⟩, ⟨gW eK.out⟩, ⟨by repeat (first | (with_reducible first | exact HK.out | apply Kept.alloc | apply Kept.drewN | apply Kept.drew | refine Kept.setCell ?_ (.inr pG.out) _ | refine Kept.setCell ?_ (.inr qS.out) _) | exact HK.out)⟩, ⟨dD HB qG sG⟩⟩
              ·rw [if_neg c69] at H
               exact absurd H (by simp)
      ·rw [if_neg c9] at H
       have DJ : decide (dK < aV) = false := decide_eq_false c9;clear c9;have H' := aA.mk H;clear H;have aYk := nY.out;have aXJ := nX.out;have aVe : wr.cell? ⟨eT, 0, none⟩ = some (.int .i64 aV) := (aD cB.out 0).trans rfl;have aVd : wr.cell? ⟨eT, 1, none⟩ = some (.int .i64 aT) := (aD cB.out 1).trans rfl;have aVc : wr.cell? ⟨eT, 2, none⟩ = some (eF) := (aD cB.out 2).trans rfl;have aUf := aC cB.out 0;have aUe := aC cB.out 1;have aUd := aC cB.out 2
       go_wp2
       go_roundg k2
       case measure => have := BT.out; have := uN.out; omega
       case rel => exact ⟨(sH), (wrap64 (iW + 1)), (iN), (eF), kT, H', ⟨by have := BT.out; have := uN.out; omega⟩, ⟨dZ kO.out⟩, ⟨dZ bP.out⟩, ⟨gW cB.out⟩, ⟨gW eK.out⟩, ⟨by repeat (first | (with_reducible first | exact HK.out | apply Kept.alloc | apply Kept.drewN | apply Kept.drew | refine Kept.setCell ?_ (.inr pG.out) _ | refine Kept.setCell ?_ (.inr qS.out) _) | exact HK.out)⟩, ⟨dD HB qG sG⟩⟩
   ·rw [if_neg c5] at H
    have sZ : decide (iW < aT) = false := decide_eq_false c5;clear c5;simp only [Option.some.injEq, Prod.mk.injEq] at H;obtain ⟨rfl, rfl, rfl, rfl⟩ := H;have aRn := nY.out;have aQV := nX.out;have aVb : wr.cell? ⟨eT, 0, none⟩ = some (.int .i64 aV) := (aD cB.out 0).trans rfl;have aVa : wr.cell? ⟨eT, 1, none⟩ = some (.int .i64 aT) := (aD cB.out 1).trans rfl;have aUZ : wr.cell? ⟨eT, 2, none⟩ = some (eF) := (aD cB.out 2).trans rfl;have aUc := aC cB.out 0;have aUb := aC cB.out 1;have aUa := aC cB.out 2;have aUY : wr.cell? ⟨tG, 0, none⟩ = some (.int .i64 0) := (aD eK.out 0).trans rfl;have aUX : wr.cell? ⟨tG, 1, none⟩ = some (.int .i64 0) := (aD eK.out 1).trans rfl;have aUW : wr.cell? ⟨tG, 2, none⟩ = some (.slice none 0 0) := (aD eK.out 2).trans rfl;have aTZ := aC eK.out 0;have aTY := aC eK.out 1;have aTX := aC eK.out 2;obtain ⟨aQf, aPz, eo78⟩ := Kd.cH bP.out;subst eo78
    go_wp2
    refine bodyPost_ret (cS rfl _ _ tG 24 #[.int .i64 aV, .int .i64 aT, .slice aQf uT.length aPz] (0, 0) _ rfl (by (with_reducible repeat first | apply aE | apply aH | apply aG); refine bA (cs := #[.int .i64 aV, .int .i64 aT, .slice none 0 0]) ?_ 2 _ rfl; (with_reducible repeat first | apply aE | apply aH | apply aG); refine bA (cs := #[.int .i64 aV, .int .i64 0, .slice none 0 0]) ?_ 1 _ rfl; (with_reducible repeat first | apply aE | apply aH | apply aG); refine bA (cs := #[.int .i64 0, .int .i64 0, .slice none 0 0]) ?_ 0 _ rfl; (with_reducible repeat first | apply aE | apply aH | apply aG); exact eK.out) Try.underlying24 rfl (by kernel_rfl)) rfl ?_;exact ⟨_, _, tZ, by (with_reducible repeat first | apply Kd.bG | apply Kd.bF | apply Kd.bK); exact Kd.bN (Kd.aZ (p := ⟨tG, 2, none⟩) (Kd.aZ (p := ⟨tG, 1, none⟩) (Kd.aZ (p := ⟨tG, 0, none⟩) (Kd.bQ bP.out eK.out (by decide)) (fun _ hk => hk.2) (.int .i64 aV)) (fun _ hk => hk.2) (.int .i64 aT)) (fun _ hk => hk.2) (.slice aQf uT.length aPz)) (fun _ hk => hk.1), by (with_reducible repeat first | apply Kd.bG | apply Kd.bF | apply Kd.bK); exact Kd.bN (Kd.aZ (p := ⟨tG, 2, none⟩) (Kd.aZ (p := ⟨tG, 1, none⟩) (Kd.aZ (p := ⟨tG, 0, none⟩) (Kd.bQ kO.out eK.out (by decide)) (fun _ hk => hk.2) (.int .i64 aV)) (fun _ hk => hk.2) (.int .i64 aT)) (fun _ hk => hk.2) (.slice aQf uT.length aPz)) (fun _ hk => hk.1), dD HB qG sG, by repeat (first | (with_reducible first | exact HK.out | apply Kept.alloc | apply Kept.drewN | apply Kept.drew | refine Kept.setCell ?_ (.inr pG.out) _ | refine Kept.setCell ?_ (.inr qS.out) _) | exact HK.out)⟩
end Go.Proofs.Yteofcbkjhdadpaa.Pr
