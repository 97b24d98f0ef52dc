import Derived.Test.YteofcbkjhdadpaaCBuildAnyx0
set_option maxHeartbeats 8000000
set_option maxRecDepth 100000
set_option linter.unusedSimpArgs false
set_option linter.unusedVariables false
namespace Go.Proofs.Yteofcbkjhdadpaa.Pr
open Go.RowKit Go.Proofs.aD.aT Go.Proofs.aD.cY Go.Proofs.aD.eR
attribute [local go_sem] gP gM iU iT fF fE gN gL   -- for this text's walks alone
mutual
def aI.l0 : Nat → Int → List Int → List Int → Int → Option (List Int)
 | 0, _, _, _, _ => none
 | k + 1, x0, x2, x7, x8 => if x8 < (x7.length : Int) then (if 0 ≤ x8 then (aI.l0 k x0 x2 (x7.set (x8 : Int).toNat x8) (wrap64 (x8 + 1))) else (none)) else (aI.l1 k x0 x2 x7 0)
def aI.l1 : Nat → Int → List Int → List Int → Int → Option (List Int)
 | 0, _, _, _, _ => none
 | k + 1, x0, x2, x7, x9 => if (wrap64 (x9 + 1)) < (x2.length : Int) then (if 0 ≤ x9 then (if x9 < (x2.length : Int) then (if (x7.length : Int) = 0 then (none) else (if 0 ≤ (wrap64 (x9 + 1)) then (if 0 ≤ (Int.tmod (wrap64 (rd x2 (wrap64 (x9 + 1)))) (x7.length : Int)) then (if (Int.tmod (wrap64 (rd x2 (wrap64 (x9 + 1)))) (x7.length : Int)) < (x7.length : Int) then (if 0 ≤ (Int.tmod (wrap64 (rd x2 x9)) (x7.length : Int)) then (if (Int.tmod (wrap64 (rd x2 x9)) (x7.length : Int)) < (x7.length : Int) then (aI.l1 k x0 x2 ((x7.set ((Int.tmod (wrap64 (rd x2 x9)) (x7.length : Int)) : Int).toNat (rd x7 (Int.tmod (wrap64 (rd x2 (wrap64 (x9 + 1)))) (x7.length : Int)))).set ((Int.tmod (wrap64 (rd x2 (wrap64 (x9 + 1)))) (x7.length : Int)) : Int).toNat (rd x7 (Int.tmod (wrap64 (rd x2 x9)) (x7.length : Int)))) (wrap64 (x9 + 2))) else (none)) else (none)) else (none)) else (none)) else (none))) else (none)) else (none)) else (if 0 ≤ x0 then (if x0 ≤ (x7.length : Int) then (some (x7.take (x0 : Int).toNat)) else (none)) else (none))
end
def aI.f (k : Nat) (a0 : Int) (a1 : Int) (l2 : List Int) : Option (List Int) := if 0 ≤ (wrap64 (a0 + a1)) then (if (wrap64 (a0 + a1) : Int).toNat ≤ 35184372088832 then (aI.l0 k a0 l2 (List.replicate (wrap64 (a0 + a1) : Int).toNat 0) 0) else (none)) else (none)
def aI.T9 : Bool × List (List Nat × List Nat) := (true, [([], []), ([], []), ([0, 1], [0, 1]), ([2], [2]), ([3], [3]), ([], []), ([5], [5]), ([4, 6], [4, 6]), ([], []), ([], []), ([9], [9]), ([8, 10], [8, 10]), ([11], [11]), ([12], [12]), ([], []), ([14], [14]), ([13, 15], [13, 15]), ([7, 0, 1, 2, 3, 4, 5, 6, 7], [7]), ([16, 17, 0, 1, 2, 3, 4, 5, 6, 7, 8, 9, 10, 11, 12, 13, 14, 15, 16, 17], [16])])
def aI.B9 : List Nat := [0, 0, 3, 7, 15, 0, 32, 127, 0, 0, 512, 1792, 3840, 7936, 0, 16384, 65280, 255, 262143]
theorem aI.a7f : oB .any (opsOf Try.f23 9) = aI.T9 := by kernel_rfl
theorem aI.a3q : pG aI.T9.2 aI.B9 = true := by kernel_rfl
def aI.T10 : Bool × List (List Nat × List Nat) := (true, [([], []), ([], []), ([], []), ([], []), ([], []), ([], []), ([4, 5], [4, 5]), ([6], [6]), ([], []), ([], []), ([8, 9], [8, 9]), ([10], [10]), ([0, 1, 0, 1, 4, 5, 6, 7, 11], [0, 1]), ([12, 7, 0, 1, 4, 5, 6, 7, 11], [7, 12]), ([2, 3, 0, 1, 2, 3, 4, 5, 6, 7, 8, 9, 10, 11, 12, 13], [2, 3]), ([14, 11, 13, 0, 1, 2, 3, 4, 5, 6, 7, 8, 9, 10, 11, 12, 13], [11, 14])])
def aI.B10 : List Nat := [0, 0, 0, 0, 0, 0, 48, 112, 0, 0, 768, 1792, 4083, 8179, 16383, 32767]
theorem aI.a1Y : oB .any (opsOf Try.f23 10) = aI.T10 := by kernel_rfl
theorem aI.a1s : pG aI.T10.2 aI.B10 = true := by kernel_rfl
theorem aI.calls (k : Nat) (a0 : Int) (a1 : Int) (A2 : Option Addr) (c2 : Nat) (l2 : List Int) (r : List Int) (w : World) (hr2 : Kd.C (Kd.int .u8) w A2 l2.length l2) (hc2 : l2.length ≤ c2) (h : aI.f k a0 a1 l2 = some r) :
  Calls Try.prog 23 #[.int .i64 a0, .int .i64 a1, .slice A2 l2.length c2] w fun e w' => ∃ Z5 : Value, e = .returned (Z5) ∧ Kd.R (Kd.int .i64) 3 w' w.heap.size (fun _ => True) Z5 r ∧ Below w.heap.size w w' := by
 have vT := a6.mk hr2;have HC2 := a6.mk hc2;clear hr2 hc2;have HB := a6.mk (Below.refl w.heap.size w);have H : (if 0 ≤ (wrap64 (a0 + a1)) then (if (wrap64 (a0 + a1) : Int).toNat ≤ 35184372088832 then (aI.l0 k a0 l2 (List.replicate (wrap64 (a0 + a1) : Int).toNat 0) 0) else (none)) else (none)) = some r := h;clear h;obtain ⟨CR, I1⟩ : ∃ j_ : Int, (wrap64 (a0 + a1)) = j_ := ⟨_, rfl⟩
 replace H : (if 0 ≤ (CR) then (if (CR : Int).toNat ≤ 35184372088832 then (aI.l0 k a0 l2 (List.replicate (CR : Int).toNat 0) 0) else (none)) else (none)) = some r := by first | (rw [I1] at H; exact H) | (simp only [I1] at H ⊢; exact H)
 have a2y : (IntKind.i64.wrap (a0 + a1)) = CR := (bN _).trans I1
 by_cases c5 : 0 ≤ (CR)
 ·rw [if_pos c5] at H
  have IU := eq_true c5;have YQ : decide (0 ≤ (CR)) = true := decide_eq_true c5;clear c5
  by_cases c6 : (CR : Int).toNat ≤ 35184372088832
  ·rw [if_pos c6] at H
   have IT := eq_true c6;have QG : decide ((CR : Int).toNat ≤ 35184372088832) = true := decide_eq_true c6;clear c6;obtain ⟨y517, hy517⟩ : ∃ y_ : List Int, y_ = (List.replicate (CR : Int).toNat 0) := ⟨_, rfl⟩
   replace H : (aI.l0 k a0 l2 y517 0) = some r := by first | (rw [hy517]; with_reducible exact H) | (have H2_ := (Option.bind_some _ _).symm.trans H; rw [hy517]; with_reducible exact H2_) | (have H2_ := (Option.bind_some _ _).symm.trans H; with_reducible exact H2_) | with_reducible exact H | (rw [hy517]; exact H) | exact H
   have Ny517 := a6.mk hy517;clear hy517;have H' := a6.mk H;clear H;go_enter Try.func23, Try.ntmps23;go_wp2_with (first | ((with_reducible refine bE (N := 15) rfl ?_); refine Kd.MK (Kd.int .i64) _ 3 rfl (N := 15) rfl 37 _ _ rfl CR rfl rfl Try.underlying37 (.int .i64 0) 8 ZJ rfl (by decide) (by omega) 0 (ok := fun _ => True) (okp := fun _ => True) rfl (fun _ hk => hk) trivial (of_decide_eq_true qZ) (Nat.le_trans (Nat.mul_le_mul_right _ (of_decide_eq_true qZ : CR.toNat ≤ 35184372088832)) (by omega)) (Below.refl _ _) (Nat.le_refl _) ?_; intro a63 w7 ho8 hb hg_ hnew_; clear hg_ hnew_; (first | rw [← Ny517.out] at ho8 | (simp only [Int.reduceToNat] at ho8; rw [← Ny517.out] at ho8)); have a3B := a6.mk (Kd.cV ho8 (aG (bV HB))); replace HB := a6.mk (aK (bV HB) hb); clear hb ho8))
   go_loopg [8] k (fun kq v8 w' => ∃ (BM : List Int) (l9 : Int), v8 = .int .i64 l9 ∧ a6 (aI.l0 kq a0 l2 BM l9 = some r) ∧ a6 (kq ≤ k) ∧ a6 (Kd.R (Kd.int .i64) 3 w' w.heap.size (fun _ => True) a63 BM) ∧ a6 (Below w.heap.size w w'))
   case atStart => exact ⟨(y517), (0), vH, H', ⟨Nat.le_refl _⟩, ⟨cD a3B.out⟩, ⟨bV HB⟩⟩
   case round =>
    clear H';(try clear c2);(try clear p2);(try clear c5);(try clear IU);(try clear YQ);(try clear c6);(try clear IT);(try clear QG);(try clear p6);obtain ⟨BM, l9, rfl, HA, E7, nX, HB⟩ := hrel
    cases gk with
    | zero => exact absurd HA.out (by simp [aI.l0])
    | succ k1 =>
     have H := HA.out;clear HA;simp only [aI.l0] at H
     by_cases c9 : l9 < (BM.length : Int)
     ·rw [if_pos c9] at H
      have yG : decide (l9 < (BM.length : Int)) = true := decide_eq_true c9;clear c9
      by_cases wS : 0 ≤ l9
      ·rw [if_pos wS] at H
       have AT : decide (0 ≤ l9) = true := decide_eq_true wS;clear wS;obtain ⟨y520, hy520⟩ : ∃ y_ : List Int, y_ = (BM.set (l9 : Int).toNat l9) := ⟨_, rfl⟩
       replace H : (aI.l0 k1 a0 l2 y520 (wrap64 (l9 + 1))) = some r := by first | (rw [hy520]; with_reducible exact H) | (have H2_ := (Option.bind_some _ _).symm.trans H; rw [hy520]; with_reducible exact H2_) | (have H2_ := (Option.bind_some _ _).symm.trans H; with_reducible exact H2_) | with_reducible exact H | (rw [hy520]; exact H) | exact H
       have Ny520 := a6.mk hy520;clear hy520;have H' := a6.mk H;clear H;obtain ⟨aBe, a77, eo12⟩ := Kd.cK nX.out;subst eo12;have p11 : 0 ≤ (l9 : Int) := of_decide_eq_true qZ;have q11 : (l9 : Int) < ((BM.length : Int) : Int) := of_decide_eq_true qZ;obtain ⟨go11, a1f, eo11, a2R, gl11, cl11, HG11⟩ := Kd.J0 nX.out (by omega)
       (first | cases eo11 | (injection eo11 with ea_ en_ ec_; (first | subst ea_ | (injection ea_ with ea_; subst ea_)); subst ec_; clear en_));have GB11 := a6.mk a2R;have GG11 := a6.mk HG11;clear a2R gl11 HG11;obtain ⟨hx11_0, hf11_0⟩ := Kd.yO 0 nX.out (l9 : Int) p11 q11;replace p11 := eq_true p11;replace q11 := eq_true q11;have HP13 := Kd.MJ nX.out (l9 : Int) l9;go_wp2_with (first | ((with_reducible refine wM (t := 3) (p := 25) rfl ?_); refine sM (t := 3) (p := 25) (v := ?vo_w14) (w1 := (wr.setCell ⟨go11, (l9 : Int).toNat, none⟩ (.int .i64 l9))) ?hg ?ho ?hn ?hr ?_; (case ho => rfl); (case hg => rfl); (case hn => rfl); (case hr => first | (go_simp; done) | (go_simp; rfl)); intro w14 hw; have hg : wr.grownBy w14 (some go11) := (by rw [hw]; exact HP13.2); have hp_ : Kd.R (Kd.int .i64) 3 w14 w.heap.size (fun _ => True) (.slice (some ⟨go11, 0, none⟩) BM.length a77) y520 := (by rw [hw, Ny520.out]; exact HP13.1); clear HP13; replace nX := a6.mk (hp_); replace HB := a6.mk ((by rw [hw]; exact cG (HB.out) GB11.out : Below w.heap.size w w14)); clear hg hw hp_))
       go_roundg k1
       case measure => have := E7.out; omega
       case rel => exact ⟨(y520), (wrap64 (l9 + 1)), vH, H', ⟨by have := E7.out; omega⟩, ⟨cD nX.out⟩, ⟨bV HB⟩⟩
      ·rw [if_neg wS] at H
       exact absurd H (by simp)
     ·rw [if_neg c9] at H
      have yG : decide (l9 < (BM.length : Int)) = false := decide_eq_false c9;clear c9;have H' := a6.mk H;clear H;obtain ⟨oD, nK, eo15⟩ := Kd.cK nX.out;subst eo15
      go_wp2
      go_loopg [9] k1 (fun kq v9 w' => ∃ (eA : List Int) (iF : Int), v9 = .int .i64 iF ∧ a6 (aI.l1 kq a0 l2 eA iF = some r) ∧ a6 (kq ≤ k1) ∧ a6 (Kd.R (Kd.int .i64) 3 w' w.heap.size (fun _ => True) (.slice oD BM.length nK) eA) ∧ a6 (Below w.heap.size w w'))
      case atStart => exact ⟨(BM), (0), vH, H', ⟨Nat.le_refl _⟩, ⟨cD nX.out⟩, ⟨bV HB⟩⟩
      case round =>
       clear H';(try clear c1);(try clear p1);(try clear q1);(try clear hx1);(try clear c2);(try clear p2);(try clear c5);(try clear IU);(try clear YQ);(try clear c6);(try clear IT);(try clear QG);(try clear p6);(try clear c9);(try clear yG);(try clear wS);(try clear AT);(try clear p11);(try clear q11);(try clear hx11);(try clear hf11);(try clear hx11_0);(try clear p11);(try clear p2);(try clear p6);(try clear q11);obtain ⟨eA, iF, rfl, HA, RD, nX, HB⟩ := hrel;have hl7_2 := (Kd.bK nX.out).1;rw [hl7_2] at nX;(try simp only [hl7_2])
       cases gk with
       | zero => exact absurd HA.out (by simp [aI.l1])
       | succ k2 =>
        have H := HA.out;clear HA;simp only [aI.l1] at H
        by_cases DM : (wrap64 (iF + 1)) < (l2.length : Int)
        ·rw [if_pos DM] at H
         have qR : decide ((wrap64 (iF + 1)) < (l2.length : Int)) = true := decide_eq_true DM;clear DM
         by_cases UC : 0 ≤ iF
         ·rw [if_pos UC] at H
          have a9L : decide (0 ≤ iF) = true := decide_eq_true UC;clear UC
          by_cases c18 : iF < (l2.length : Int)
          ·rw [if_pos c18] at H
           have a9K : decide (iF < (l2.length : Int)) = true := decide_eq_true c18;clear c18
           by_cases UB : (eA.length : Int) = 0
           ·rw [if_pos UB] at H
            exact absurd H (by simp)
           ·rw [if_neg UB] at H
            have a9J : ((eA.length : Int) == 0) = false := beq_eq_false_iff_ne.mpr UB;have a9I : ((eA.length : Int) != 0) = true := bne_iff_ne.mpr UB;have a9H : ¬ (eA = []) := fun h_ => UB (by rw [h_]; rfl)
            obtain ⟨xU, NO⟩ : ∃ j_ : Int, (wrap64 (iF + 1)) = j_ := ⟨_, rfl⟩
            replace H : (if 0 ≤ (xU) then (if 0 ≤ (Int.tmod (wrap64 (rd l2 (xU))) (eA.length : Int)) then (if (Int.tmod (wrap64 (rd l2 (xU))) (eA.length : Int)) < (eA.length : Int) then (if 0 ≤ (Int.tmod (wrap64 (rd l2 iF)) (eA.length : Int)) then (if (Int.tmod (wrap64 (rd l2 iF)) (eA.length : Int)) < (eA.length : Int) then (aI.l1 k2 a0 l2 ((eA.set ((Int.tmod (wrap64 (rd l2 iF)) (eA.length : Int)) : Int).toNat (rd eA (Int.tmod (wrap64 (rd l2 (xU))) (eA.length : Int)))).set ((Int.tmod (wrap64 (rd l2 (xU))) (eA.length : Int)) : Int).toNat (rd eA (Int.tmod (wrap64 (rd l2 iF)) (eA.length : Int)))) (wrap64 (iF + 2))) else (none)) else (none)) else (none)) else (none)) else (none)) = some r := by first | (rw [NO] at H; exact H) | (simp only [NO] at H ⊢; exact H)
            (try rw [NO] at qR);have a7H : (IntKind.i64.wrap (iF + 1)) = xU := (bN _).trans NO
            by_cases FV : 0 ≤ (xU)
            ·rw [if_pos FV] at H
             have UA : decide (0 ≤ (xU)) = true := decide_eq_true FV;clear FV;obtain ⟨oW, ZP⟩ : ∃ j_ : Int, (Int.tmod (wrap64 (rd l2 (xU))) (eA.length : Int)) = j_ := ⟨_, rfl⟩
             replace H : (if 0 ≤ (oW) then (if (oW) < (eA.length : Int) then (if 0 ≤ (Int.tmod (wrap64 (rd l2 iF)) (eA.length : Int)) then (if (Int.tmod (wrap64 (rd l2 iF)) (eA.length : Int)) < (eA.length : Int) then (aI.l1 k2 a0 l2 ((eA.set ((Int.tmod (wrap64 (rd l2 iF)) (eA.length : Int)) : Int).toNat (rd eA (oW))).set ((oW) : Int).toNat (rd eA (Int.tmod (wrap64 (rd l2 iF)) (eA.length : Int)))) (wrap64 (iF + 2))) else (none)) else (none)) else (none)) else (none)) = some r := by first | (rw [ZP] at H; exact H) | (simp only [ZP] at H ⊢; exact H)
             by_cases QH : 0 ≤ (oW)
             ·rw [if_pos QH] at H
              have DL : decide (0 ≤ (oW)) = true := decide_eq_true QH;clear QH
              by_cases V7 : (oW) < (eA.length : Int)
              ·rw [if_pos V7] at H
               have a9G : decide ((oW) < (eA.length : Int)) = true := decide_eq_true V7;clear V7;obtain ⟨qA, ZO⟩ : ∃ j_ : Int, (Int.tmod (wrap64 (rd l2 iF)) (eA.length : Int)) = j_ := ⟨_, rfl⟩
               replace H : (if 0 ≤ (qA) then (if (qA) < (eA.length : Int) then (aI.l1 k2 a0 l2 ((eA.set ((qA) : Int).toNat (rd eA (oW))).set ((oW) : Int).toNat (rd eA (qA))) (wrap64 (iF + 2))) else (none)) else (none)) = some r := by first | (rw [ZO] at H; exact H) | (simp only [ZO] at H ⊢; exact H)
               by_cases c26 : 0 ≤ (qA)
               ·rw [if_pos c26] at H
                have a9F : decide (0 ≤ (qA)) = true := decide_eq_true c26;clear c26
                by_cases c27 : (qA) < (eA.length : Int)
                ·rw [if_pos c27] at H
                 have a9E : decide ((qA) < (eA.length : Int)) = true := decide_eq_true c27;clear c27;obtain ⟨y525, hy525⟩ : ∃ y_ : List Int, y_ = (eA.set ((qA) : Int).toNat (rd eA (oW))) := ⟨_, rfl⟩
                 replace H : (aI.l1 k2 a0 l2 (y525.set ((oW) : Int).toNat (rd eA (qA))) (wrap64 (iF + 2))) = some r := by first | (rw [hy525]; with_reducible exact H) | (have H2_ := (Option.bind_some _ _).symm.trans H; rw [hy525]; with_reducible exact H2_) | (have H2_ := (Option.bind_some _ _).symm.trans H; with_reducible exact H2_) | with_reducible exact H | (rw [hy525]; exact H) | exact H
                 have Ny525 := a6.mk hy525;clear hy525;obtain ⟨y526, hy526⟩ : ∃ y_ : List Int, y_ = (y525.set ((oW) : Int).toNat (rd eA (qA))) := ⟨_, rfl⟩
                 replace H : (aI.l1 k2 a0 l2 y526 (wrap64 (iF + 2))) = some r := by first | (rw [hy526]; with_reducible exact H) | (have H2_ := (Option.bind_some _ _).symm.trans H; rw [hy526]; with_reducible exact H2_) | (have H2_ := (Option.bind_some _ _).symm.trans H; with_reducible exact H2_) | with_reducible exact H | (rw [hy526]; exact H) | exact H
                 have Ny526 := a6.mk hy526;clear hy526;have H' := a6.mk H;clear H
                 try go_wp2
                 replace nX := a6.mk (Kd.DT nX.out);replace HB := a6.mk (eC HB.out);have a0P : 0 ≤ (iF : Int) := of_decide_eq_true qZ;have q521 : iF < (l2.length : Int) := of_decide_eq_true qZ;obtain ⟨ad521, e521, hx521_0⟩ := Kd.oZ vT.out iF a0P q521;have NN := hx521_0
                 cases e521
                 replace hx521_0 := (HB.out.cell (World.block_lt_of_cell? w _ hx521_0)).trans hx521_0;replace a0P := eq_true a0P;replace q521 := eq_true q521;have a0O : 0 ≤ ((xU) : Int) := of_decide_eq_true qZ;have q522 : (xU) < (l2.length : Int) := of_decide_eq_true qZ;obtain ⟨ad522, e522, hx522_0⟩ := Kd.oZ vT.out (xU) a0O q522;have NM := hx522_0;obtain rfl : ad521 = ad522 := (by injection e522)
                 replace hx522_0 := (HB.out.cell (World.block_lt_of_cell? w _ hx522_0)).trans hx522_0;replace a0O := eq_true a0O;replace q522 := eq_true q522;refine z8 (n := 19) (S := fun w' => w'.cell? (ad521.add (iF).toNat) = some (.int .u8 (rd l2 iF)) ∧ w'.cell? (ad521.add ((xU)).toNat) = some (.int .u8 (rd l2 (xU)))) (ds := []) #[false, false, false, false, false, false, false, false, false, false, false, false, false, false, false, false, false, false, false] (by kernel_rfl) rfl rfl ⟨((HB.out.cell (World.block_lt_of_cell? w _ NN)).trans NN), ((HB.out.cell (World.block_lt_of_cell? w _ NM)).trans NM)⟩ (fun hHeld => ?_); refine oF aI.a7f aI.a3q (fun HT_ HW_ => ?_);generalize wr.drew = w30 at nX HB hx521_0 hx522_0 hHeld ⊢;refine cH (i := 0) (N := some 33) (v := ?_) (a' := ?_) #[true, false, false, false, false, false, false, false, false, false, false, false, false, false, false, false, false, false, false] rfl rfl (bR HT_.out (by kernel_rfl)) (fun _ _ _ h => h) (Or.inl ⟨by rfl, ?_⟩) ?_ ?_;rotate_left
                 ·intro w'
                  go_simp;(with_reducible rfl)
                 rotate_left
                 ·simp only [Act.put, cS, cQ, cU, bN, bS]
                  rfl
                 refine cH (i := 1) (N := some 34) (v := ?_) (a' := ?_) #[true, true, false, false, false, false, false, false, false, false, false, false, false, false, false, false, false, false, false] rfl rfl (bR HT_.out (by kernel_rfl)) (fun _ _ _ h => h) (Or.inl ⟨by rfl, ?_⟩) ?_ ?_;rotate_left
                 ·intro w'
                  go_simp;(with_reducible rfl)
                 rotate_left
                 ·simp only [Act.put, cS, cQ, cU, bN, bS]
                  rfl
                 refine cH (i := 2) (N := some 35) (v := ?_) (a' := ?_) #[true, true, true, false, false, false, false, false, false, false, false, false, false, false, false, false, false, false, false] rfl rfl (bR HT_.out (by kernel_rfl)) (fun _ _ _ h => h) (Or.inl ⟨by rfl, ?_⟩) ?_ ?_;rotate_left
                 ·intro w'
                  go_simp;(with_reducible rfl)
                 rotate_left
                 ·simp only [Act.put, cS, cQ, cU, bN, bS]
                  rfl
                 refine cH (i := 5) (N := some 38) (v := ?_) (a' := ?_) #[true, true, true, false, false, true, false, false, false, false, false, false, false, false, false, false, false, false, false] rfl rfl (bR HT_.out (by kernel_rfl)) (fun _ _ _ h => h) (Or.inl ⟨by rfl, ?_⟩) ?_ ?_;rotate_left
                 ·intro w'
                  go_simp;(with_reducible rfl)
                 rotate_left
                 ·simp only [Act.put, cS, cQ, cU, bN, bS]
                  rfl
                 refine cH (i := 6) (N := some 39) (v := ?_) (a' := ?_) #[true, true, true, false, false, true, true, false, false, false, false, false, false, false, false, false, false, false, false] rfl rfl (bR HT_.out (by kernel_rfl)) (fun _ _ _ h => h) (Or.inl ⟨by rfl, ?_⟩) ?_ ?_;rotate_left
                 ·intro w'
                  go_simp;(with_reducible rfl)
                 rotate_left
                 ·simp only [Act.put, cS, cQ, cU, bN, bS]
                  rfl
                 refine cH (i := 8) (N := some 41) (v := ?_) (a' := ?_) #[true, true, true, false, false, true, true, false, true, false, false, false, false, false, false, false, false, false, false] rfl rfl (bR HT_.out (by kernel_rfl)) (fun _ _ _ h => h) (Or.inl ⟨by rfl, ?_⟩) ?_ ?_;rotate_left
                 ·intro w'
                  go_simp;(with_reducible rfl)
                 rotate_left
                 ·simp only [Act.put, cS, cQ, cU, bN, bS]
                  rfl
                 refine cH (i := 9) (N := some 42) (v := ?_) (a' := ?_) #[true, true, true, false, false, true, true, false, true, true, false, false, false, false, false, false, false, false, false] rfl rfl (bR HT_.out (by kernel_rfl)) (fun _ _ _ h => h) (Or.inl ⟨by rfl, ?_⟩) ?_ ?_;rotate_left
                 ·intro w'
                  go_simp;(with_reducible rfl)
                 rotate_left
                 ·simp only [Act.put, cS, cQ, cU, bN, bS]
                  rfl
                 refine cH (i := 10) (N := some 43) (v := ?_) (a' := ?_) #[true, true, true, false, false, true, true, false, true, true, true, false, false, false, false, false, false, false, false] rfl rfl (bR HT_.out (by kernel_rfl)) (fun _ _ _ h => h) (Or.inl ⟨by rfl, ?_⟩) ?_ ?_;rotate_left
                 ·intro w'
                  go_simp;(with_reducible rfl)
                 rotate_left
                 ·simp only [Act.put, cS, cQ, cU, bN, bS]
                  rfl
                 refine cH (i := 11) (N := some 44) (v := ?_) (a' := ?_) #[true, true, true, false, false, true, true, false, true, true, true, true, false, false, false, false, false, false, false] rfl rfl (bR HT_.out (by kernel_rfl)) (fun _ _ _ h => h) (Or.inl ⟨by rfl, ?_⟩) ?_ ?_;rotate_left
                 ·intro w'
                  go_simp;(with_reducible rfl)
                 rotate_left
                 ·simp only [Act.put, cS, cQ, cU, bN, bS]
                  rfl
                 refine cH (i := 14) (N := some 47) (v := ?_) (a' := ?_) #[true, true, true, false, false, true, true, false, true, true, true, true, false, false, true, false, false, false, false] rfl rfl (bR HT_.out (by kernel_rfl)) (fun _ _ _ h => h) (Or.inl ⟨by rfl, ?_⟩) ?_ ?_;rotate_left
                 ·intro w'
                  go_simp;(with_reducible rfl)
                 rotate_left
                 ·simp only [Act.put, cS, cQ, cU, bN, bS]
                  rfl
                 refine cH (i := 15) (N := some 48) (v := ?_) (a' := ?_) #[true, true, true, false, false, true, true, false, true, true, true, true, false, false, true, true, false, false, false] rfl rfl (bR HT_.out (by kernel_rfl)) (fun _ _ _ h => h) (Or.inl ⟨by rfl, ?_⟩) ?_ ?_;rotate_left
                 ·intro w'
                  go_simp;(with_reducible rfl)
                 rotate_left
                 ·simp only [Act.put, cS, cQ, cU, bN, bS]
                  rfl
                 refine oL (i := 3) (N := some 36) (v := ?_) (a' := ?_) #[true, true, true, true, false, true, true, false, true, true, true, true, false, false, true, true, false, false, false] rfl rfl (iV HT_.out HW_.out (by kernel_rfl)) (fun _ _ _ h => h) (Or.inl ⟨by rfl, ?_⟩) hHeld ?_ ?_;rotate_left
                 ·rintro w' ⟨s0, s1⟩
                  go_simp;(with_reducible rfl)
                 rotate_left
                 ·simp only [Act.put, cS, cQ, cU, bN, bS]
                  rfl
                 refine cH (i := 4) (N := some 37) (v := ?_) (a' := ?_) #[true, true, true, true, true, true, true, false, true, true, true, true, false, false, true, true, false, false, false] rfl rfl (bR HT_.out (by kernel_rfl)) (fun _ _ _ h => h) (Or.inl ⟨by rfl, ?_⟩) ?_ ?_;rotate_left
                 ·intro w'
                  go_simp;(with_reducible rfl)
                 rotate_left
                 ·simp only [Act.put, cS, cQ, cU, bN, bS]
                  rfl
                 refine cH (i := 7) (N := some 40) (v := ?_) (a' := ?_) #[true, true, true, true, true, true, true, true, true, true, true, true, false, false, true, true, false, false, false] rfl rfl (bR HT_.out (by kernel_rfl)) (fun _ _ _ h => h) (Or.inl ⟨by rfl, ?_⟩) ?_ ?_;rotate_left
                 ·intro w'
                  go_simp;(with_reducible rfl)
                 rotate_left
                 ·simp only [Act.put, cS, cQ, cU, bN, bS]
                  rfl
                 refine cH (i := 17) (N := some 10) (v := ?_) (a' := ?_) #[true, true, true, true, true, true, true, true, true, true, true, true, false, false, true, true, false, true, false] rfl rfl (bR HT_.out (by kernel_rfl)) (fun _ _ _ h => h) (Or.inl ⟨by rfl, ?_⟩) ?_ ?_;rotate_left
                 ·intro w'
                  go_simp;(with_reducible rfl)
                 rotate_left
                 ·simp only [Act.put, cS, cQ, cU, bN, bS]
                  rfl
                 refine oL (i := 12) (N := some 45) (v := ?_) (a' := ?_) #[true, true, true, true, true, true, true, true, true, true, true, true, true, false, true, true, false, true, false] rfl rfl (iV HT_.out HW_.out (by kernel_rfl)) (fun _ _ _ h => h) (Or.inl ⟨by rfl, ?_⟩) hHeld ?_ ?_;rotate_left
                 ·rintro w' ⟨s0, s1⟩
                  go_simp;(with_reducible rfl)
                 rotate_left
                 ·simp only [Act.put, cS, cQ, cU, bN, bS]
                  rfl
                 refine cH (i := 13) (N := some 46) (v := ?_) (a' := ?_) #[true, true, true, true, true, true, true, true, true, true, true, true, true, true, true, true, false, true, false] rfl rfl (bR HT_.out (by kernel_rfl)) (fun _ _ _ h => h) (Or.inl ⟨by rfl, ?_⟩) ?_ ?_;rotate_left
                 ·intro w'
                  go_simp;(with_reducible rfl)
                 rotate_left
                 ·simp only [Act.put, cS, cQ, cU, bN, bS]
                  rfl
                 refine cH (i := 16) (N := some 49) (v := ?_) (a' := ?_) #[true, true, true, true, true, true, true, true, true, true, true, true, true, true, true, true, true, true, false] rfl rfl (bR HT_.out (by kernel_rfl)) (fun _ _ _ h => h) (Or.inl ⟨by rfl, ?_⟩) ?_ ?_;rotate_left
                 ·intro w'
                  go_simp;(with_reducible rfl)
                 rotate_left
                 ·simp only [Act.put, cS, cQ, cU, bN, bS]
                  rfl
                 refine cH (i := 18) (N := some 11) (v := ?_) (a' := ?_) #[true, true, true, true, true, true, true, true, true, true, true, true, true, true, true, true, true, true, true] rfl rfl (bR HT_.out (by kernel_rfl)) (fun _ _ _ h => h) (Or.inl ⟨by rfl, ?_⟩) ?_ ?_;rotate_left
                 ·intro w'
                  go_simp;(with_reducible rfl)
                 rotate_left
                 ·simp only [Act.put, cS, cQ, cU, bN, bS]
                  rfl
                 refine FU (uG HT_.out (by kernel_rfl)) ?_
                 try go_wp2
                 replace nX := a6.mk (Kd.DT nX.out);replace HB := a6.mk (eC HB.out);have a0N : 0 ≤ ((oW) : Int) := of_decide_eq_true qZ;have q523 : (oW) < (eA.length : Int) := of_decide_eq_true qZ;obtain ⟨ad523, e523, hx523_0⟩ := Kd.oZ (Kd.bK nX.out).2.2 (oW) a0N q523
                 cases e523
                 replace a0N := eq_true a0N;replace q523 := eq_true q523;have a0M : 0 ≤ ((qA) : Int) := of_decide_eq_true qZ;have q524 : (qA) < (eA.length : Int) := of_decide_eq_true qZ;obtain ⟨ad524, e524, hx524_0⟩ := Kd.oZ (Kd.bK nX.out).2.2 (qA) a0M q524;obtain rfl : ad523 = ad524 := (by injection e524)
                 replace a0M := eq_true a0M;replace q524 := eq_true q524;have p28 : 0 ≤ ((qA) : Int) := of_decide_eq_true qZ;have q28 : ((qA) : Int) < ((eA.length : Int) : Int) := of_decide_eq_true qZ;obtain ⟨go28, aAX, eo28, a2O, gl28, cl28, HG28⟩ := Kd.J0 nX.out (by omega)
                 (first | cases eo28 | (injection eo28 with ea_ en_ ec_; (first | subst ea_ | (injection ea_ with ea_; subst ea_)); subst ec_; clear en_));have GB28 := a6.mk a2O;have GG28 := a6.mk HG28;clear a2O gl28 HG28
                 (first | simp only [add_plain] at hx523_0 | skip)
                 (first | simp only [add_plain] at hx524_0 | skip);obtain ⟨hx28_0, hf28_0⟩ := Kd.yO 0 nX.out ((qA) : Int) p28 q28;replace p28 := eq_true p28;replace q28 := eq_true q28;have HP32 := Kd.UQ nX.out ((qA) : Int) (rd eA (oW));rw [← Ny525.out] at HP32;have HQ32 := a6.mk HP32;clear HP32;have p29 : 0 ≤ ((oW) : Int) := of_decide_eq_true qZ;have q29 : ((oW) : Int) < ((eA.length : Int) : Int) := of_decide_eq_true qZ;obtain ⟨hx29_0, hf29_0⟩ := Kd.yO 0 HQ32.out ((oW) : Int) p29 q29;replace p29 := eq_true p29;replace q29 := eq_true q29;have HP33 := Kd.UQ HQ32.out ((oW) : Int) (rd eA (qA));rw [← Ny526.out] at HP33;have HQ33 := a6.mk HP33;clear HP33;refine z8 (n := 16) (S := fun w' => w'.cell? ⟨go28, ((oW)).toNat, none⟩ = some (.int .i64 (rd eA (oW))) ∧ w'.cell? ⟨go28, ((qA)).toNat, none⟩ = some (.int .i64 (rd eA (qA)))) (ds := [13, 15]) #[false, false, false, false, false, false, false, false, false, false, false, false, false, false, false, false] (by kernel_rfl) rfl rfl ⟨hx523_0, hx524_0⟩ (fun hHeld => ?_); refine oF aI.a1Y aI.a1s (fun HT_ HW_ => ?_);generalize w30.drew = w31 at nX HB GG28 HQ32 HQ33 hf28_0 hf29_0 hx28_0 hx29_0 hx523_0 hx524_0 hHeld ⊢;refine cH (i := 0) (N := some 50) (v := ?_) (a' := ?_) #[true, false, false, false, false, false, false, false, false, false, false, false, false, false, false, false] rfl rfl (bR HT_.out (by kernel_rfl)) (fun _ _ _ h => h) (Or.inl ⟨by rfl, ?_⟩) ?_ ?_
                 rotate_left
                 ·intro w'
                  go_simp;(with_reducible rfl)
                 rotate_left
                 ·simp only [Act.put, cS, cQ, cU, bN, bS]
                  rfl
                 refine cH (i := 1) (N := some 51) (v := ?_) (a' := ?_) #[true, true, false, false, false, false, false, false, false, false, false, false, false, false, false, false] rfl rfl (bR HT_.out (by kernel_rfl)) (fun _ _ _ h => h) (Or.inl ⟨by rfl, ?_⟩) ?_ ?_;rotate_left
                 ·intro w'
                  go_simp;(with_reducible rfl)
                 rotate_left
                 ·simp only [Act.put, cS, cQ, cU, bN, bS]
                  rfl
                 refine cH (i := 2) (N := some 52) (v := ?_) (a' := ?_) #[true, true, true, false, false, false, false, false, false, false, false, false, false, false, false, false] rfl rfl (bR HT_.out (by kernel_rfl)) (fun _ _ _ h => h) (Or.inl ⟨by rfl, ?_⟩) ?_ ?_;rotate_left
                 ·intro w'
                  go_simp;(with_reducible rfl)
                 rotate_left
                 ·simp only [Act.put, cS, cQ, cU, bN, bS]
                  rfl
                 refine cH (i := 3) (N := some 53) (v := ?_) (a' := ?_) #[true, true, true, true, false, false, false, false, false, false, false, false, false, false, false, false] rfl rfl (bR HT_.out (by kernel_rfl)) (fun _ _ _ h => h) (Or.inl ⟨by rfl, ?_⟩) ?_ ?_;rotate_left
                 ·intro w'
                  go_simp;(with_reducible rfl)
                 rotate_left
                 ·simp only [Act.put, cS, cQ, cU, bN, bS]
                  rfl
                 refine cH (i := 4) (N := some 54) (v := ?_) (a' := ?_) #[true, true, true, true, true, false, false, false, false, false, false, false, false, false, false, false] rfl rfl (bR HT_.out (by kernel_rfl)) (fun _ _ _ h => h) (Or.inl ⟨by rfl, ?_⟩) ?_ ?_;rotate_left
                 ·intro w'
                  go_simp;(with_reducible rfl)
                 rotate_left
                 ·simp only [Act.put, cS, cQ, cU, bN, bS]
                  rfl
                 refine cH (i := 5) (N := some 55) (v := ?_) (a' := ?_) #[true, true, true, true, true, true, false, false, false, false, false, false, false, false, false, false] rfl rfl (bR HT_.out (by kernel_rfl)) (fun _ _ _ h => h) (Or.inl ⟨by rfl, ?_⟩) ?_ ?_;rotate_left
                 ·intro w'
                  go_simp;(with_reducible rfl)
                 rotate_left
                 ·simp only [Act.put, cS, cQ, cU, bN, bS]
                  rfl
                 refine cH (i := 6) (N := some 56) (v := ?_) (a' := ?_) #[true, true, true, true, true, true, true, false, false, false, false, false, false, false, false, false] rfl rfl (bR HT_.out (by kernel_rfl)) (fun _ _ _ h => h) (Or.inl ⟨by rfl, ?_⟩) ?_ ?_;rotate_left
                 ·intro w'
                  go_simp;(with_reducible rfl)
                 rotate_left
                 ·simp only [Act.put, cS, cQ, cU, bN, bS]
                  rfl
                 refine cH (i := 8) (N := some 58) (v := ?_) (a' := ?_) #[true, true, true, true, true, true, true, false, true, false, false, false, false, false, false, false] rfl rfl (bR HT_.out (by kernel_rfl)) (fun _ _ _ h => h) (Or.inl ⟨by rfl, ?_⟩) ?_ ?_;rotate_left
                 ·intro w'
                  go_simp;(with_reducible rfl)
                 rotate_left
                 ·simp only [Act.put, cS, cQ, cU, bN, bS]
                  rfl
                 refine cH (i := 9) (N := some 59) (v := ?_) (a' := ?_) #[true, true, true, true, true, true, true, false, true, true, false, false, false, false, false, false] rfl rfl (bR HT_.out (by kernel_rfl)) (fun _ _ _ h => h) (Or.inl ⟨by rfl, ?_⟩) ?_ ?_;rotate_left
                 ·intro w'
                  go_simp;(with_reducible rfl)
                 rotate_left
                 ·simp only [Act.put, cS, cQ, cU, bN, bS]
                  rfl
                 refine cH (i := 10) (N := some 60) (v := ?_) (a' := ?_) #[true, true, true, true, true, true, true, false, true, true, true, false, false, false, false, false] rfl rfl (bR HT_.out (by kernel_rfl)) (fun _ _ _ h => h) (Or.inl ⟨by rfl, ?_⟩) ?_ ?_;rotate_left
                 ·intro w'
                  go_simp;(with_reducible rfl)
                 rotate_left
                 ·simp only [Act.put, cS, cQ, cU, bN, bS]
                  rfl
                 refine oL (i := 7) (N := some 57) (v := ?_) (a' := ?_) #[true, true, true, true, true, true, true, true, true, true, true, false, false, false, false, false] rfl rfl (iV HT_.out HW_.out (by kernel_rfl)) (fun _ _ _ h => h) (Or.inl ⟨by rfl, ?_⟩) hHeld ?_ ?_;rotate_left
                 ·rintro w' ⟨s0, s1⟩
                  go_simp;(with_reducible rfl)
                 rotate_left
                 ·simp only [Act.put, cS, cQ, cU, bN, bS]
                  rfl
                 refine oL (i := 11) (N := some 61) (v := ?_) (a' := ?_) #[true, true, true, true, true, true, true, true, true, true, true, true, false, false, false, false] rfl rfl (iV HT_.out HW_.out (by kernel_rfl)) (fun _ _ _ h => h) (Or.inl ⟨by rfl, ?_⟩) hHeld ?_ ?_;rotate_left
                 ·rintro w' ⟨s0, s1⟩
                  go_simp;(with_reducible rfl)
                 rotate_left
                 ·simp only [Act.put, cS, cQ, cU, bN, bS]
                  rfl
                 refine cH (i := 12) (N := some 62) (v := ?_) (a' := ?_) #[true, true, true, true, true, true, true, true, true, true, true, true, true, false, false, false] rfl rfl (bR HT_.out (by kernel_rfl)) (fun _ _ _ h => h) (Or.inl ⟨by rfl, ?_⟩) ?_ ?_;rotate_left
                 ·intro w'
                  go_simp;(with_reducible rfl)
                 rotate_left
                 ·simp only [Act.put, cS, cQ, cU, bN, bS]
                  rfl
                 refine ZG (i := 13) (N := none) #[true, true, true, true, true, true, true, true, true, true, true, true, true, true, false, false] rfl rfl (LS HT_.out (by kernel_rfl)) (by decide) (fun K hK => ?_);refine Z9 (w1 := ?_) (by rfl) rfl ?_ ?_;rotate_left
                 ·go_simp
                  rfl
                 refine hK.out _ _ ?_;clear hK K;refine cH (i := 14) (N := some 63) (v := ?_) (a' := ?_) #[true, true, true, true, true, true, true, true, true, true, true, true, true, true, true, false] rfl rfl (bR HT_.out (by kernel_rfl)) (fun _ _ _ h => h) (Or.inl ⟨by rfl, ?_⟩) ?_ ?_;rotate_left
                 ·intro w'
                  go_simp;(with_reducible rfl)
                 rotate_left
                 ·simp only [Act.put, cS, cQ, cU, bN, bS]
                  rfl
                 refine ZG (i := 15) (N := none) #[true, true, true, true, true, true, true, true, true, true, true, true, true, true, true, true] rfl rfl (LS HT_.out (by kernel_rfl)) (by decide) (fun K hK => ?_);refine Z9 (w1 := ?_) (by rfl) rfl ?_ ?_;rotate_left
                 ·go_simp
                  rfl
                 refine hK.out _ _ ?_;clear hK K;refine FU (uG HT_.out (by kernel_rfl)) ?_
                 try go_wp2
                 (try simp only [← hl7_2])
                 go_roundg k2
                 case measure => have := E7.out; have := RD.out; omega
                 case rel => exact ⟨(y526), (wrap64 (iF + 2)), vH, H', ⟨by have := E7.out; have := RD.out; omega⟩, ⟨by (try simp only [hl7_2]); (with_reducible repeat first | apply Kd.O9 | apply Kd.O8 | apply Kd.DT); exact HQ33.out⟩, ⟨eN HB GB28 GB28⟩⟩
                ·rw [if_neg c27] at H
                 exact absurd H (by simp)
               ·rw [if_neg c26] at H
                exact absurd H (by simp)
              ·rw [if_neg V7] at H
               exact absurd H (by simp)
             ·rw [if_neg QH] at H
              exact absurd H (by simp)
            ·rw [if_neg FV] at H
             exact absurd H (by simp)
          ·rw [if_neg c18] at H
           exact absurd H (by simp)
         ·rw [if_neg UC] at H
          exact absurd H (by simp)
        ·rw [if_neg DM] at H
         have qR : decide ((wrap64 (iF + 1)) < (l2.length : Int)) = false := decide_eq_false DM;clear DM
         by_cases c34 : 0 ≤ a0
         ·rw [if_pos c34] at H
          have a9C := eq_true c34;have a9B : decide (0 ≤ a0) = true := decide_eq_true c34;clear c34
          by_cases V6 : a0 ≤ (eA.length : Int)
          ·rw [if_pos V6] at H
           have a9A := eq_true V6;have a9z : decide (a0 ≤ (eA.length : Int)) = true := decide_eq_true V6;clear V6;obtain ⟨y527, hy527⟩ : ∃ y_ : List Int, y_ = (eA.take (a0 : Int).toNat) := ⟨_, rfl⟩
           replace H : (some y527) = some r := by first | (rw [hy527]; with_reducible exact H) | (have H2_ := (Option.bind_some _ _).symm.trans H; rw [hy527]; with_reducible exact H2_) | (have H2_ := (Option.bind_some _ _).symm.trans H; with_reducible exact H2_) | with_reducible exact H | (rw [hy527]; exact H) | exact H
           have Ny527 := a6.mk hy527;clear hy527;obtain rfl := Option.some.inj H;have q36 : (a0 : Int) ≤ ((eA.length : Int) : Int) := of_decide_eq_true qZ;obtain ⟨aAO, ZQ, _, a2n, _⟩ := info_parts ZJ;have a0Z := a07 (P := Try.prog) 37 3 .i64 Try.underlying37 ZQ oD eA.length nK a0 (of_decide_eq_true qZ) q36 (Kd.bK nX.out).2.1;have hr36 := Kd.MI (m := (a0 : Int).toNat) nX.out (by omega);have hy36 : y527.length = (a0 : Int).toNat := (by rw [Ny527.out, List.length_take]; omega)
           rw [← Ny527.out] at hr36;rw [← hy36] at hr36 a0Z;clear hy36 ZQ a2n nX;have a3A := a6.mk hr36;clear hr36;replace q36 := eq_true q36
           go_wp2
           go_ret;exact ⟨_, by first | rfl | (simp [gC, gA] <;> rfl) | (simp only [← I1]; first | rfl | (simp [gC, gA] <;> rfl)) | (simp [*, gC, gA] <;> rfl), cD a3A.out, bV HB⟩
          ·rw [if_neg V6] at H
           exact absurd H (by simp)
         ·rw [if_neg c34] at H
          exact absurd H (by simp)
  ·rw [if_neg c6] at H
   exact absurd H (by simp)
 ·rw [if_neg c5] at H
  exact absurd H (by simp)
end Go.Proofs.Yteofcbkjhdadpaa.Pr
