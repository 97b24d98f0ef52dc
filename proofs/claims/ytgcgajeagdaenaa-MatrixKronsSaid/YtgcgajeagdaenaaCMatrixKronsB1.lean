/- The law MatrixKrons, proved: for every input the call returns true and each argument reads as before. -/
import Derived.WalkKit
import Derived.ProofKit
import Derived.OpenShut
import Derived.ChangeOld
import Derived.Below
import Derived.SizedLaws
import Derived.Test.YtgcgajeagdaenaaCMatrixKronsx1
import Derived.Test.YtgcgajeagdaenaaCMatrixKronsx2
import Derived.Test.YtgcgajeagdaenaaCMatrixKronsx6
import Derived.Test.YtgcgajeagdaenaaCMatrixKronsA4
import Derived.Test.YtgcgajeagdaenaaCMatrixKronsA1
import Derived.Test.YtgcgajeagdaenaaCMatrixKronsA2
import Derived.Test.YtgcgajeagdaenaaCMatrixKronsx7
import Derived.Test.YtgcgajeagdaenaaCMatrixKronsx4
import Derived.Test.YtgcgajeagdaenaaCMatrixKronsx3
import Derived.Test.YtgcgajeagdaenaaCMatrixKronsA3
import Derived.Test.YtgcgajeagdaenaaCMatrixKronsx5
import Derived.Test.YtgcgajeagdaenaaRows
namespace Go.Proofs.Ytgcgajeagdaenaa
open Go.RowKit Go.Proofs.YtgcgajeagdaenaaW.PrintWords Go.Proofs.Ytgcgajeagdaenaa.Pr
set_option linter.unusedVariables false
set_option linter.unusedSimpArgs false

theorem pu_right (r c : Int) (l : List Int) : recoupref03_Right.f r c l = some (rightB r c l.length) := by
  unfold recoupref03_Right.f rightB
  by_cases h1 : r ≥ 0
  · rw [if_pos h1]
    by_cases h2 : r ≤ 64
    · rw [if_pos h2]
      by_cases h3 : c ≥ 0
      · rw [if_pos h3]
        by_cases h4 : c ≤ 64
        · rw [if_pos h4]
          have b := prod_bd h1 h2 h3 h4
          rw [w64 (by omega) (by omega)]
          congr 1
          rw [Bool.eq_iff_iff, beq_iff_eq, decide_eq_true_eq]
          exact ⟨fun h => ⟨⟨h1, h2⟩, ⟨h3, h4⟩, h⟩, fun h => h.2.2⟩
        · rw [if_neg h4]; congr 1; exact (decide_eq_false (fun h => h4 h.2.1.2)).symm
      · rw [if_neg h3]; congr 1; exact (decide_eq_false (fun h => h3 h.2.1.1)).symm
    · rw [if_neg h2]; congr 1; exact (decide_eq_false (fun h => h2 h.1.2)).symm
  · rw [if_neg h1]; congr 1; exact (decide_eq_false (fun h => h1 h.1.1)).symm
theorem pu_at {r : Int} {c i j : Nat} {xs : List UInt8} (h : i * c + j < xs.length) (hb : i * c + j ≤ 9223372036854775807) : recoupref03_At.f r (c : Int) (nI xs) (i : Int) (j : Int) = some ((xs.getD (i * c + j) 0).toNat : Int) := by
  unfold recoupref03_At.f
  rw [w64_place hb, if_pos (by omega), if_pos (by rw [nI_length]; omega), rd_nI]
theorem pu_mul8 (a b : UInt8) : recoupref01_Mul.f (a.toNat : Int) (b.toNat : Int) = some ((Gf.mul a b).toNat : Int) := by
  unfold recoupref01_Mul.f
  rw [byteB_nat, byteB_nat, toU_nat, toU_nat]
  rfl
theorem pu_zero {r c : Nat} (h : r * c ≤ 281474976710656) : recoupref03_Zero.f (r : Int) (c : Int) = some ((r : Int), (c : Int), nI (List.replicate (r * c) 0)) := by
  unfold recoupref03_Zero.f
  rw [w64_mul (by omega), if_pos (by omega), Int.toNat_natCast, if_pos h, nI_rep]
section
variable {ra ca cb : Nat} {xs ys : List UInt8}
theorem pu_mul_l2 (hra : ra ≤ 64) (hca : ca ≤ 64) (hcb : cb ≤ 64) (hx : xs.length = ra * ca) (hy : ys.length = ca * cb) {i j : Nat} (hi : i < ra) (hj : j < cb) {r : Int × Int × List Int × Int}
    (hr : Ev (fun k => recoupref03_Mul.l1 k (i : Int) ((j + 1 : Nat) : Int) ra ca (nI xs) ca cb (nI ys) ra cb (nI (fillT ra cb (mulF ca cb xs ys) i (j + 1)))) r) :
    ∀ d q, q + d = ca → Ev (fun k => recoupref03_Mul.l2 k (i : Int) (j : Int) (q : Int) ra ca (nI xs) ca cb (nI ys) ra cb (nI ((fillT ra cb (mulF ca cb xs ys) i j).set (i * cb + j) (sumF q fun t => Gf.mul (xs.getD (i * ca + t) 0) (ys.getD (t * cb + j) 0))))) r := by
  have hp := place_lt hi hj
  have hpb : ra * cb ≤ 64 * 64 := Nat.mul_le_mul hra hcb
  have hab : ra * ca ≤ 64 * 64 := Nat.mul_le_mul hra hca
  have hbb : ca * cb ≤ 64 * 64 := Nat.mul_le_mul hca hcb
  intro d
  induction d with
  | zero =>
    intro q hq
    obtain rfl : q = ca := by omega
    refine Ev.step (fun k => ?_) hr
    rw [recoupref03_Mul.l2, if_neg (by omega), w64_succ (by omega)]
    have e := fillT_set (R := ra) (C := cb) (mulF q cb xs ys) hi hj
    rw [← e]
    rfl
  | succ d ih =>
    intro q hq
    refine Ev.step (fun k => ?_) (ih (q + 1) (by omega))
    have h1 := place_lt hi (show q < ca by omega)
    have h2 := place_lt (show q < ca by omega) hj
    rw [recoupref03_Mul.l2, if_pos (by omega), w64_place (by omega), if_pos (by omega), if_pos (by rw [nI_length, List.length_set, fillT_length]; omega),
      pu_at (by omega) (by omega), Option.bind_some, pu_at (by omega) (by omega), Option.bind_some, pu_mul8, Option.bind_some, w64_succ (by omega), Int.toNat_natCast, rd_nI,
      getD_set_same _ _ _ (by rw [fillT_length]; omega), add_xor, nI_set, List.set_set]
    rfl
theorem pu_mul_l1 (hra : ra ≤ 64) (hca : ca ≤ 64) (hcb : cb ≤ 64) (hx : xs.length = ra * ca) (hy : ys.length = ca * cb) {i : Nat} (hi : i < ra) {r : Int × Int × List Int × Int}
    (hr : Ev (fun k => recoupref03_Mul.l0 k ((i + 1 : Nat) : Int) ra ca (nI xs) ca cb (nI ys) ra cb (nI (fillT ra cb (mulF ca cb xs ys) (i + 1) 0))) r) :
    ∀ d j, j + d = cb → Ev (fun k => recoupref03_Mul.l1 k (i : Int) (j : Int) ra ca (nI xs) ca cb (nI ys) ra cb (nI (fillT ra cb (mulF ca cb xs ys) i j))) r := by
  intro d
  induction d with
  | zero =>
    intro j hj
    obtain rfl : j = cb := by omega
    refine Ev.step (fun k => ?_) hr
    rw [recoupref03_Mul.l1, if_neg (by omega), w64_succ (by omega), fillT_next]
  | succ d ih =>
    intro j hj
    have h0 := pu_mul_l2 hra hca hcb hx hy hi (show j < cb by omega) (ih (j + 1) (by omega)) ca 0 (by omega)
    refine Ev.step (fun k => ?_) h0
    rw [recoupref03_Mul.l1, if_pos (by omega)]
    have e := fillT_at (R := ra) (C := cb) (mulF ca cb xs ys) hi (show j < cb by omega)
    simp only [sumF]
    rw [e]
    rfl
theorem pu_mul_l0 (hra : ra ≤ 64) (hca : ca ≤ 64) (hcb : cb ≤ 64) (hx : xs.length = ra * ca) (hy : ys.length = ca * cb) :
    ∀ d i, i + d = ra → Ev (fun k => recoupref03_Mul.l0 k (i : Int) ra ca (nI xs) ca cb (nI ys) ra cb (nI (fillT ra cb (mulF ca cb xs ys) i 0))) ((ra : Int), (cb : Int), nI (mulG ra ca cb xs ys), 0) := by
  intro d
  induction d with
  | zero =>
    intro i hi
    obtain rfl : i = ra := by omega
    refine Ev.step (fun k => ?_) (Ev.now _)
    rw [recoupref03_Mul.l0, if_neg (by omega), fillT_end]
    rfl
  | succ d ih =>
    intro i hi
    have h0 := pu_mul_l1 hra hca hcb hx hy (show i < ra by omega) (ih (i + 1) (by omega)) cb 0 (by omega)
    refine Ev.step (fun k => ?_) h0
    rw [recoupref03_Mul.l0, if_pos (by omega)]
    rfl
end
/-- the document's Mul -/
theorem pu_mul (ra ca rb cb : Int) (xs ys : List UInt8) :
    Ev (fun k => recoupref03_Mul.f k ra ca (nI xs) rb cb (nI ys)) (if mulB ra ca xs.length rb cb ys.length = true then (ra, cb, nI (mulG ra.toNat ca.toNat cb.toNat xs ys), 0) else (0, 0, [], 3)) := by
  unfold recoupref03_Mul.f
  simp only [pu_right, nI_length, Option.bind_some]
  by_cases h1 : rightB ra ca xs.length = true
  · by_cases h2 : rightB rb cb ys.length = true
    · simp only [h1, h2, if_true]
      by_cases h3 : ca = rb
      · have hm : mulB ra ca xs.length rb cb ys.length = true := by unfold mulB; rw [h1, h2]; simp [h3]
        rw [if_pos hm]
        obtain ⟨a, b, c, rfl, rfl, rfl, rfl, k1, k2, k3, k4, k5⟩ := mulB_natW hm
        have hpb : a * c ≤ 64 * 64 := Nat.mul_le_mul k1 k3
        have h0 := pu_mul_l0 k1 k2 k3 k4 k5 a 0 (by omega)
        refine Ev.step (fun k => ?_) h0
        rw [recoupref03_Mul.j0, if_neg (by simp), pu_zero (by omega), Option.bind_some, fillT_start a c (mulF b c xs ys)]
        rfl
      · have hm : ¬ mulB ra ca xs.length rb cb ys.length = true := by simp [mulB, h3]
        rw [if_neg hm]
        refine Ev.step (fun k => ?_) (Ev.now _)
        rw [recoupref03_Mul.j0, if_pos (by simpa using h3)]
    · have hm : ¬ mulB ra ca xs.length rb cb ys.length = true := by simp [mulB, h2]
      simp only [h1, h2, if_true, Bool.false_eq_true, if_false]
      rw [if_neg hm]
      refine Ev.step (fun k => ?_) (Ev.now _)
      rw [recoupref03_Mul.j0, if_pos rfl]
  · have hm : ¬ mulB ra ca xs.length rb cb ys.length = true := by simp [mulB, h1]
    simp only [h1, Bool.false_eq_true, if_false]
    rw [if_neg hm]
    refine Ev.step (fun k => ?_) (Ev.now _)
    rw [recoupref03_Mul.j0, if_pos rfl]
end Go.Proofs.Ytgcgajeagdaenaa
namespace Go.Proofs.Ytgcgajeagdaenaa
open Go.RowKit Go.Proofs.YtgcgajeagdaenaaW.PrintWords Go.Proofs.Ytgcgajeagdaenaa.Pr
set_option linter.unusedVariables false
set_option linter.unusedSimpArgs false

theorem g_mul (a0 a1 : Int) (xs : List UInt8) (b0 b1 : Int) (ys : List UInt8) : matrix_Mul.f a0 a1 (nI xs) b0 b1 (nI ys) = some (if mulB a0 a1 xs.length b0 b1 ys.length = true then (a0, b1, nI (mulG a0.toNat a1.toNat b1.toNat xs ys), 0) else (0, 0, [], 3)) := by
  unfold matrix_Mul.f
  rw [inU_nI, inU_nI, nI_length, nI_length, nI_toU, nI_toU]
  simp only [Bool.and_self, if_true]
  split <;> rfl
theorem g_apply (a0 a1 : Int) (xs ys : List UInt8) : matrix_Apply.f a0 a1 (nI xs) (nI ys) = some (if applyB a0 a1 xs.length ys.length = true then (nI (applyD a0.toNat a1.toNat xs ys), 0) else ([], 3)) := by
  unfold matrix_Apply.f
  rw [inU_nI, inU_nI, nI_length, nI_length, nI_toU, nI_toU]
  simp only [Bool.and_self, if_true]
  split <;> rfl
theorem same_self (l : List Int) : recoupref01_Same.f l l = some true := by
  unfold recoupref01_Same.f
  rw [beq_self_eq_true]
theorem like3_self (r c : Int) (l : List Int) : recoupref03_Like.f r c l r c l = some true := by
  unfold recoupref03_Like.f
  rw [if_pos rfl, if_pos rfl, same_self]
  rfl
theorem like_self (r c : Int) (l : List Int) (e : Int) : recouplaw03_like.f r c l e r c l e = some true := by
  unfold recouplaw03_like.f
  rw [if_pos rfl, like3_self]
  rfl
theorem mulG_one (r c : Nat) (xs ys : List UInt8) (hx : xs.length = r * c) (hy : ys.length = c) : mulG r c 1 xs ys = applyD r c xs ys := by
  unfold mulG gridD applyD
  rw [Nat.mul_one]
  apply List.map_congr_left
  intro p hp
  have hp := List.mem_range.1 hp
  rw [Nat.div_one, Nat.mod_one]
  unfold applyF mulF
  have hl : ((xs.drop (p * c)).take c).length = c := by
    rw [List.length_take, List.length_drop, hx]
    have h : (p + 1) * c ≤ r * c := Nat.mul_le_mul_right c hp
    rw [Nat.add_mul] at h
    omega
  rw [dot_sum hl]
  refine sumF_congr fun k hk => ?_
  congr 1
  · rw [List.getD_eq_getElem?_getD, List.getD_eq_getElem?_getD, List.getElem?_take, if_pos hk, List.getElem?_drop]
  · rw [Nat.mul_one, Nat.add_zero]
/-- the document's Apply -/
theorem pu_apply (a0 a1 : Int) (xs ys : List UInt8) :
    Ev (fun k => recoupref03_Apply.f k a0 a1 (nI xs) (nI ys)) (if applyB a0 a1 xs.length ys.length = true then (nI (applyD a0.toNat a1.toNat xs ys), 0) else ([], 3)) := by
  unfold recoupref03_Apply.f
  simp only [pu_right, nI_length, Option.bind_some]
  by_cases h1 : rightB a0 a1 xs.length = true
  · simp only [h1, if_true]
    by_cases h2 : (ys.length : Int) = a1
    · have hb : applyB a0 a1 xs.length ys.length = true := by unfold applyB; rw [h1]; simp [h2]
      simp only [if_pos h2]
      rw [if_pos hb]
      obtain ⟨a, b, rfl, rfl, k1, k2, k3⟩ := right_natW h1
      have hyb : ys.length = b := by omega
      have hm : mulB a b xs.length b 1 ys.length = true := by
        unfold mulB
        rw [h1, hyb]
        simp [rightB]
        omega
      have h := pu_mul a b b 1 xs ys
      rw [if_pos hm] at h
      refine Ev.bind h ?_
      simp only [Int.toNat_natCast]
      rw [show (1 : Int).toNat = 1 from rfl, mulG_one a b xs ys k3 hyb]
      exact Ev.now _
    · have hb : ¬ applyB a0 a1 xs.length ys.length = true := by unfold applyB; simp [h2]
      simp only [if_neg h2]
      rw [if_neg hb]
      exact Ev.now _
  · have hb : ¬ applyB a0 a1 xs.length ys.length = true := by unfold applyB; simp [h1]
    simp only [h1, Bool.false_eq_true, if_false]
    rw [if_neg hb]
    exact Ev.now _
theorem products_pure (a0 a1 : Int) (xs : List UInt8) (b0 b1 : Int) (ys zs : List UInt8) : ∃ k, recouplaw03_MatrixProducts.f k a0 a1 (nI xs) b0 b1 (nI ys) (nI zs) = some true := by
  refine Ev.rounds ?_
  unfold recouplaw03_MatrixProducts.f
  simp only [g_mul, Option.bind_some]
  refine Ev.bind (pu_mul a0 a1 b0 b1 xs ys) ?_
  simp only [g_apply, Option.bind_some]
  refine Ev.bind (pu_apply a0 a1 xs zs) ?_
  simp only [like_self, same_self, Option.bind_some, if_true, beq_self_eq_true]
  exact Ev.now _
theorem matrixProducts_calls (ra ca : Int) (A : Option Addr) (na ka : Nat) (xs : List UInt8) (rb cb : Int) (B : Option Addr) (nb kb : Nat) (ys : List UInt8) (Z : Option Addr) (nz kz : Nat) (zs : List UInt8) (w : World)
    (b1 : -9223372036854775808 ≤ ra ∧ ra ≤ 9223372036854775807) (b2 : -9223372036854775808 ≤ ca ∧ ca ≤ 9223372036854775807) (rx : Rd w w.heap.size A na (bVs xs)) (lx : na ≤ ka) (kx : ka ≤ 140737488351232)
    (b3 : -9223372036854775808 ≤ rb ∧ rb ≤ 9223372036854775807) (b4 : -9223372036854775808 ≤ cb ∧ cb ≤ 9223372036854775807) (ry : Rd w w.heap.size B nb (bVs ys)) (ly : nb ≤ kb) (ky : kb ≤ 140737488351232)
    (rz : Rd w w.heap.size Z nz (bVs zs)) (lz : nz ≤ kz) (kz' : kz ≤ 140737488351232) :
    Calls Try.prog 8 #[mV ra ca A na ka, mV rb cb B nb kb, .slice Z nz kz] w fun e w' => e = .returned (.bool true) ∧ Below w.heap.size w w' := by
  obtain rfl : xs.length = na := by have := rx.len; rw [bVs_length] at this; exact this
  obtain rfl : ys.length = nb := by have := ry.len; rw [bVs_length] at this; exact this
  obtain rfl : zs.length = nz := by have := rz.len; rw [bVs_length] at this; exact this
  obtain ⟨k, h⟩ := products_pure ra ca xs rb cb ys zs
  have hc := recouplaw03_MatrixProducts.calls k ra ca A ka (nI xs) rb cb B kb (nI ys) Z kz (nI zs) true w (C_of_rd rx (by omega)) (by rw [nI_length]; exact lx) (C_of_rd ry (by omega)) (by rw [nI_length]; exact ly) (C_of_rd rz (by omega)) (by rw [nI_length]; exact lz) rfl h
  rw [nI_length, nI_length, nI_length] at hc
  exact hc
end Go.Proofs.Ytgcgajeagdaenaa
namespace Go.Proofs.Ytgcgajeagdaenaa
open Go.RowKit Go.Proofs.YtgcgajeagdaenaaW.PrintWords Go.Proofs.Ytgcgajeagdaenaa.Pr
set_option linter.unusedVariables false
set_option linter.unusedSimpArgs false

theorem anch_true : recouplaw03_anchored.f = some true := by
  have h := g_mul 2 2 [1, 2, 0, 1] 2 2 [1, 0, 3, 1]
  rw [if_pos (by decide)] at h
  have e : nI (mulG (2 : Int).toNat (2 : Int).toNat (2 : Int).toNat [1, 2, 0, 1] [1, 0, 3, 1]) = [7, 2, 3, 1] := by decide +kernel
  rw [e] at h
  unfold recouplaw03_anchored.f
  rw [show ([1, 2, 0, 1] : List Int) = nI [1, 2, 0, 1] from rfl, show ([1, 0, 3, 1] : List Int) = nI [1, 0, 3, 1] from rfl, h]
  simp only [Option.bind_some, if_true, like3_self]
theorem applyF_sum {r c i : Nat} {xs ys : List UInt8} (hx : xs.length = r * c) (hi : i < r) : applyF c xs ys i = sumF c (fun k => Gf.mul (xs.getD (i * c + k) 0) (ys.getD k 0)) := by
  unfold applyF
  have hl : ((xs.drop (i * c)).take c).length = c := by
    rw [List.length_take, List.length_drop, hx]
    have h : (i + 1) * c ≤ r * c := Nat.mul_le_mul_right c hi
    rw [Nat.add_mul] at h
    omega
  rw [dot_sum hl]
  refine sumF_congr fun k hk => ?_
  congr 1
  rw [List.getD_eq_getElem?_getD, List.getD_eq_getElem?_getD, List.getElem?_take, if_pos hk, List.getElem?_drop]
theorem applyD_get {r c i : Nat} {xs ys : List UInt8} (hi : i < r) : (applyD r c xs ys).getD i 0 = applyF c xs ys i := by
  unfold applyD
  rw [List.getD_eq_getElem?_getD, List.getElem?_map, List.getElem?_range hi]
  rfl
theorem apply_apply {ra ca cb : Nat} {xs ys zs : List UInt8} (hx : xs.length = ra * ca) (hy : ys.length = ca * cb) : applyD ra ca xs (applyD ca cb ys zs) = applyD ra cb (mulG ra ca cb xs ys) zs := by
  unfold applyD
  apply List.map_congr_left
  intro i hi
  have hi := List.mem_range.1 hi
  rw [applyF_sum hx hi, applyF_sum (r := ra) (xs := mulG ra ca cb xs ys) (grid_length _ _ _) hi]
  have e1 : sumF ca (fun k => Gf.mul (xs.getD (i * ca + k) 0) (((List.range ca).map (applyF cb ys zs)).getD k 0)) = sumF ca (fun k => sumF cb (fun j => Gf.mul (xs.getD (i * ca + k) 0) (Gf.mul (ys.getD (k * cb + j) 0) (zs.getD j 0)))) := by
    refine sumF_congr fun k hk => ?_
    have := applyD_get (r := ca) (c := cb) (xs := ys) (ys := zs) hk
    unfold applyD at this
    rw [this, applyF_sum hy hk, sumF_mul]
  have e2 : sumF cb (fun j => Gf.mul ((mulG ra ca cb xs ys).getD (i * cb + j) 0) (zs.getD j 0)) = sumF cb (fun j => sumF ca (fun k => Gf.mul (xs.getD (i * ca + k) 0) (Gf.mul (ys.getD (k * cb + j) 0) (zs.getD j 0)))) := by
    refine sumF_congr fun j hj => ?_
    unfold mulG
    rw [grid_getD _ hi hj]
    unfold mulF
    rw [sumF_mul_right]
    exact sumF_congr fun k _ => Gf.mul_assoc _ _ _
  rw [e1, e2, sumF_swap]
theorem idTo_grid (n : Nat) : ∀ m, m ≤ n → idTo n m = gridD n n (fun a b => if a = b ∧ a < m then 1 else 0)
  | 0, _ => by
    rw [idTo, grid_zero]
    exact grid_congr fun a b _ _ => (if_neg (by omega)).symm
  | m + 1, h => by
    rw [idTo, idTo_grid n m (by omega), grid_set _ _ (by omega) (by omega)]
    refine grid_congr fun a b _ _ => ?_
    by_cases h1 : a = m ∧ b = m
    · rw [if_pos h1, if_pos (by omega)]
    · rw [if_neg h1]
      by_cases h2 : a = b ∧ a < m
      · rw [if_pos h2, if_pos (by omega)]
      · rw [if_neg h2, if_neg (by omega)]
theorem apply_id {n : Nat} {zs : List UInt8} (hz : zs.length = n) : applyD n n (idTo n n) zs = zs := by
  apply List.ext_getElem?
  intro i
  rcases Nat.lt_or_ge i n with hi | hi
  · have h1 : (applyD n n (idTo n n) zs)[i]? = some (applyF n (idTo n n) zs i) := by
      unfold applyD
      rw [List.getElem?_map, List.getElem?_range hi]; rfl
    rw [h1, applyF_sum (r := n) (idTo_length n n) hi, idTo_grid n n (Nat.le_refl _), List.getElem?_eq_getElem (by omega)]
    congr 1
    rw [sumF_congr (g := fun k => Gf.mul (if i = k ∧ i < n then 1 else 0) (zs.getD k 0)) (fun k hk => by rw [grid_getD _ hi hk]), sumF_one hi (fun k hk hne => by rw [if_neg (by omega), Gf.mul_comm, Gf.mul_zero]), if_pos ⟨rfl, hi⟩, Gf.one_mul,
      List.getD_eq_getElem?_getD, List.getElem?_eq_getElem (by omega)]
    rfl
  · rw [List.getElem?_eq_none (by rw [applyD_length]; omega), List.getElem?_eq_none (by omega)]
theorem g_id (n : Nat) (h : n ≤ 64) : matrix_Identity.f (n : Int) = some ((n : Int), (n : Int), nI (idTo n n), 0) := by
  unfold matrix_Identity.f
  rw [if_pos (by simp [makeB, sideB]; omega), Int.toNat_natCast]
theorem applies_pure (a0 a1 : Int) (xs : List UInt8) (b0 b1 : Int) (ys zs : List UInt8) : ∃ k, recouplaw03_MatrixApplies.f k a0 a1 (nI xs) b0 b1 (nI ys) (nI zs) = some true := by
  refine Ev.rounds ?_
  unfold recouplaw03_MatrixApplies.f
  simp only [g_mul, g_apply, pu_right, nI_length, Option.bind_some]
  by_cases h1 : rightB a0 a1 xs.length = true
  · by_cases h2 : rightB b0 b1 ys.length = true
    · by_cases h3 : a1 = b0
      · have hm : mulB a0 a1 xs.length b0 b1 ys.length = true := by unfold mulB; rw [h1, h2]; simp [h3]
        simp only [h1, h2, if_true, if_pos h3, hm]
        by_cases h4 : (zs.length : Int) = b1
        · have hap : applyB b0 b1 ys.length zs.length = true := by unfold applyB; rw [h2]; simp [h4]
          simp only [hap, if_true]
          obtain ⟨a, b, c, rfl, rfl, rfl, rfl, k1, k2, k3, k4, k5⟩ := mulB_natW hm
          have hz : zs.length = c := by omega
          refine Ev.step (f := fun _ => some true) (fun k => ?_) (Ev.now _)
          have q1 : applyB a b xs.length (applyD b c ys zs).length = true := by unfold applyB; rw [h1, applyD_length]; simp
          have q2 : applyB a c (mulG a b c xs ys).length zs.length = true := by unfold applyB rightB; rw [show (mulG a b c xs ys).length = a * c from grid_length _ _ _, hz]; simp; omega
          have q3 : applyB c c (idTo c c).length zs.length = true := by unfold applyB rightB; rw [idTo_length, hz]; simp; omega
          have hne : ((zs.length : Int) != (c : Int)) = false := by simpa using h4
          simp only [Int.toNat_natCast]
          rw [recouplaw03_MatrixApplies.j0, hne, if_neg (by simp), g_apply, q1]
          simp only [Option.bind_some, if_true, Int.toNat_natCast]
          rw [g_apply, q2]
          simp only [Option.bind_some, if_true, Int.toNat_natCast, nI_length]
          rw [hz, g_id c (by omega)]
          simp only [Option.bind_some]
          rw [g_apply, q3]
          simp only [Option.bind_some, if_true, Int.toNat_natCast, anch_true]
          rw [apply_apply k4 k5, apply_id hz, same_self, same_self]
          rfl
        · have hap : ¬ applyB b0 b1 ys.length zs.length = true := by unfold applyB; simp [h4]
          rw [if_neg hap]
          refine Ev.step (f := fun _ => some true) (fun k => ?_) (Ev.now _)
          rw [recouplaw03_MatrixApplies.j0, if_pos (by simpa using h4), anch_true]
          rfl
      · have hm : ¬ mulB a0 a1 xs.length b0 b1 ys.length = true := by unfold mulB; simp [h3]
        simp only [h1, h2, if_true, if_neg h3]
        rw [if_neg hm]
        refine Ev.step (f := fun _ => some true) (fun k => ?_) (Ev.now _)
        rw [recouplaw03_MatrixApplies.j0, if_pos rfl, anch_true]
        rfl
    · have hm : ¬ mulB a0 a1 xs.length b0 b1 ys.length = true := by unfold mulB; simp [h2]
      have h2' : rightB b0 b1 ys.length = false := by simpa using h2
      simp only [h1, h2', if_true, Bool.false_eq_true, if_false]
      rw [if_neg hm]
      refine Ev.step (f := fun _ => some true) (fun k => ?_) (Ev.now _)
      rw [recouplaw03_MatrixApplies.j0, if_pos rfl, anch_true]
      rfl
  · have hm : ¬ mulB a0 a1 xs.length b0 b1 ys.length = true := by unfold mulB; simp [h1]
    have h1' : rightB a0 a1 xs.length = false := by simpa using h1
    simp only [h1', Bool.false_eq_true, if_false]
    rw [if_neg hm]
    refine Ev.step (f := fun _ => some true) (fun k => ?_) (Ev.now _)
    rw [recouplaw03_MatrixApplies.j0, if_pos rfl, anch_true]
    rfl
theorem matrixApplies_calls (ra ca : Int) (A : Option Addr) (na ka : Nat) (xs : List UInt8) (rb cb : Int) (B : Option Addr) (nb kb : Nat) (ys : List UInt8) (Z : Option Addr) (nz kz : Nat) (zs : List UInt8) (w : World)
    (b1 : -9223372036854775808 ≤ ra ∧ ra ≤ 9223372036854775807) (b2 : -9223372036854775808 ≤ ca ∧ ca ≤ 9223372036854775807) (rx : Rd w w.heap.size A na (bVs xs)) (lx : na ≤ ka) (kx : ka ≤ 140737488351232)
    (b3 : -9223372036854775808 ≤ rb ∧ rb ≤ 9223372036854775807) (b4 : -9223372036854775808 ≤ cb ∧ cb ≤ 9223372036854775807) (ry : Rd w w.heap.size B nb (bVs ys)) (ly : nb ≤ kb) (ky : kb ≤ 140737488351232)
    (rz : Rd w w.heap.size Z nz (bVs zs)) (lz : nz ≤ kz) (kz' : kz ≤ 140737488351232) :
    Calls Try.prog 10 #[mV ra ca A na ka, mV rb cb B nb kb, .slice Z nz kz] w fun e w' => e = .returned (.bool true) ∧ Below w.heap.size w w' := by
  obtain rfl : xs.length = na := by have := rx.len; rw [bVs_length] at this; exact this
  obtain rfl : ys.length = nb := by have := ry.len; rw [bVs_length] at this; exact this
  obtain rfl : zs.length = nz := by have := rz.len; rw [bVs_length] at this; exact this
  obtain ⟨k, h⟩ := applies_pure ra ca xs rb cb ys zs
  have hc := recouplaw03_MatrixApplies.calls k ra ca A ka (nI xs) rb cb B kb (nI ys) Z kz (nI zs) true w (C_of_rd rx (by omega)) (by rw [nI_length]; exact lx) (C_of_rd ry (by omega)) (by rw [nI_length]; exact ly) (C_of_rd rz (by omega)) (by rw [nI_length]; exact lz) rfl h
  rw [nI_length, nI_length, nI_length] at hc
  exact hc
end Go.Proofs.Ytgcgajeagdaenaa
namespace Go.Proofs.Ytgcgajeagdaenaa
open Go.RowKit Go.Proofs.YtgcgajeagdaenaaW.PrintWords Go.Proofs.Ytgcgajeagdaenaa.Pr
set_option linter.unusedVariables false
set_option linter.unusedSimpArgs false

section
variable {r c : Nat} {xs : List UInt8}
theorem pu_tr_l1 (hr : r ≤ 64) (hc : c ≤ 64) (hx : xs.length = r * c) {j : Nat} (hj : j < c) {R : Int × Int × List Int × Int}
    (h : Ev (fun k => recoupref03_Transpose.l0 k ((j + 1 : Nat) : Int) r c (nI xs) c r (nI ((turnD r c xs).take ((j + 1) * r)))) R) :
    ∀ d i, i + d = r → Ev (fun k => recoupref03_Transpose.l1 k (j : Int) (i : Int) r c (nI xs) c r (nI ((turnD r c xs).take (j * r + i)))) R := by
  have hb : c * r ≤ 64 * 64 := Nat.mul_le_mul hc hr
  have hb2 : r * c ≤ 64 * 64 := Nat.mul_le_mul hr hc
  intro d
  induction d with
  | zero =>
    intro i hi
    obtain rfl : i = r := by omega
    refine Ev.step (fun k => ?_) h
    rw [recoupref03_Transpose.l1, if_neg (by omega), w64_succ (by omega), Nat.add_mul, Nat.one_mul]
  | succ d ih =>
    intro i hi
    refine Ev.step (fun k => ?_) (ih (i + 1) (by omega))
    have h1 := place_lt (show i < r by omega) hj
    have h2 := place_lt hj (show i < r by omega)
    have e := grid_take (turnF c xs) hj (show i < r by omega)
    have e2 : turnF c xs j i = xs.getD (i * c + j) 0 := rfl
    rw [recoupref03_Transpose.l1, if_pos (by omega), pu_at (by omega) (by omega), Option.bind_some, if_pos (by rw [nI_length, List.length_take]; omega), w64_succ (by omega), nI_snoc, ← e2]
    unfold turnD
    rw [e]
    rfl
theorem pu_tr_l0 (hr : r ≤ 64) (hc : c ≤ 64) (hx : xs.length = r * c) :
    ∀ d j, j + d = c → Ev (fun k => recoupref03_Transpose.l0 k (j : Int) r c (nI xs) c r (nI ((turnD r c xs).take (j * r)))) ((c : Int), (r : Int), nI (turnD r c xs), 0) := by
  intro d
  induction d with
  | zero =>
    intro j hj
    obtain rfl : j = c := by omega
    refine Ev.step (fun k => ?_) (Ev.now _)
    rw [recoupref03_Transpose.l0, if_neg (by omega), List.take_of_length_le (by rw [turnD_length]; omega)]
  | succ d ih =>
    intro j hj
    have h0 := pu_tr_l1 hr hc hx (show j < c by omega) (ih (j + 1) (by omega)) r 0 (by omega)
    refine Ev.step (fun k => ?_) h0
    rw [recoupref03_Transpose.l0, if_pos (by omega), Nat.add_zero]
    rfl
end
theorem pu_trans (a0 a1 : Int) (xs : List UInt8) :
    Ev (fun k => recoupref03_Transpose.f k a0 a1 (nI xs)) (if rightB a0 a1 xs.length = true then (a1, a0, nI (turnD a0.toNat a1.toNat xs), 0) else (0, 0, [], 3)) := by
  unfold recoupref03_Transpose.f
  simp only [pu_right, nI_length, Option.bind_some]
  by_cases h1 : rightB a0 a1 xs.length = true
  · simp only [h1, if_true]
    obtain ⟨a, b, rfl, rfl, k1, k2, k3⟩ := right_natW h1
    have h0 := pu_tr_l0 k1 k2 k3 b 0 (by omega)
    rw [Nat.zero_mul, List.take_zero] at h0
    exact h0
  · simp only [h1, Bool.false_eq_true, if_false]
    exact Ev.now _
theorem pu_copy (xs : List UInt8) (h : xs.length < 140737488355328) : recoupref01_Copy.f (nI xs) = some (nI xs) := by
  unfold recoupref01_Copy.f
  rw [Option.bind_some, if_pos (by rw [nI_length]; simpa using h), List.nil_append]
theorem pu_stack (a0 a1 b0 b1 : Int) (xs ys : List UInt8) :
    Ev (fun k => recoupref03_Stack.f k a0 a1 (nI xs) b0 b1 (nI ys)) (if stackE a0 a1 xs.length b0 b1 ys.length = 0 then (a0 + b0, a1, nI xs ++ nI ys, 0) else (0, 0, [], stackE a0 a1 xs.length b0 b1 ys.length)) := by
  unfold recoupref03_Stack.f
  simp only [pu_right, nI_length, Option.bind_some]
  by_cases h1 : rightB a0 a1 xs.length = true
  · by_cases h2 : rightB b0 b1 ys.length = true
    · simp only [h1, h2, if_true]
      by_cases h3 : a1 = b1
      · obtain ⟨a, b, rfl, rfl, k1, k2, k3⟩ := right_natW h1
        obtain ⟨a', b', rfl, k4, k5, k6, k7⟩ := right_natW h2
        have hb : xs.length ≤ 64 * 64 := by rw [k3]; exact Nat.mul_le_mul k1 k2
        have hb2 : ys.length ≤ 64 * 64 := by rw [k7]; exact Nat.mul_le_mul k5 k6
        by_cases h4 : (a : Int) + (a' : Int) ≤ 64
        · have hE : stackE a b xs.length a' b1 ys.length = 0 := by unfold stackE; rw [h1, h2]; simp [h3, h4]
          rw [if_pos hE]
          refine Ev.step (fun k => ?_) (Ev.now _)
          rw [recoupref03_Stack.j0, if_neg (by simp [h3]), w64 (by omega) (by omega), if_neg (by omega), pu_copy xs (by omega), Option.bind_some, if_pos (by rw [nI_length, nI_length]; omega)]
        · have hE : stackE a b xs.length a' b1 ys.length = 4 := by unfold stackE; rw [h1, h2]; simp [h3, h4]
          rw [hE, if_neg (by omega)]
          refine Ev.step (fun k => ?_) (Ev.now _)
          rw [recoupref03_Stack.j0, if_neg (by simp [h3]), w64 (by omega) (by omega), if_pos (by omega)]
      · have hE : stackE a0 a1 xs.length b0 b1 ys.length = 3 := by unfold stackE; rw [h1, h2]; simp [h3]
        rw [hE, if_neg (by omega)]
        refine Ev.step (fun k => ?_) (Ev.now _)
        rw [recoupref03_Stack.j0, if_pos (by simpa using h3)]
    · have hE : stackE a0 a1 xs.length b0 b1 ys.length = 3 := by unfold stackE; simp [h2]
      simp only [h1, h2, if_true, Bool.false_eq_true, if_false]
      rw [hE, if_neg (by omega)]
      refine Ev.step (fun k => ?_) (Ev.now _)
      rw [recoupref03_Stack.j0, if_pos rfl]
  · have hE : stackE a0 a1 xs.length b0 b1 ys.length = 3 := by unfold stackE; simp [h1]
    simp only [h1, Bool.false_eq_true, if_false]
    rw [hE, if_neg (by omega)]
    refine Ev.step (fun k => ?_) (Ev.now _)
    rw [recoupref03_Stack.j0, if_pos rfl]
section
variable {ra ca rb cb R C : Nat} {xs ys : List UInt8}
set_option maxHeartbeats 800000 in
theorem pu_kr_l1 (hR : R ≤ 64) (hC : C ≤ 64) (eR : R = ra * rb) (eC : C = ca * cb) (ha : ra ≤ 64) (hca : ca ≤ 64) (hrb : rb ≤ 64) (hcb : cb ≤ 64) (hx : xs.length = ra * ca) (hy : ys.length = rb * cb) {i : Nat} (hi : i < R) {T : Int × Int × List Int × Int}
    (h : Ev (fun k => recoupref03_Kron.l0 k ((i + 1 : Nat) : Int) ra ca (nI xs) rb cb (nI ys) R C (nI (fillT R C (kronF rb cb ca xs ys) (i + 1) 0))) T) :
    ∀ d j, j + d = C → Ev (fun k => recoupref03_Kron.l1 k (i : Int) (j : Int) ra ca (nI xs) rb cb (nI ys) R C (nI (fillT R C (kronF rb cb ca xs ys) i j))) T := by
  have hb : R * C ≤ 64 * 64 := Nat.mul_le_mul hR hC
  have hba : ra * ca ≤ 64 * 64 := Nat.mul_le_mul ha hca
  have hbb : rb * cb ≤ 64 * 64 := Nat.mul_le_mul hrb hcb
  intro d
  induction d with
  | zero =>
    intro j hj
    obtain rfl : j = C := by omega
    refine Ev.step (fun k => ?_) h
    rw [recoupref03_Kron.l1, if_neg (by omega), w64_succ (by omega), fillT_next]
  | succ d ih =>
    intro j hj
    refine Ev.step (fun k => ?_) (ih (j + 1) (by omega))
    have hjC : j < C := by omega
    have hrb0 : 0 < rb := pos_right (show i < ra * rb by omega)
    have hcb0 : 0 < cb := pos_right (show j < ca * cb by omega)
    have q1 : i / rb < ra := (Nat.div_lt_iff_lt_mul hrb0).2 (by omega)
    have q2 : j / cb < ca := (Nat.div_lt_iff_lt_mul hcb0).2 (by omega)
    have q3 : i % rb < rb := Nat.mod_lt _ hrb0
    have q4 : j % cb < cb := Nat.mod_lt _ hcb0
    have p1 := place_lt q1 q2
    have p2 := place_lt q3 q4
    have p3 := place_lt hi hjC
    have t1 : wrap64 (Int.tdiv (i : Int) (rb : Int)) = ((i / rb : Nat) : Int) := by rw [← Int.ofNat_tdiv, w64_nat (Nat.le_trans (Nat.le_of_lt q1) (by omega))]
    have t2 : wrap64 (Int.tdiv (j : Int) (cb : Int)) = ((j / cb : Nat) : Int) := by rw [← Int.ofNat_tdiv, w64_nat (Nat.le_trans (Nat.le_of_lt q2) (by omega))]
    have t3 : Int.tmod (i : Int) (rb : Int) = ((i % rb : Nat) : Int) := (Int.ofNat_tmod i rb).symm
    have t4 : Int.tmod (j : Int) (cb : Int) = ((j % cb : Nat) : Int) := (Int.ofNat_tmod j cb).symm
    have e := fillT_set (R := R) (C := C) (kronF rb cb ca xs ys) hi hjC
    have A1 := pu_at (r := (ra : Int)) (c := ca) (i := i / rb) (j := j / cb) (xs := xs) (by rw [hx]; exact p1) (Nat.le_trans (Nat.le_of_lt p1) (by omega))
    have A2 := pu_at (r := (rb : Int)) (c := cb) (i := i % rb) (j := j % cb) (xs := ys) (by rw [hy]; exact p2) (Nat.le_trans (Nat.le_of_lt p2) (by omega))
    rw [recoupref03_Kron.l1, if_pos (by omega), if_neg (by omega), if_neg (by omega), t1, t2, t3, t4, A1, Option.bind_some, A2, Option.bind_some, pu_mul8, Option.bind_some]
    clear t1 t2 t3 t4 A1 A2 q1 q2 q3 q4 p1 p2
    rw [w64_place (by omega), if_pos (by omega), if_pos (by rw [nI_length, fillT_length]; omega), w64_succ (by omega), Int.toNat_natCast, nI_set, ← e]
    rfl
theorem pu_kr_l0 (hR : R ≤ 64) (hC : C ≤ 64) (eR : R = ra * rb) (eC : C = ca * cb) (ha : ra ≤ 64) (hca : ca ≤ 64) (hrb : rb ≤ 64) (hcb : cb ≤ 64) (hx : xs.length = ra * ca) (hy : ys.length = rb * cb) :
    ∀ d i, i + d = R → Ev (fun k => recoupref03_Kron.l0 k (i : Int) ra ca (nI xs) rb cb (nI ys) R C (nI (fillT R C (kronF rb cb ca xs ys) i 0))) ((R : Int), (C : Int), nI (gridD R C (kronF rb cb ca xs ys)), 0) := by
  intro d
  induction d with
  | zero =>
    intro i hi
    obtain rfl : i = R := by omega
    refine Ev.step (fun k => ?_) (Ev.now _)
    rw [recoupref03_Kron.l0, if_neg (by omega), fillT_end]
  | succ d ih =>
    intro i hi
    have h0 := pu_kr_l1 hR hC eR eC ha hca hrb hcb hx hy (show i < R by omega) (ih (i + 1) (by omega)) C 0 (by omega)
    refine Ev.step (fun k => ?_) h0
    rw [recoupref03_Kron.l0, if_pos (by omega)]
    rfl
end
theorem pu_kron (a0 a1 b0 b1 : Int) (xs ys : List UInt8) :
    Ev (fun k => recoupref03_Kron.f k a0 a1 (nI xs) b0 b1 (nI ys)) (if kronE a0 a1 xs.length b0 b1 ys.length = 0 then (a0 * b0, a1 * b1, nI (kronD a0.toNat a1.toNat b0.toNat b1.toNat xs ys), 0) else (0, 0, [], kronE a0 a1 xs.length b0 b1 ys.length)) := by
  unfold recoupref03_Kron.f
  simp only [pu_right, nI_length, Option.bind_some]
  by_cases h1 : rightB a0 a1 xs.length = true
  · by_cases h2 : rightB b0 b1 ys.length = true
    · simp only [h1, h2, if_true, Bool.not_true]
      obtain ⟨a, b, rfl, rfl, k1, k2, k3⟩ := right_natW h1
      obtain ⟨a', b', rfl, rfl, k5, k6, k7⟩ := right_natW h2
      have q1 : a * a' ≤ 64 * 64 := Nat.mul_le_mul k1 k5
      have q2 : b * b' ≤ 64 * 64 := Nat.mul_le_mul k2 k6
      have hE : kronE a b xs.length a' b' ys.length = if a * a' ≤ 64 ∧ b * b' ≤ 64 then 0 else 4 := by
        unfold kronE
        rw [h1, h2]
        simp only [Bool.and_self, if_true]
        by_cases h : a * a' ≤ 64 ∧ b * b' ≤ 64
        · rw [if_pos h, if_pos (by rw [← Int.natCast_mul, ← Int.natCast_mul]; omega)]
        · rw [if_neg h, if_neg (by rw [← Int.natCast_mul, ← Int.natCast_mul]; omega)]
      rw [hE]
      by_cases h3 : a * a' ≤ 64
      · by_cases h4 : b * b' ≤ 64
        · rw [if_pos (show a * a' ≤ 64 ∧ b * b' ≤ 64 from ⟨h3, h4⟩), if_pos rfl]
          have h0 := pu_kr_l0 (R := a * a') (C := b * b') h3 h4 rfl rfl k1 k2 k5 k6 k3 k7 (a * a') 0 (by omega)
          have hpb : a * a' * (b * b') ≤ 64 * 64 := Nat.mul_le_mul h3 h4
          refine Ev.step (fun k => ?_) (Ev.step (f := fun k => recoupref03_Kron.l0 k ((0 : Nat) : Int) a b (nI xs) a' b' (nI ys) ((a * a' : Nat) : Int) ((b * b' : Nat) : Int) (nI (fillT (a * a') (b * b') (kronF a' b' b xs ys) 0 0))) (g := fun k => recoupref03_Kron.j1 k false a b (nI xs) a' b' (nI ys)) (fun k => ?_) ?_)
          · rw [recoupref03_Kron.j0, if_neg (by simp), w64_mul (by omega), if_neg (by omega), w64_mul (by omega)]
            rw [decide_eq_false (by omega)]
          · rw [recoupref03_Kron.j1, if_neg (by simp), w64_mul (by omega), w64_mul (by omega), pu_zero (by omega), Option.bind_some, fillT_start (a * a') (b * b') (kronF a' b' b xs ys)]
            rfl
          · rw [← Int.natCast_mul, ← Int.natCast_mul]
            exact h0
        · rw [if_neg (by omega), if_neg (by omega)]
          refine Ev.step (fun k => ?_) (Ev.step (f := fun k => some ((0 : Int), (0 : Int), ([] : List Int), (4 : Int))) (g := fun k => recoupref03_Kron.j1 k true a b (nI xs) a' b' (nI ys)) (fun k => ?_) (Ev.now _))
          · rw [recoupref03_Kron.j0, if_neg (by simp), w64_mul (by omega), if_neg (by omega), w64_mul (by omega)]
            rw [decide_eq_true (by omega)]
          · rw [recoupref03_Kron.j1, if_pos rfl]
      · rw [if_neg (by omega), if_neg (by omega)]
        refine Ev.step (fun k => ?_) (Ev.step (f := fun k => some ((0 : Int), (0 : Int), ([] : List Int), (4 : Int))) (g := fun k => recoupref03_Kron.j1 k true a b (nI xs) a' b' (nI ys)) (fun k => ?_) (Ev.now _))
        · rw [recoupref03_Kron.j0, if_neg (by simp), w64_mul (by omega), if_pos (by omega)]
        · rw [recoupref03_Kron.j1, if_pos rfl]
    · have hE : kronE a0 a1 xs.length b0 b1 ys.length = 3 := by unfold kronE; simp [h2]
      have h2' : rightB b0 b1 ys.length = false := by simpa using h2
      simp only [h1, h2', if_true, Bool.not_false]
      rw [hE, if_neg (by omega)]
      refine Ev.step (fun k => ?_) (Ev.now _)
      rw [recoupref03_Kron.j0, if_pos rfl]
  · have hE : kronE a0 a1 xs.length b0 b1 ys.length = 3 := by unfold kronE; simp [h1]
    simp only [h1, Bool.false_eq_true, if_false]
    rw [hE, if_neg (by omega)]
    refine Ev.step (fun k => ?_) (Ev.now _)
    rw [recoupref03_Kron.j0, if_pos rfl]
end Go.Proofs.Ytgcgajeagdaenaa
namespace Go.Proofs.Ytgcgajeagdaenaa
open Go.RowKit Go.Proofs.YtgcgajeagdaenaaW.PrintWords Go.Proofs.Ytgcgajeagdaenaa.Pr
set_option linter.unusedVariables false
set_option linter.unusedSimpArgs false

theorem g_trans (a0 a1 : Int) (xs : List UInt8) : matrix_Transpose.f a0 a1 (nI xs) = some (if rightB a0 a1 xs.length = true then (a1, a0, nI (turnD a0.toNat a1.toNat xs), 0) else (0, 0, [], 3)) := by
  unfold matrix_Transpose.f
  rw [inU_nI, nI_length, nI_toU]
  simp only [if_true]
  split <;> rfl
theorem g_stack (a0 a1 : Int) (xs : List UInt8) (b0 b1 : Int) (ys : List UInt8) : matrix_Stack.f a0 a1 (nI xs) b0 b1 (nI ys) = some (if stackE a0 a1 xs.length b0 b1 ys.length = 0 then (a0 + b0, a1, nI xs ++ nI ys, 0) else (0, 0, [], stackE a0 a1 xs.length b0 b1 ys.length)) := by
  unfold matrix_Stack.f
  rw [inU_nI, inU_nI, nI_length, nI_length]
  simp only [Bool.and_self, if_true]
  split <;> rfl
theorem g_kron (a0 a1 : Int) (xs : List UInt8) (b0 b1 : Int) (ys : List UInt8) : matrix_Kron.f a0 a1 (nI xs) b0 b1 (nI ys) = some (if kronE a0 a1 xs.length b0 b1 ys.length = 0 then (a0 * b0, a1 * b1, nI (kronD a0.toNat a1.toNat b0.toNat b1.toNat xs ys), 0) else (0, 0, [], kronE a0 a1 xs.length b0 b1 ys.length)) := by
  unfold matrix_Kron.f
  rw [inU_nI, inU_nI, nI_length, nI_length, nI_toU, nI_toU]
  simp only [Bool.and_self, if_true]
  split <;> rfl
theorem laid_same (l : List Int) : recoupref01_Same.f l l = some true := by
  unfold recoupref01_Same.f
  rw [beq_self_eq_true]
theorem laid_like3 (r c : Int) (l : List Int) : recoupref03_Like.f r c l r c l = some true := by
  unfold recoupref03_Like.f
  rw [if_pos rfl, if_pos rfl, laid_same]
  rfl
theorem laid_like (r c : Int) (l : List Int) (e : Int) : recouplaw03_like.f r c l e r c l e = some true := by
  unfold recouplaw03_like.f
  rw [if_pos rfl, laid_like3]
  rfl
theorem laid_pure (a0 a1 : Int) (xs : List UInt8) (b0 b1 : Int) (ys : List UInt8) : ∃ k, recouplaw03_MatrixLaid.f k a0 a1 (nI xs) b0 b1 (nI ys) = some true := by
  refine Ev.rounds ?_
  unfold recouplaw03_MatrixLaid.f
  simp only [g_trans, g_stack, g_kron, Option.bind_some]
  refine Ev.bind (pu_trans a0 a1 xs) ?_
  refine Ev.bind (pu_stack a0 a1 b0 b1 xs ys) ?_
  refine Ev.bind (pu_kron a0 a1 b0 b1 xs ys) ?_
  simp only [laid_like, Option.bind_some, if_true]
  exact Ev.now _
theorem matrixLaid_calls (ra ca : Int) (A : Option Addr) (na ka : Nat) (xs : List UInt8) (rb cb : Int) (B : Option Addr) (nb kb : Nat) (ys : List UInt8) (w : World)
    (b1 : -9223372036854775808 ≤ ra ∧ ra ≤ 9223372036854775807) (b2 : -9223372036854775808 ≤ ca ∧ ca ≤ 9223372036854775807) (rx : Rd w w.heap.size A na (bVs xs)) (lx : na ≤ ka) (kx : ka ≤ 140737488351232)
    (b3 : -9223372036854775808 ≤ rb ∧ rb ≤ 9223372036854775807) (b4 : -9223372036854775808 ≤ cb ∧ cb ≤ 9223372036854775807) (ry : Rd w w.heap.size B nb (bVs ys)) (ly : nb ≤ kb) (ky : kb ≤ 140737488351232) :
    Calls Try.prog 9 #[mV ra ca A na ka, mV rb cb B nb kb] w fun e w' => e = .returned (.bool true) ∧ Below w.heap.size w w' := by
  obtain rfl : xs.length = na := by have := rx.len; rw [bVs_length] at this; exact this
  obtain rfl : ys.length = nb := by have := ry.len; rw [bVs_length] at this; exact this
  obtain ⟨k, h⟩ := laid_pure ra ca xs rb cb ys
  have hc := recouplaw03_MatrixLaid.calls k ra ca A ka (nI xs) rb cb B kb (nI ys) true w (C_of_rd rx (by omega)) (by rw [nI_length]; exact lx) (C_of_rd ry (by omega)) (by rw [nI_length]; exact ly) rfl h
  rw [nI_length, nI_length] at hc
  exact hc
end Go.Proofs.Ytgcgajeagdaenaa
namespace Go.Proofs.Ytgcgajeagdaenaa
open Go.RowKit Go.Proofs.YtgcgajeagdaenaaW.PrintWords Go.Proofs.YtgcgajeagdaenaaW.PrintMore Go.Proofs.Ytgcgajeagdaenaa.Pr
set_option linter.unusedVariables false
set_option linter.unusedSimpArgs false

theorem kron_mul {ra ca da rb cb db : Nat} {A S B T : List UInt8} :
    kronD ra da rb db (mulG ra ca da A S) (mulG rb cb db B T) = mulG (ra * rb) (ca * cb) (da * db) (kronD ra ca rb cb A B) (kronD ca da cb db S T) := by
  refine grid_congr fun p q hp hq => ?_
  have hrb : 0 < rb := pos_right hp
  have hdb : 0 < db := pos_right hq
  have p1 : p / rb < ra := (Nat.div_lt_iff_lt_mul hrb).2 hp
  have p2 : p % rb < rb := Nat.mod_lt _ hrb
  have q1 : q / db < da := (Nat.div_lt_iff_lt_mul hdb).2 hq
  have q2 : q % db < db := Nat.mod_lt _ hdb
  unfold kronF
  rw [show (mulG ra ca da A S).getD (p / rb * da + q / db) 0 = mulF ca da A S (p / rb) (q / db) from grid_getD _ p1 q1, show (mulG rb cb db B T).getD (p % rb * db + q % db) 0 = mulF cb db B T (p % rb) (q % db) from grid_getD _ p2 q2]
  unfold mulF
  rw [sumF_split, sumF_mul_right]
  refine sumF_congr fun u hu => ?_
  rw [sumF_mul]
  refine sumF_congr fun v hv => ?_
  have huv : u * cb + v < ca * cb := place_lt hu hv
  have e1 : (kronD ra ca rb cb A B).getD (p * (ca * cb) + (u * cb + v)) 0 = kronF rb cb ca A B p (u * cb + v) := grid_getD _ hp huv
  have e2 : (kronD ca da cb db S T).getD ((u * cb + v) * (da * db) + q) 0 = kronF cb db da S T (u * cb + v) q := grid_getD _ huv hq
  rw [e1, e2]
  unfold kronF
  rw [place_div hv, place_mod hv, Gf.mul_assoc, Gf.mul_assoc]
  congr 1
  rw [← Gf.mul_assoc, ← Gf.mul_assoc]
  congr 1
  exact Gf.mul_comm _ _
theorem mx_nat (a b : Nat) : mx (a : Int) (b : Int) = ((max a b : Nat) : Int) := by
  unfold mx
  split <;> omega
theorem krons_pure (a0 a1 : Int) (xs : List UInt8) (b0 b1 : Int) (ys : List UInt8) : ∃ k, recouplaw03_MatrixKrons.f k a0 a1 (nI xs) b0 b1 (nI ys) = some true := by
  refine Ev.rounds ?_
  unfold recouplaw03_MatrixKrons.f
  simp only [g_trans, pu_right, nI_length, Option.bind_some]
  by_cases h1 : rightB a0 a1 xs.length = true
  · by_cases h2 : rightB b0 b1 ys.length = true
    · simp only [h1, h2, if_true, Bool.not_true]
      obtain ⟨a, b, rfl, rfl, k1, k2, k3⟩ := right_natW h1
      obtain ⟨c, d, rfl, rfl, k4, k5, k6⟩ := right_natW h2
      refine Ev.step (f := fun _ => some true) (fun k => ?_) (Ev.now _)
      have hmx : max a b * max c d ≤ 64 * 64 := Nat.mul_le_mul (by omega) (by omega)
      rw [recouplaw03_MatrixKrons.j0, if_neg (by simp), mx_nat, mx_nat, w64_mul (by omega)]
      by_cases h3 : max a b * max c d ≤ 64
      · rw [if_neg (by omega)]
        have m1 : a * c ≤ 64 := Nat.le_trans (Nat.mul_le_mul (by omega) (by omega)) h3
        have m2 : b * d ≤ 64 := Nat.le_trans (Nat.mul_le_mul (by omega) (by omega)) h3
        simp only [Int.toNat_natCast]
        have lA : (turnD a b xs).length = b * a := turnD_length _ _ _
        have lB : (turnD c d ys).length = d * c := turnD_length _ _ _
        have q1 : mulB a b xs.length b a (turnD a b xs).length = true := by unfold mulB rightB; rw [lA, k3]; simp; omega
        have q2 : mulB c d ys.length d c (turnD c d ys).length = true := by unfold mulB rightB; rw [lB, k6]; simp; omega
        rw [g_mul, q1, g_mul, q2]
        simp only [Option.bind_some, if_true, Int.toNat_natCast]
        have q3 : kronE a a (mulG a b a xs (turnD a b xs)).length c c (mulG c d c ys (turnD c d ys)).length = 0 := by
          unfold kronE rightB
          rw [show (mulG a b a xs (turnD a b xs)).length = a * a from grid_length _ _ _, show (mulG c d c ys (turnD c d ys)).length = c * c from grid_length _ _ _]
          rw [if_pos (by simp; omega), if_pos (by rw [← Int.natCast_mul]; omega)]
        have q4 : kronE a b xs.length c d ys.length = 0 := by
          unfold kronE
          rw [h1, h2]
          simp only [Bool.and_self, if_true]
          rw [if_pos (by rw [← Int.natCast_mul, ← Int.natCast_mul]; omega)]
        have q5 : kronE b a (turnD a b xs).length d c (turnD c d ys).length = 0 := by
          unfold kronE rightB
          rw [lA, lB, if_pos (by simp; omega), if_pos (by rw [← Int.natCast_mul, ← Int.natCast_mul]; omega)]
        rw [g_kron, q3, g_kron, q4, g_kron, q5]
        simp only [Option.bind_some, if_true, Int.toNat_natCast]
        rw [← Int.natCast_mul, ← Int.natCast_mul]
        have l1 : (kronD a b c d xs ys).length = a * c * (b * d) := grid_length _ _ _
        have l2 : (kronD b a d c (turnD a b xs) (turnD c d ys)).length = b * d * (a * c) := grid_length _ _ _
        have q6 : mulB ((a * c : Nat) : Int) ((b * d : Nat) : Int) (kronD a b c d xs ys).length ((b * d : Nat) : Int) ((a * c : Nat) : Int) (kronD b a d c (turnD a b xs) (turnD c d ys)).length = true := by
          unfold mulB rightB
          rw [l1, l2]
          simp
          omega
        rw [g_mul, q6]
        simp only [Option.bind_some, if_true, Int.toNat_natCast, anch_true]
        rw [kron_mul, like3_self]
        rfl
      · rw [if_pos (by omega), anch_true]
        rfl
    · have h2' : rightB b0 b1 ys.length = false := by simpa using h2
      simp only [h1, h2', if_true, Bool.false_eq_true, if_false, Bool.not_false]
      refine Ev.step (f := fun _ => some true) (fun k => ?_) (Ev.now _)
      rw [recouplaw03_MatrixKrons.j0, if_pos rfl, anch_true]
      rfl
  · have h1' : rightB a0 a1 xs.length = false := by simpa using h1
    simp only [h1', Bool.false_eq_true, if_false]
    refine Ev.step (f := fun _ => some true) (fun k => ?_) (Ev.now _)
    rw [recouplaw03_MatrixKrons.j0, if_pos rfl, anch_true]
    rfl
theorem matrixKrons_calls (ra ca : Int) (A : Option Addr) (na ka : Nat) (xs : List UInt8) (rb cb : Int) (B : Option Addr) (nb kb : Nat) (ys : List UInt8) (w : World)
    (b1 : -9223372036854775808 ≤ ra ∧ ra ≤ 9223372036854775807) (b2 : -9223372036854775808 ≤ ca ∧ ca ≤ 9223372036854775807) (rx : Rd w w.heap.size A na (bVs xs)) (lx : na ≤ ka) (kx : ka ≤ 140737488351232)
    (b3 : -9223372036854775808 ≤ rb ∧ rb ≤ 9223372036854775807) (b4 : -9223372036854775808 ≤ cb ∧ cb ≤ 9223372036854775807) (ry : Rd w w.heap.size B nb (bVs ys)) (ly : nb ≤ kb) (ky : kb ≤ 140737488351232) :
    Calls Try.prog 11 #[mV ra ca A na ka, mV rb cb B nb kb] w fun e w' => e = .returned (.bool true) ∧ Below w.heap.size w w' := by
  obtain rfl : xs.length = na := by have := rx.len; rw [bVs_length] at this; exact this
  obtain rfl : ys.length = nb := by have := ry.len; rw [bVs_length] at this; exact this
  obtain ⟨k, h⟩ := krons_pure ra ca xs rb cb ys
  have hc := recouplaw03_MatrixKrons.calls k ra ca A ka (nI xs) rb cb B kb (nI ys) true w (C_of_rd rx (by omega)) (by rw [nI_length]; exact lx) (C_of_rd ry (by omega)) (by rw [nI_length]; exact ly) rfl h
  rw [nI_length, nI_length] at hc
  exact hc
end Go.Proofs.Ytgcgajeagdaenaa
namespace Go.Proofs.Ytgcgajeagdaenaa.matrixKrons
open Go.ChangeShapes Go.WideShapes Go.ChangeAt Go.RowKit

set_option linter.unusedVariables false

set_option maxRecDepth 100000 in
theorem lifted (os : Os) (started : os.Started) (H : Type) (enc : TypeId × Value → H) :
    ReturnsInHanded {} Try.checked os 11 .any (Rows.matrixKronsSpec.pre6 enc Try.prog Try.f11 Rows.matrixKronsRow.domain false) (Rows.matrixKronsSpec.post enc Try.prog Try.f11 false true false false) := by
  refine returnsInHanded_of_change_sized (C := Try.checked) own_knob started (by kernel_rfl) Try.func11
    (ChangeSpec.witness6 (enc := enc) (C := Try.checked) false ⟨#[], #[.agg #[.int .i64 0, .int .i64 0, .slice none 0 0], .agg #[.int .i64 0, .int .i64 0, .slice none 0 0]], []⟩ 8 (by kernel_rfl) (by kernel_rfl) (by kernel_rfl) (by kernel_rfl)) ?_
  intro W base args ds gs before hval0 hW hcnd hsz0 _
  have hsz : (DataW.weightsEach Try.prog (Try.f11.params.toList ++ Rows.matrixKronsSpec.plain.varTypes Try.prog) (ds ++ gs)).all (· ≤ reachBytes) = true := hsz0
  have hval : ∀ (j : Nat) t v, Try.f11.params[j]? = some t → args[j]? = some v → Value.okWide Try.prog W .any base t v := hval0
  have hW' := hW
  obtain ⟨p, q, hA0, hV, rfl, hfz, hnd⟩ := hW
  have hA : DataW.TrodAll enc Try.prog W 0 (fun _ => true) true Try.f11.params.toList args.toList ds p := hA0
  rw [Try.params11] at hA hval hsz
  obtain ⟨v0, vs0, d0, ds0, p0, q0, hargs, rfl, rfl, h0, r0⟩ := trodAll_cons hA
  obtain ⟨v1, vs1, d1, ds1, p1, q1, rfl, rfl, rfl, h1, r1⟩ := trodAll_cons r0
  obtain ⟨rfl, rfl, rfl⟩ := trodAll_nil r1
  obtain rfl : args = #[v0, v1] := by cases args; simp_all
  obtain ⟨rfl, rfl⟩ := trodVars_none hV
  have k0 := h0
  have lt0 : ∀ x ∈ p0, x.block < W.heap.size := by obtain ⟨m, hm⟩ := k0; exact DataW.trod_lt m _ _ _ hm
  have k1 := h1
  have lt1 : ∀ x ∈ p1, x.block < W.heap.size := by obtain ⟨m, hm⟩ := k1; exact DataW.trod_lt m _ _ _ hm
  obtain ⟨mr0, mc0, a0, n0, cap0, x0, dd0, rfl, wr0, wc0, rd0, lc0, cm0, rfl, sz0⟩ := open_matrix (hval 0 24 v0 rfl rfl) h0
  have cr0 := sized_matrix hsz (j := 0) rfl rfl sz0
  obtain ⟨mr1, mc1, a1, n1, cap1, x1, dd1, rfl, wr1, wc1, rd1, lc1, cm1, rfl, sz1⟩ := open_matrix (hval 1 24 v1 rfl rfl) h1
  have cr1 := sized_matrix hsz (j := 1) rfl rfl sz1
  clear hA0 hval0 hsz0
  refine (matrixKrons_calls mr0 mc0 a0 n0 cap0 x0 mr1 mc1 a1 n1 cap1 x1 W (bounds_i64 wr0) (bounds_i64 wc0) rd0 lc0 cr0 (bounds_i64 wr1) (bounds_i64 wc1) rd1 lc1 cr1).mono fun e W' ⟨he, bel⟩ => ?_
  subst he
  exact ⟨_, rfl, _, _, _, [], _, [], hW', trodAll_mk1 (shut_bool Try.underlying4 _), (trodAll_cons_mk (Below.trod laid_out (by kernel_rfl) (of_decide_eq_true (by kernel_rfl)) k0 bel lt0) (trodAll_cons_mk (Below.trod laid_out (by kernel_rfl) (of_decide_eq_true (by kernel_rfl)) k1 bel lt1) trodAll_mk0)), rfl, bel.frame _, fun h => by cases h⟩

theorem over : Rows.matrixKronsRow.holds Try.pinned (OpenSpec.ofChange Rows.matrixKronsSpec) :=
  OpenClaim.holds_of_wide 11 Try.f11 rfl rfl rfl rfl rfl rfl rfl ⟨rfl, rfl, rfl, rfl, rfl⟩ rfl rfl rfl rfl rfl (by kernel_rfl) Try.func11 (by kernel_rfl)
    (of_decide_eq_true (by kernel_rfl)) (by unfold Func.isWrapper; first | (rw [if_pos (by decide +kernel)]; kernel_rfl) | (rw [if_neg (by decide +kernel)]; exact ⟨rfl, rfl⟩))
    (fun os started H enc _ => lifted os started H enc)

theorem proved : Rows.MatrixKronsSaid := over
#print axioms proved
end Go.Proofs.Ytgcgajeagdaenaa.matrixKrons
