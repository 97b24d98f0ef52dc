/- The law MatrixApplies, proved: for every input the call returns true and each argument reads as before. -/
import Derived.WalkKit
import Derived.ProofKit
import Derived.OpenShut
import Derived.ChangeOld
import Derived.Below
import Derived.SizedLaws
import Derived.Test.YtgcgajeagdaenaaCMatrixAppliesx1
import Derived.Test.YtgcgajeagdaenaaCMatrixAppliesx2
import Derived.Test.YtgcgajeagdaenaaCMatrixAppliesx6
import Derived.Test.YtgcgajeagdaenaaCMatrixAppliesA4
import Derived.Test.YtgcgajeagdaenaaCMatrixAppliesA1
import Derived.Test.YtgcgajeagdaenaaCMatrixAppliesA2
import Derived.Test.YtgcgajeagdaenaaCMatrixAppliesx7
import Derived.Test.YtgcgajeagdaenaaCMatrixAppliesx4
import Derived.Test.YtgcgajeagdaenaaRows
namespace Go.Proofs.Ytgcgajeagdaenaa
open Go.RowKit Go.Proofs.YtgcgajeagdaenaaW.PrintWords Go.Proofs.Ytgcgajeagdaenaa.Pr
set_option linter.unusedVariables false
set_option linter.unusedSimpArgs false

theorem pu_right (r c : Int) (l : List Int) : recoupref03_Right.f r c l = some (rightB r c l.length) := by
  unfold recoupref03_Right.f rightB
  by_cases h1 : r ≥ 0
  · rw [if_pos h1]
    by_cases h2 : r ≤ 64
    · rw [if_pos h2]
      by_cases h3 : c ≥ 0
      · rw [if_pos h3]
        by_cases h4 : c ≤ 64
        · rw [if_pos h4]
          have b := prod_bd h1 h2 h3 h4
          rw [w64 (by omega) (by omega)]
          congr 1
          rw [Bool.eq_iff_iff, beq_iff_eq, decide_eq_true_eq]
          exact ⟨fun h => ⟨⟨h1, h2⟩, ⟨h3, h4⟩, h⟩, fun h => h.2.2⟩
        · rw [if_neg h4]; congr 1; exact (decide_eq_false (fun h => h4 h.2.1.2)).symm
      · rw [if_neg h3]; congr 1; exact (decide_eq_false (fun h => h3 h.2.1.1)).symm
    · rw [if_neg h2]; congr 1; exact (decide_eq_false (fun h => h2 h.1.2)).symm
  · rw [if_neg h1]; congr 1; exact (decide_eq_false (fun h => h1 h.1.1)).symm
theorem pu_at {r : Int} {c i j : Nat} {xs : List UInt8} (h : i * c + j < xs.length) (hb : i * c + j ≤ 9223372036854775807) : recoupref03_At.f r (c : Int) (nI xs) (i : Int) (j : Int) = some ((xs.getD (i * c + j) 0).toNat : Int) := by
  unfold recoupref03_At.f
  rw [w64_place hb, if_pos (by omega), if_pos (by rw [nI_length]; omega), rd_nI]
theorem pu_mul8 (a b : UInt8) : recoupref01_Mul.f (a.toNat : Int) (b.toNat : Int) = some ((Gf.mul a b).toNat : Int) := by
  unfold recoupref01_Mul.f
  rw [byteB_nat, byteB_nat, toU_nat, toU_nat]
  rfl
theorem pu_zero {r c : Nat} (h : r * c ≤ 281474976710656) : recoupref03_Zero.f (r : Int) (c : Int) = some ((r : Int), (c : Int), nI (List.replicate (r * c) 0)) := by
  unfold recoupref03_Zero.f
  rw [w64_mul (by omega), if_pos (by omega), Int.toNat_natCast, if_pos h, nI_rep]
section
variable {ra ca cb : Nat} {xs ys : List UInt8}
theorem pu_mul_l2 (hra : ra ≤ 64) (hca : ca ≤ 64) (hcb : cb ≤ 64) (hx : xs.length = ra * ca) (hy : ys.length = ca * cb) {i j : Nat} (hi : i < ra) (hj : j < cb) {r : Int × Int × List Int × Int}
    (hr : Ev (fun k => recoupref03_Mul.l1 k (i : Int) ((j + 1 : Nat) : Int) ra ca (nI xs) ca cb (nI ys) ra cb (nI (fillT ra cb (mulF ca cb xs ys) i (j + 1)))) r) :
    ∀ d q, q + d = ca → Ev (fun k => recoupref03_Mul.l2 k (i : Int) (j : Int) (q : Int) ra ca (nI xs) ca cb (nI ys) ra cb (nI ((fillT ra cb (mulF ca cb xs ys) i j).set (i * cb + j) (sumF q fun t => Gf.mul (xs.getD (i * ca + t) 0) (ys.getD (t * cb + j) 0))))) r := by
  have hp := place_lt hi hj
  have hpb : ra * cb ≤ 64 * 64 := Nat.mul_le_mul hra hcb
  have hab : ra * ca ≤ 64 * 64 := Nat.mul_le_mul hra hca
  have hbb : ca * cb ≤ 64 * 64 := Nat.mul_le_mul hca hcb
  intro d
  induction d with
  | zero =>
    intro q hq
    obtain rfl : q = ca := by omega
    refine Ev.step (fun k => ?_) hr
    rw [recoupref03_Mul.l2, if_neg (by omega), w64_succ (by omega)]
    have e := fillT_set (R := ra) (C := cb) (mulF q cb xs ys) hi hj
    rw [← e]
    rfl
  | succ d ih =>
    intro q hq
    refine Ev.step (fun k => ?_) (ih (q + 1) (by omega))
    have h1 := place_lt hi (show q < ca by omega)
    have h2 := place_lt (show q < ca by omega) hj
    rw [recoupref03_Mul.l2, if_pos (by omega), w64_place (by omega), if_pos (by omega), if_pos (by rw [nI_length, List.length_set, fillT_length]; omega),
      pu_at (by omega) (by omega), Option.bind_some, pu_at (by omega) (by omega), Option.bind_some, pu_mul8, Option.bind_some, w64_succ (by omega), Int.toNat_natCast, rd_nI,
      getD_set_same _ _ _ (by rw [fillT_length]; omega), add_xor, nI_set, List.set_set]
    rfl
theorem pu_mul_l1 (hra : ra ≤ 64) (hca : ca ≤ 64) (hcb : cb ≤ 64) (hx : xs.length = ra * ca) (hy : ys.length = ca * cb) {i : Nat} (hi : i < ra) {r : Int × Int × List Int × Int}
    (hr : Ev (fun k => recoupref03_Mul.l0 k ((i + 1 : Nat) : Int) ra ca (nI xs) ca cb (nI ys) ra cb (nI (fillT ra cb (mulF ca cb xs ys) (i + 1) 0))) r) :
    ∀ d j, j + d = cb → Ev (fun k => recoupref03_Mul.l1 k (i : Int) (j : Int) ra ca (nI xs) ca cb (nI ys) ra cb (nI (fillT ra cb (mulF ca cb xs ys) i j))) r := by
  intro d
  induction d with
  | zero =>
    intro j hj
    obtain rfl : j = cb := by omega
    refine Ev.step (fun k => ?_) hr
    rw [recoupref03_Mul.l1, if_neg (by omega), w64_succ (by omega), fillT_next]
  | succ d ih =>
    intro j hj
    have h0 := pu_mul_l2 hra hca hcb hx hy hi (show j < cb by omega) (ih (j + 1) (by omega)) ca 0 (by omega)
    refine Ev.step (fun k => ?_) h0
    rw [recoupref03_Mul.l1, if_pos (by omega)]
    have e := fillT_at (R := ra) (C := cb) (mulF ca cb xs ys) hi (show j < cb by omega)
    simp only [sumF]
    rw [e]
    rfl
theorem pu_mul_l0 (hra : ra ≤ 64) (hca : ca ≤ 64) (hcb : cb ≤ 64) (hx : xs.length = ra * ca) (hy : ys.length = ca * cb) :
    ∀ d i, i + d = ra → Ev (fun k => recoupref03_Mul.l0 k (i : Int) ra ca (nI xs) ca cb (nI ys) ra cb (nI (fillT ra cb (mulF ca cb xs ys) i 0))) ((ra : Int), (cb : Int), nI (mulG ra ca cb xs ys), 0) := by
  intro d
  induction d with
  | zero =>
    intro i hi
    obtain rfl : i = ra := by omega
    refine Ev.step (fun k => ?_) (Ev.now _)
    rw [recoupref03_Mul.l0, if_neg (by omega), fillT_end]
    rfl
  | succ d ih =>
    intro i hi
    have h0 := pu_mul_l1 hra hca hcb hx hy (show i < ra by omega) (ih (i + 1) (by omega)) cb 0 (by omega)
    refine Ev.step (fun k => ?_) h0
    rw [recoupref03_Mul.l0, if_pos (by omega)]
    rfl
end
/-- the document's Mul -/
theorem pu_mul (ra ca rb cb : Int) (xs ys : List UInt8) :
    Ev (fun k => recoupref03_Mul.f k ra ca (nI xs) rb cb (nI ys)) (if mulB ra ca xs.length rb cb ys.length = true then (ra, cb, nI (mulG ra.toNat ca.toNat cb.toNat xs ys), 0) else (0, 0, [], 3)) := by
  unfold recoupref03_Mul.f
  simp only [pu_right, nI_length, Option.bind_some]
  by_cases h1 : rightB ra ca xs.length = true
  · by_cases h2 : rightB rb cb ys.length = true
    · simp only [h1, h2, if_true]
      by_cases h3 : ca = rb
      · have hm : mulB ra ca xs.length rb cb ys.length = true := by unfold mulB; rw [h1, h2]; simp [h3]
        rw [if_pos hm]
        obtain ⟨a, b, c, rfl, rfl, rfl, rfl, k1, k2, k3, k4, k5⟩ := mulB_natW hm
        have hpb : a * c ≤ 64 * 64 := Nat.mul_le_mul k1 k3
        have h0 := pu_mul_l0 k1 k2 k3 k4 k5 a 0 (by omega)
        refine Ev.step (fun k => ?_) h0
        rw [recoupref03_Mul.j0, if_neg (by simp), pu_zero (by omega), Option.bind_some, fillT_start a c (mulF b c xs ys)]
        rfl
      · have hm : ¬ mulB ra ca xs.length rb cb ys.length = true := by simp [mulB, h3]
        rw [if_neg hm]
        refine Ev.step (fun k => ?_) (Ev.now _)
        rw [recoupref03_Mul.j0, if_pos (by simpa using h3)]
    · have hm : ¬ mulB ra ca xs.length rb cb ys.length = true := by simp [mulB, h2]
      simp only [h1, h2, if_true, Bool.false_eq_true, if_false]
      rw [if_neg hm]
      refine Ev.step (fun k => ?_) (Ev.now _)
      rw [recoupref03_Mul.j0, if_pos rfl]
  · have hm : ¬ mulB ra ca xs.length rb cb ys.length = true := by simp [mulB, h1]
    simp only [h1, Bool.false_eq_true, if_false]
    rw [if_neg hm]
    refine Ev.step (fun k => ?_) (Ev.now _)
    rw [recoupref03_Mul.j0, if_pos rfl]
end Go.Proofs.Ytgcgajeagdaenaa
namespace Go.Proofs.Ytgcgajeagdaenaa
open Go.RowKit Go.Proofs.YtgcgajeagdaenaaW.PrintWords Go.Proofs.Ytgcgajeagdaenaa.Pr
set_option linter.unusedVariables false
set_option linter.unusedSimpArgs false

theorem g_mul (a0 a1 : Int) (xs : List UInt8) (b0 b1 : Int) (ys : List UInt8) : matrix_Mul.f a0 a1 (nI xs) b0 b1 (nI ys) = some (if mulB a0 a1 xs.length b0 b1 ys.length = true then (a0, b1, nI (mulG a0.toNat a1.toNat b1.toNat xs ys), 0) else (0, 0, [], 3)) := by
  unfold matrix_Mul.f
  rw [inU_nI, inU_nI, nI_length, nI_length, nI_toU, nI_toU]
  simp only [Bool.and_self, if_true]
  split <;> rfl
theorem g_apply (a0 a1 : Int) (xs ys : List UInt8) : matrix_Apply.f a0 a1 (nI xs) (nI ys) = some (if applyB a0 a1 xs.length ys.length = true then (nI (applyD a0.toNat a1.toNat xs ys), 0) else ([], 3)) := by
  unfold matrix_Apply.f
  rw [inU_nI, inU_nI, nI_length, nI_length, nI_toU, nI_toU]
  simp only [Bool.and_self, if_true]
  split <;> rfl
theorem same_self (l : List Int) : recoupref01_Same.f l l = some true := by
  unfold recoupref01_Same.f
  rw [beq_self_eq_true]
theorem like3_self (r c : Int) (l : List Int) : recoupref03_Like.f r c l r c l = some true := by
  unfold recoupref03_Like.f
  rw [if_pos rfl, if_pos rfl, same_self]
  rfl
theorem like_self (r c : Int) (l : List Int) (e : Int) : recouplaw03_like.f r c l e r c l e = some true := by
  unfold recouplaw03_like.f
  rw [if_pos rfl, like3_self]
  rfl
theorem mulG_one (r c : Nat) (xs ys : List UInt8) (hx : xs.length = r * c) (hy : ys.length = c) : mulG r c 1 xs ys = applyD r c xs ys := by
  unfold mulG gridD applyD
  rw [Nat.mul_one]
  apply List.map_congr_left
  intro p hp
  have hp := List.mem_range.1 hp
  rw [Nat.div_one, Nat.mod_one]
  unfold applyF mulF
  have hl : ((xs.drop (p * c)).take c).length = c := by
    rw [List.length_take, List.length_drop, hx]
    have h : (p + 1) * c ≤ r * c := Nat.mul_le_mul_right c hp
    rw [Nat.add_mul] at h
    omega
  rw [dot_sum hl]
  refine sumF_congr fun k hk => ?_
  congr 1
  · rw [List.getD_eq_getElem?_getD, List.getD_eq_getElem?_getD, List.getElem?_take, if_pos hk, List.getElem?_drop]
  · rw [Nat.mul_one, Nat.add_zero]
/-- the document's Apply -/
theorem pu_apply (a0 a1 : Int) (xs ys : List UInt8) :
    Ev (fun k => recoupref03_Apply.f k a0 a1 (nI xs) (nI ys)) (if applyB a0 a1 xs.length ys.length = true then (nI (applyD a0.toNat a1.toNat xs ys), 0) else ([], 3)) := by
  unfold recoupref03_Apply.f
  simp only [pu_right, nI_length, Option.bind_some]
  by_cases h1 : rightB a0 a1 xs.length = true
  · simp only [h1, if_true]
    by_cases h2 : (ys.length : Int) = a1
    · have hb : applyB a0 a1 xs.length ys.length = true := by unfold applyB; rw [h1]; simp [h2]
      simp only [if_pos h2]
      rw [if_pos hb]
      obtain ⟨a, b, rfl, rfl, k1, k2, k3⟩ := right_natW h1
      have hyb : ys.length = b := by omega
      have hm : mulB a b xs.length b 1 ys.length = true := by
        unfold mulB
        rw [h1, hyb]
        simp [rightB]
        omega
      have h := pu_mul a b b 1 xs ys
      rw [if_pos hm] at h
      refine Ev.bind h ?_
      simp only [Int.toNat_natCast]
      rw [show (1 : Int).toNat = 1 from rfl, mulG_one a b xs ys k3 hyb]
      exact Ev.now _
    · have hb : ¬ applyB a0 a1 xs.length ys.length = true := by unfold applyB; simp [h2]
      simp only [if_neg h2]
      rw [if_neg hb]
      exact Ev.now _
  · have hb : ¬ applyB a0 a1 xs.length ys.length = true := by unfold applyB; simp [h1]
    simp only [h1, Bool.false_eq_true, if_false]
    rw [if_neg hb]
    exact Ev.now _
theorem products_pure (a0 a1 : Int) (xs : List UInt8) (b0 b1 : Int) (ys zs : List UInt8) : ∃ k, recouplaw03_MatrixProducts.f k a0 a1 (nI xs) b0 b1 (nI ys) (nI zs) = some true := by
  refine Ev.rounds ?_
  unfold recouplaw03_MatrixProducts.f
  simp only [g_mul, Option.bind_some]
  refine Ev.bind (pu_mul a0 a1 b0 b1 xs ys) ?_
  simp only [g_apply, Option.bind_some]
  refine Ev.bind (pu_apply a0 a1 xs zs) ?_
  simp only [like_self, same_self, Option.bind_some, if_true, beq_self_eq_true]
  exact Ev.now _
theorem matrixProducts_calls (ra ca : Int) (A : Option Addr) (na ka : Nat) (xs : List UInt8) (rb cb : Int) (B : Option Addr) (nb kb : Nat) (ys : List UInt8) (Z : Option Addr) (nz kz : Nat) (zs : List UInt8) (w : World)
    (b1 : -9223372036854775808 ≤ ra ∧ ra ≤ 9223372036854775807) (b2 : -9223372036854775808 ≤ ca ∧ ca ≤ 9223372036854775807) (rx : Rd w w.heap.size A na (bVs xs)) (lx : na ≤ ka) (kx : ka ≤ 140737488351232)
    (b3 : -9223372036854775808 ≤ rb ∧ rb ≤ 9223372036854775807) (b4 : -9223372036854775808 ≤ cb ∧ cb ≤ 9223372036854775807) (ry : Rd w w.heap.size B nb (bVs ys)) (ly : nb ≤ kb) (ky : kb ≤ 140737488351232)
    (rz : Rd w w.heap.size Z nz (bVs zs)) (lz : nz ≤ kz) (kz' : kz ≤ 140737488351232) :
    Calls Try.prog 8 #[mV ra ca A na ka, mV rb cb B nb kb, .slice Z nz kz] w fun e w' => e = .returned (.bool true) ∧ Below w.heap.size w w' := by
  obtain rfl : xs.length = na := by have := rx.len; rw [bVs_length] at this; exact this
  obtain rfl : ys.length = nb := by have := ry.len; rw [bVs_length] at this; exact this
  obtain rfl : zs.length = nz := by have := rz.len; rw [bVs_length] at this; exact this
  obtain ⟨k, h⟩ := products_pure ra ca xs rb cb ys zs
  have hc := recouplaw03_MatrixProducts.calls k ra ca A ka (nI xs) rb cb B kb (nI ys) Z kz (nI zs) true w (C_of_rd rx (by omega)) (by rw [nI_length]; exact lx) (C_of_rd ry (by omega)) (by rw [nI_length]; exact ly) (C_of_rd rz (by omega)) (by rw [nI_length]; exact lz) rfl h
  rw [nI_length, nI_length, nI_length] at hc
  exact hc
end Go.Proofs.Ytgcgajeagdaenaa
namespace Go.Proofs.Ytgcgajeagdaenaa
open Go.RowKit Go.Proofs.YtgcgajeagdaenaaW.PrintWords Go.Proofs.Ytgcgajeagdaenaa.Pr
set_option linter.unusedVariables false
set_option linter.unusedSimpArgs false

theorem anch_true : recouplaw03_anchored.f = some true := by
  have h := g_mul 2 2 [1, 2, 0, 1] 2 2 [1, 0, 3, 1]
  rw [if_pos (by decide)] at h
  have e : nI (mulG (2 : Int).toNat (2 : Int).toNat (2 : Int).toNat [1, 2, 0, 1] [1, 0, 3, 1]) = [7, 2, 3, 1] := by decide +kernel
  rw [e] at h
  unfold recouplaw03_anchored.f
  rw [show ([1, 2, 0, 1] : List Int) = nI [1, 2, 0, 1] from rfl, show ([1, 0, 3, 1] : List Int) = nI [1, 0, 3, 1] from rfl, h]
  simp only [Option.bind_some, if_true, like3_self]
theorem applyF_sum {r c i : Nat} {xs ys : List UInt8} (hx : xs.length = r * c) (hi : i < r) : applyF c xs ys i = sumF c (fun k => Gf.mul (xs.getD (i * c + k) 0) (ys.getD k 0)) := by
  unfold applyF
  have hl : ((xs.drop (i * c)).take c).length = c := by
    rw [List.length_take, List.length_drop, hx]
    have h : (i + 1) * c ≤ r * c := Nat.mul_le_mul_right c hi
    rw [Nat.add_mul] at h
    omega
  rw [dot_sum hl]
  refine sumF_congr fun k hk => ?_
  congr 1
  rw [List.getD_eq_getElem?_getD, List.getD_eq_getElem?_getD, List.getElem?_take, if_pos hk, List.getElem?_drop]
theorem applyD_get {r c i : Nat} {xs ys : List UInt8} (hi : i < r) : (applyD r c xs ys).getD i 0 = applyF c xs ys i := by
  unfold applyD
  rw [List.getD_eq_getElem?_getD, List.getElem?_map, List.getElem?_range hi]
  rfl
theorem apply_apply {ra ca cb : Nat} {xs ys zs : List UInt8} (hx : xs.length = ra * ca) (hy : ys.length = ca * cb) : applyD ra ca xs (applyD ca cb ys zs) = applyD ra cb (mulG ra ca cb xs ys) zs := by
  unfold applyD
  apply List.map_congr_left
  intro i hi
  have hi := List.mem_range.1 hi
  rw [applyF_sum hx hi, applyF_sum (r := ra) (xs := mulG ra ca cb xs ys) (grid_length _ _ _) hi]
  have e1 : sumF ca (fun k => Gf.mul (xs.getD (i * ca + k) 0) (((List.range ca).map (applyF cb ys zs)).getD k 0)) = sumF ca (fun k => sumF cb (fun j => Gf.mul (xs.getD (i * ca + k) 0) (Gf.mul (ys.getD (k * cb + j) 0) (zs.getD j 0)))) := by
    refine sumF_congr fun k hk => ?_
    have := applyD_get (r := ca) (c := cb) (xs := ys) (ys := zs) hk
    unfold applyD at this
    rw [this, applyF_sum hy hk, sumF_mul]
  have e2 : sumF cb (fun j => Gf.mul ((mulG ra ca cb xs ys).getD (i * cb + j) 0) (zs.getD j 0)) = sumF cb (fun j => sumF ca (fun k => Gf.mul (xs.getD (i * ca + k) 0) (Gf.mul (ys.getD (k * cb + j) 0) (zs.getD j 0)))) := by
    refine sumF_congr fun j hj => ?_
    unfold mulG
    rw [grid_getD _ hi hj]
    unfold mulF
    rw [sumF_mul_right]
    exact sumF_congr fun k _ => Gf.mul_assoc _ _ _
  rw [e1, e2, sumF_swap]
theorem idTo_grid (n : Nat) : ∀ m, m ≤ n → idTo n m = gridD n n (fun a b => if a = b ∧ a < m then 1 else 0)
  | 0, _ => by
    rw [idTo, grid_zero]
    exact grid_congr fun a b _ _ => (if_neg (by omega)).symm
  | m + 1, h => by
    rw [idTo, idTo_grid n m (by omega), grid_set _ _ (by omega) (by omega)]
    refine grid_congr fun a b _ _ => ?_
    by_cases h1 : a = m ∧ b = m
    · rw [if_pos h1, if_pos (by omega)]
    · rw [if_neg h1]
      by_cases h2 : a = b ∧ a < m
      · rw [if_pos h2, if_pos (by omega)]
      · rw [if_neg h2, if_neg (by omega)]
theorem apply_id {n : Nat} {zs : List UInt8} (hz : zs.length = n) : applyD n n (idTo n n) zs = zs := by
  apply List.ext_getElem?
  intro i
  rcases Nat.lt_or_ge i n with hi | hi
  · have h1 : (applyD n n (idTo n n) zs)[i]? = some (applyF n (idTo n n) zs i) := by
      unfold applyD
      rw [List.getElem?_map, List.getElem?_range hi]; rfl
    rw [h1, applyF_sum (r := n) (idTo_length n n) hi, idTo_grid n n (Nat.le_refl _), List.getElem?_eq_getElem (by omega)]
    congr 1
    rw [sumF_congr (g := fun k => Gf.mul (if i = k ∧ i < n then 1 else 0) (zs.getD k 0)) (fun k hk => by rw [grid_getD _ hi hk]), sumF_one hi (fun k hk hne => by rw [if_neg (by omega), Gf.mul_comm, Gf.mul_zero]), if_pos ⟨rfl, hi⟩, Gf.one_mul,
      List.getD_eq_getElem?_getD, List.getElem?_eq_getElem (by omega)]
    rfl
  · rw [List.getElem?_eq_none (by rw [applyD_length]; omega), List.getElem?_eq_none (by omega)]
theorem g_id (n : Nat) (h : n ≤ 64) : matrix_Identity.f (n : Int) = some ((n : Int), (n : Int), nI (idTo n n), 0) := by
  unfold matrix_Identity.f
  rw [if_pos (by simp [makeB, sideB]; omega), Int.toNat_natCast]
theorem applies_pure (a0 a1 : Int) (xs : List UInt8) (b0 b1 : Int) (ys zs : List UInt8) : ∃ k, recouplaw03_MatrixApplies.f k a0 a1 (nI xs) b0 b1 (nI ys) (nI zs) = some true := by
  refine Ev.rounds ?_
  unfold recouplaw03_MatrixApplies.f
  simp only [g_mul, g_apply, pu_right, nI_length, Option.bind_some]
  by_cases h1 : rightB a0 a1 xs.length = true
  · by_cases h2 : rightB b0 b1 ys.length = true
    · by_cases h3 : a1 = b0
      · have hm : mulB a0 a1 xs.length b0 b1 ys.length = true := by unfold mulB; rw [h1, h2]; simp [h3]
        simp only [h1, h2, if_true, if_pos h3, hm]
        by_cases h4 : (zs.length : Int) = b1
        · have hap : applyB b0 b1 ys.length zs.length = true := by unfold applyB; rw [h2]; simp [h4]
          simp only [hap, if_true]
          obtain ⟨a, b, c, rfl, rfl, rfl, rfl, k1, k2, k3, k4, k5⟩ := mulB_natW hm
          have hz : zs.length = c := by omega
          refine Ev.step (f := fun _ => some true) (fun k => ?_) (Ev.now _)
          have q1 : applyB a b xs.length (applyD b c ys zs).length = true := by unfold applyB; rw [h1, applyD_length]; simp
          have q2 : applyB a c (mulG a b c xs ys).length zs.length = true := by unfold applyB rightB; rw [show (mulG a b c xs ys).length = a * c from grid_length _ _ _, hz]; simp; omega
          have q3 : applyB c c (idTo c c).length zs.length = true := by unfold applyB rightB; rw [idTo_length, hz]; simp; omega
          have hne : ((zs.length : Int) != (c : Int)) = false := by simpa using h4
          simp only [Int.toNat_natCast]
          rw [recouplaw03_MatrixApplies.j0, hne, if_neg (by simp), g_apply, q1]
          simp only [Option.bind_some, if_true, Int.toNat_natCast]
          rw [g_apply, q2]
          simp only [Option.bind_some, if_true, Int.toNat_natCast, nI_length]
          rw [hz, g_id c (by omega)]
          simp only [Option.bind_some]
          rw [g_apply, q3]
          simp only [Option.bind_some, if_true, Int.toNat_natCast, anch_true]
          rw [apply_apply k4 k5, apply_id hz, same_self, same_self]
          rfl
        · have hap : ¬ applyB b0 b1 ys.length zs.length = true := by unfold applyB; simp [h4]
          rw [if_neg hap]
          refine Ev.step (f := fun _ => some true) (fun k => ?_) (Ev.now _)
          rw [recouplaw03_MatrixApplies.j0, if_pos (by simpa using h4), anch_true]
          rfl
      · have hm : ¬ mulB a0 a1 xs.length b0 b1 ys.length = true := by unfold mulB; simp [h3]
        simp only [h1, h2, if_true, if_neg h3]
        rw [if_neg hm]
        refine Ev.step (f := fun _ => some true) (fun k => ?_) (Ev.now _)
        rw [recouplaw03_MatrixApplies.j0, if_pos rfl, anch_true]
        rfl
    · have hm : ¬ mulB a0 a1 xs.length b0 b1 ys.length = true := by unfold mulB; simp [h2]
      have h2' : rightB b0 b1 ys.length = false := by simpa using h2
      simp only [h1, h2', if_true, Bool.false_eq_true, if_false]
      rw [if_neg hm]
      refine Ev.step (f := fun _ => some true) (fun k => ?_) (Ev.now _)
      rw [recouplaw03_MatrixApplies.j0, if_pos rfl, anch_true]
      rfl
  · have hm : ¬ mulB a0 a1 xs.length b0 b1 ys.length = true := by unfold mulB; simp [h1]
    have h1' : rightB a0 a1 xs.length = false := by simpa using h1
    simp only [h1', Bool.false_eq_true, if_false]
    rw [if_neg hm]
    refine Ev.step (f := fun _ => some true) (fun k => ?_) (Ev.now _)
    rw [recouplaw03_MatrixApplies.j0, if_pos rfl, anch_true]
    rfl
theorem matrixApplies_calls (ra ca : Int) (A : Option Addr) (na ka : Nat) (xs : List UInt8) (rb cb : Int) (B : Option Addr) (nb kb : Nat) (ys : List UInt8) (Z : Option Addr) (nz kz : Nat) (zs : List UInt8) (w : World)
    (b1 : -9223372036854775808 ≤ ra ∧ ra ≤ 9223372036854775807) (b2 : -9223372036854775808 ≤ ca ∧ ca ≤ 9223372036854775807) (rx : Rd w w.heap.size A na (bVs xs)) (lx : na ≤ ka) (kx : ka ≤ 140737488351232)
    (b3 : -9223372036854775808 ≤ rb ∧ rb ≤ 9223372036854775807) (b4 : -9223372036854775808 ≤ cb ∧ cb ≤ 9223372036854775807) (ry : Rd w w.heap.size B nb (bVs ys)) (ly : nb ≤ kb) (ky : kb ≤ 140737488351232)
    (rz : Rd w w.heap.size Z nz (bVs zs)) (lz : nz ≤ kz) (kz' : kz ≤ 140737488351232) :
    Calls Try.prog 10 #[mV ra ca A na ka, mV rb cb B nb kb, .slice Z nz kz] w fun e w' => e = .returned (.bool true) ∧ Below w.heap.size w w' := by
  obtain rfl : xs.length = na := by have := rx.len; rw [bVs_length] at this; exact this
  obtain rfl : ys.length = nb := by have := ry.len; rw [bVs_length] at this; exact this
  obtain rfl : zs.length = nz := by have := rz.len; rw [bVs_length] at this; exact this
  obtain ⟨k, h⟩ := applies_pure ra ca xs rb cb ys zs
  have hc := recouplaw03_MatrixApplies.calls k ra ca A ka (nI xs) rb cb B kb (nI ys) Z kz (nI zs) true w (C_of_rd rx (by omega)) (by rw [nI_length]; exact lx) (C_of_rd ry (by omega)) (by rw [nI_length]; exact ly) (C_of_rd rz (by omega)) (by rw [nI_length]; exact lz) rfl h
  rw [nI_length, nI_length, nI_length] at hc
  exact hc
end Go.Proofs.Ytgcgajeagdaenaa
namespace Go.Proofs.Ytgcgajeagdaenaa.matrixApplies
open Go.ChangeShapes Go.WideShapes Go.ChangeAt Go.RowKit

set_option linter.unusedVariables false

set_option maxRecDepth 100000 in
theorem lifted (os : Os) (started : os.Started) (H : Type) (enc : TypeId × Value → H) :
    ReturnsInHanded {} Try.checked os 10 .any (Rows.matrixAppliesSpec.pre6 enc Try.prog Try.f10 Rows.matrixAppliesRow.domain false) (Rows.matrixAppliesSpec.post enc Try.prog Try.f10 false true false false) := by
  refine returnsInHanded_of_change_sized (C := Try.checked) own_knob started (by kernel_rfl) Try.func10
    (ChangeSpec.witness6 (enc := enc) (C := Try.checked) false ⟨#[], #[.agg #[.int .i64 0, .int .i64 0, .slice none 0 0], .agg #[.int .i64 0, .int .i64 0, .slice none 0 0], .slice none 0 0], []⟩ 8 (by kernel_rfl) (by kernel_rfl) (by kernel_rfl) (by kernel_rfl)) ?_
  intro W base args ds gs before hval0 hW hcnd hsz0 _
  have hsz : (DataW.weightsEach Try.prog (Try.f10.params.toList ++ Rows.matrixAppliesSpec.plain.varTypes Try.prog) (ds ++ gs)).all (· ≤ reachBytes) = true := hsz0
  have hval : ∀ (j : Nat) t v, Try.f10.params[j]? = some t → args[j]? = some v → Value.okWide Try.prog W .any base t v := hval0
  have hW' := hW
  obtain ⟨p, q, hA0, hV, rfl, hfz, hnd⟩ := hW
  have hA : DataW.TrodAll enc Try.prog W 0 (fun _ => true) true Try.f10.params.toList args.toList ds p := hA0
  rw [Try.params10] at hA hval hsz
  obtain ⟨v0, vs0, d0, ds0, p0, q0, hargs, rfl, rfl, h0, r0⟩ := trodAll_cons hA
  obtain ⟨v1, vs1, d1, ds1, p1, q1, rfl, rfl, rfl, h1, r1⟩ := trodAll_cons r0
  obtain ⟨v2, vs2, d2, ds2, p2, q2, rfl, rfl, rfl, h2, r2⟩ := trodAll_cons r1
  obtain ⟨rfl, rfl, rfl⟩ := trodAll_nil r2
  obtain rfl : args = #[v0, v1, v2] := by cases args; simp_all
  obtain ⟨rfl, rfl⟩ := trodVars_none hV
  have k0 := h0
  have lt0 : ∀ x ∈ p0, x.block < W.heap.size := by obtain ⟨m, hm⟩ := k0; exact DataW.trod_lt m _ _ _ hm
  have k1 := h1
  have lt1 : ∀ x ∈ p1, x.block < W.heap.size := by obtain ⟨m, hm⟩ := k1; exact DataW.trod_lt m _ _ _ hm
  have k2 := h2
  have lt2 : ∀ x ∈ p2, x.block < W.heap.size := by obtain ⟨m, hm⟩ := k2; exact DataW.trod_lt m _ _ _ hm
  obtain ⟨mr0, mc0, a0, n0, cap0, x0, dd0, rfl, wr0, wc0, rd0, lc0, cm0, rfl, sz0⟩ := open_matrix (hval 0 24 v0 rfl rfl) h0
  have cr0 := sized_matrix hsz (j := 0) rfl rfl sz0
  obtain ⟨mr1, mc1, a1, n1, cap1, x1, dd1, rfl, wr1, wc1, rd1, lc1, cm1, rfl, sz1⟩ := open_matrix (hval 1 24 v1 rfl rfl) h1
  have cr1 := sized_matrix hsz (j := 1) rfl rfl sz1
  obtain ⟨a2, n2, c2, rfl⟩ := okWide_slice Try.underlying22 (hval 2 22 v2 rfl rfl)
  obtain ⟨x2, rd2, lc2, cm2, dd2⟩ := open_bytes h2
  have cr2 : c2 ≤ 140737488351232 := by
    rcases dd2 with ⟨_, h⟩ | ⟨es, rs, rfl, hl⟩
    · omega
    · have h := sized_slice hsz (j := 2) rfl rfl Try.underlying22
      rw [bytes_of_u8] at h
      simp only [reachBytes] at h
      omega
  clear hA0 hval0 hsz0
  refine (matrixApplies_calls mr0 mc0 a0 n0 cap0 x0 mr1 mc1 a1 n1 cap1 x1 a2 n2 c2 x2 W (bounds_i64 wr0) (bounds_i64 wc0) rd0 lc0 cr0 (bounds_i64 wr1) (bounds_i64 wc1) rd1 lc1 cr1 rd2 lc2 cr2).mono fun e W' ⟨he, bel⟩ => ?_
  subst he
  exact ⟨_, rfl, _, _, _, [], _, [], hW', trodAll_mk1 (shut_bool Try.underlying4 _), (trodAll_cons_mk (Below.trod laid_out (by kernel_rfl) (of_decide_eq_true (by kernel_rfl)) k0 bel lt0) (trodAll_cons_mk (Below.trod laid_out (by kernel_rfl) (of_decide_eq_true (by kernel_rfl)) k1 bel lt1) (trodAll_cons_mk (Below.trod laid_out (by kernel_rfl) (of_decide_eq_true (by kernel_rfl)) k2 bel lt2) trodAll_mk0))), rfl, bel.frame _, fun h => by cases h⟩

theorem over : Rows.matrixAppliesRow.holds Try.pinned (OpenSpec.ofChange Rows.matrixAppliesSpec) :=
  OpenClaim.holds_of_wide 10 Try.f10 rfl rfl rfl rfl rfl rfl rfl ⟨rfl, rfl, rfl, rfl, rfl⟩ rfl rfl rfl rfl rfl (by kernel_rfl) Try.func10 (by kernel_rfl)
    (of_decide_eq_true (by kernel_rfl)) (by unfold Func.isWrapper; first | (rw [if_pos (by decide +kernel)]; kernel_rfl) | (rw [if_neg (by decide +kernel)]; exact ⟨rfl, rfl⟩))
    (fun os started H enc _ => lifted os started H enc)

theorem proved : Rows.MatrixAppliesSaid := over
#print axioms proved
end Go.Proofs.Ytgcgajeagdaenaa.matrixApplies
