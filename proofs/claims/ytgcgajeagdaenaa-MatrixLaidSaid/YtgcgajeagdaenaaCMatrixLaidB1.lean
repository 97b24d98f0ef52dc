/- The law MatrixLaid, proved: for every input the call returns true and each argument reads as before. -/
import Derived.WalkKit
import Derived.ProofKit
import Derived.OpenShut
import Derived.ChangeOld
import Derived.Below
import Derived.SizedLaws
import Derived.Test.YtgcgajeagdaenaaCMatrixLaidx1
import Derived.Test.YtgcgajeagdaenaaCMatrixLaidx2
import Derived.Test.YtgcgajeagdaenaaCMatrixLaidx6
import Derived.Test.YtgcgajeagdaenaaCMatrixLaidA4
import Derived.Test.YtgcgajeagdaenaaCMatrixLaidA1
import Derived.Test.YtgcgajeagdaenaaCMatrixLaidA2
import Derived.Test.YtgcgajeagdaenaaCMatrixLaidx3
import Derived.Test.YtgcgajeagdaenaaCMatrixLaidx4
import Derived.Test.YtgcgajeagdaenaaCMatrixLaidA3
import Derived.Test.YtgcgajeagdaenaaRows
namespace Go.Proofs.Ytgcgajeagdaenaa
open Go.RowKit Go.Proofs.YtgcgajeagdaenaaW.PrintWords Go.Proofs.Ytgcgajeagdaenaa.Pr
set_option linter.unusedVariables false
set_option linter.unusedSimpArgs false

theorem pu_right (r c : Int) (l : List Int) : recoupref03_Right.f r c l = some (rightB r c l.length) := by
  unfold recoupref03_Right.f rightB
  by_cases h1 : r ≥ 0
  · rw [if_pos h1]
    by_cases h2 : r ≤ 64
    · rw [if_pos h2]
      by_cases h3 : c ≥ 0
      · rw [if_pos h3]
        by_cases h4 : c ≤ 64
        · rw [if_pos h4]
          have b := prod_bd h1 h2 h3 h4
          rw [w64 (by omega) (by omega)]
          congr 1
          rw [Bool.eq_iff_iff, beq_iff_eq, decide_eq_true_eq]
          exact ⟨fun h => ⟨⟨h1, h2⟩, ⟨h3, h4⟩, h⟩, fun h => h.2.2⟩
        · rw [if_neg h4]; congr 1; exact (decide_eq_false (fun h => h4 h.2.1.2)).symm
      · rw [if_neg h3]; congr 1; exact (decide_eq_false (fun h => h3 h.2.1.1)).symm
    · rw [if_neg h2]; congr 1; exact (decide_eq_false (fun h => h2 h.1.2)).symm
  · rw [if_neg h1]; congr 1; exact (decide_eq_false (fun h => h1 h.1.1)).symm
theorem pu_at {r : Int} {c i j : Nat} {xs : List UInt8} (h : i * c + j < xs.length) (hb : i * c + j ≤ 9223372036854775807) : recoupref03_At.f r (c : Int) (nI xs) (i : Int) (j : Int) = some ((xs.getD (i * c + j) 0).toNat : Int) := by
  unfold recoupref03_At.f
  rw [w64_place hb, if_pos (by omega), if_pos (by rw [nI_length]; omega), rd_nI]
theorem pu_mul8 (a b : UInt8) : recoupref01_Mul.f (a.toNat : Int) (b.toNat : Int) = some ((Gf.mul a b).toNat : Int) := by
  unfold recoupref01_Mul.f
  rw [byteB_nat, byteB_nat, toU_nat, toU_nat]
  rfl
theorem pu_zero {r c : Nat} (h : r * c ≤ 281474976710656) : recoupref03_Zero.f (r : Int) (c : Int) = some ((r : Int), (c : Int), nI (List.replicate (r * c) 0)) := by
  unfold recoupref03_Zero.f
  rw [w64_mul (by omega), if_pos (by omega), Int.toNat_natCast, if_pos h, nI_rep]
section
variable {ra ca cb : Nat} {xs ys : List UInt8}
theorem pu_mul_l2 (hra : ra ≤ 64) (hca : ca ≤ 64) (hcb : cb ≤ 64) (hx : xs.length = ra * ca) (hy : ys.length = ca * cb) {i j : Nat} (hi : i < ra) (hj : j < cb) {r : Int × Int × List Int × Int}
    (hr : Ev (fun k => recoupref03_Mul.l1 k (i : Int) ((j + 1 : Nat) : Int) ra ca (nI xs) ca cb (nI ys) ra cb (nI (fillT ra cb (mulF ca cb xs ys) i (j + 1)))) r) :
    ∀ d q, q + d = ca → Ev (fun k => recoupref03_Mul.l2 k (i : Int) (j : Int) (q : Int) ra ca (nI xs) ca cb (nI ys) ra cb (nI ((fillT ra cb (mulF ca cb xs ys) i j).set (i * cb + j) (sumF q fun t => Gf.mul (xs.getD (i * ca + t) 0) (ys.getD (t * cb + j) 0))))) r := by
  have hp := place_lt hi hj
  have hpb : ra * cb ≤ 64 * 64 := Nat.mul_le_mul hra hcb
  have hab : ra * ca ≤ 64 * 64 := Nat.mul_le_mul hra hca
  have hbb : ca * cb ≤ 64 * 64 := Nat.mul_le_mul hca hcb
  intro d
  induction d with
  | zero =>
    intro q hq
    obtain rfl : q = ca := by omega
    refine Ev.step (fun k => ?_) hr
    rw [recoupref03_Mul.l2, if_neg (by omega), w64_succ (by omega)]
    have e := fillT_set (R := ra) (C := cb) (mulF q cb xs ys) hi hj
    rw [← e]
    rfl
  | succ d ih =>
    intro q hq
    refine Ev.step (fun k => ?_) (ih (q + 1) (by omega))
    have h1 := place_lt hi (show q < ca by omega)
    have h2 := place_lt (show q < ca by omega) hj
    rw [recoupref03_Mul.l2, if_pos (by omega), w64_place (by omega), if_pos (by omega), if_pos (by rw [nI_length, List.length_set, fillT_length]; omega),
      pu_at (by omega) (by omega), Option.bind_some, pu_at (by omega) (by omega), Option.bind_some, pu_mul8, Option.bind_some, w64_succ (by omega), Int.toNat_natCast, rd_nI,
      getD_set_same _ _ _ (by rw [fillT_length]; omega), add_xor, nI_set, List.set_set]
    rfl
theorem pu_mul_l1 (hra : ra ≤ 64) (hca : ca ≤ 64) (hcb : cb ≤ 64) (hx : xs.length = ra * ca) (hy : ys.length = ca * cb) {i : Nat} (hi : i < ra) {r : Int × Int × List Int × Int}
    (hr : Ev (fun k => recoupref03_Mul.l0 k ((i + 1 : Nat) : Int) ra ca (nI xs) ca cb (nI ys) ra cb (nI (fillT ra cb (mulF ca cb xs ys) (i + 1) 0))) r) :
    ∀ d j, j + d = cb → Ev (fun k => recoupref03_Mul.l1 k (i : Int) (j : Int) ra ca (nI xs) ca cb (nI ys) ra cb (nI (fillT ra cb (mulF ca cb xs ys) i j))) r := by
  intro d
  induction d with
  | zero =>
    intro j hj
    obtain rfl : j = cb := by omega
    refine Ev.step (fun k => ?_) hr
    rw [recoupref03_Mul.l1, if_neg (by omega), w64_succ (by omega), fillT_next]
  | succ d ih =>
    intro j hj
    have h0 := pu_mul_l2 hra hca hcb hx hy hi (show j < cb by omega) (ih (j + 1) (by omega)) ca 0 (by omega)
    refine Ev.step (fun k => ?_) h0
    rw [recoupref03_Mul.l1, if_pos (by omega)]
    have e := fillT_at (R := ra) (C := cb) (mulF ca cb xs ys) hi (show j < cb by omega)
    simp only [sumF]
    rw [e]
    rfl
theorem pu_mul_l0 (hra : ra ≤ 64) (hca : ca ≤ 64) (hcb : cb ≤ 64) (hx : xs.length = ra * ca) (hy : ys.length = ca * cb) :
    ∀ d i, i + d = ra → Ev (fun k => recoupref03_Mul.l0 k (i : Int) ra ca (nI xs) ca cb (nI ys) ra cb (nI (fillT ra cb (mulF ca cb xs ys) i 0))) ((ra : Int), (cb : Int), nI (mulG ra ca cb xs ys), 0) := by
  intro d
  induction d with
  | zero =>
    intro i hi
    obtain rfl : i = ra := by omega
    refine Ev.step (fun k => ?_) (Ev.now _)
    rw [recoupref03_Mul.l0, if_neg (by omega), fillT_end]
    rfl
  | succ d ih =>
    intro i hi
    have h0 := pu_mul_l1 hra hca hcb hx hy (show i < ra by omega) (ih (i + 1) (by omega)) cb 0 (by omega)
    refine Ev.step (fun k => ?_) h0
    rw [recoupref03_Mul.l0, if_pos (by omega)]
    rfl
end
/-- the document's Mul -/
theorem pu_mul (ra ca rb cb : Int) (xs ys : List UInt8) :
    Ev (fun k => recoupref03_Mul.f k ra ca (nI xs) rb cb (nI ys)) (if mulB ra ca xs.length rb cb ys.length = true then (ra, cb, nI (mulG ra.toNat ca.toNat cb.toNat xs ys), 0) else (0, 0, [], 3)) := by
  unfold recoupref03_Mul.f
  simp only [pu_right, nI_length, Option.bind_some]
  by_cases h1 : rightB ra ca xs.length = true
  · by_cases h2 : rightB rb cb ys.length = true
    · simp only [h1, h2, if_true]
      by_cases h3 : ca = rb
      · have hm : mulB ra ca xs.length rb cb ys.length = true := by unfold mulB; rw [h1, h2]; simp [h3]
        rw [if_pos hm]
        obtain ⟨a, b, c, rfl, rfl, rfl, rfl, k1, k2, k3, k4, k5⟩ := mulB_natW hm
        have hpb : a * c ≤ 64 * 64 := Nat.mul_le_mul k1 k3
        have h0 := pu_mul_l0 k1 k2 k3 k4 k5 a 0 (by omega)
        refine Ev.step (fun k => ?_) h0
        rw [recoupref03_Mul.j0, if_neg (by simp), pu_zero (by omega), Option.bind_some, fillT_start a c (mulF b c xs ys)]
        rfl
      · have hm : ¬ mulB ra ca xs.length rb cb ys.length = true := by simp [mulB, h3]
        rw [if_neg hm]
        refine Ev.step (fun k => ?_) (Ev.now _)
        rw [recoupref03_Mul.j0, if_pos (by simpa using h3)]
    · have hm : ¬ mulB ra ca xs.length rb cb ys.length = true := by simp [mulB, h2]
      simp only [h1, h2, if_true, Bool.false_eq_true, if_false]
      rw [if_neg hm]
      refine Ev.step (fun k => ?_) (Ev.now _)
      rw [recoupref03_Mul.j0, if_pos rfl]
  · have hm : ¬ mulB ra ca xs.length rb cb ys.length = true := by simp [mulB, h1]
    simp only [h1, Bool.false_eq_true, if_false]
    rw [if_neg hm]
    refine Ev.step (fun k => ?_) (Ev.now _)
    rw [recoupref03_Mul.j0, if_pos rfl]
end Go.Proofs.Ytgcgajeagdaenaa
namespace Go.Proofs.Ytgcgajeagdaenaa
open Go.RowKit Go.Proofs.YtgcgajeagdaenaaW.PrintWords Go.Proofs.Ytgcgajeagdaenaa.Pr
set_option linter.unusedVariables false
set_option linter.unusedSimpArgs false

section
variable {r c : Nat} {xs : List UInt8}
theorem pu_tr_l1 (hr : r ≤ 64) (hc : c ≤ 64) (hx : xs.length = r * c) {j : Nat} (hj : j < c) {R : Int × Int × List Int × Int}
    (h : Ev (fun k => recoupref03_Transpose.l0 k ((j + 1 : Nat) : Int) r c (nI xs) c r (nI ((turnD r c xs).take ((j + 1) * r)))) R) :
    ∀ d i, i + d = r → Ev (fun k => recoupref03_Transpose.l1 k (j : Int) (i : Int) r c (nI xs) c r (nI ((turnD r c xs).take (j * r + i)))) R := by
  have hb : c * r ≤ 64 * 64 := Nat.mul_le_mul hc hr
  have hb2 : r * c ≤ 64 * 64 := Nat.mul_le_mul hr hc
  intro d
  induction d with
  | zero =>
    intro i hi
    obtain rfl : i = r := by omega
    refine Ev.step (fun k => ?_) h
    rw [recoupref03_Transpose.l1, if_neg (by omega), w64_succ (by omega), Nat.add_mul, Nat.one_mul]
  | succ d ih =>
    intro i hi
    refine Ev.step (fun k => ?_) (ih (i + 1) (by omega))
    have h1 := place_lt (show i < r by omega) hj
    have h2 := place_lt hj (show i < r by omega)
    have e := grid_take (turnF c xs) hj (show i < r by omega)
    have e2 : turnF c xs j i = xs.getD (i * c + j) 0 := rfl
    rw [recoupref03_Transpose.l1, if_pos (by omega), pu_at (by omega) (by omega), Option.bind_some, if_pos (by rw [nI_length, List.length_take]; omega), w64_succ (by omega), nI_snoc, ← e2]
    unfold turnD
    rw [e]
    rfl
theorem pu_tr_l0 (hr : r ≤ 64) (hc : c ≤ 64) (hx : xs.length = r * c) :
    ∀ d j, j + d = c → Ev (fun k => recoupref03_Transpose.l0 k (j : Int) r c (nI xs) c r (nI ((turnD r c xs).take (j * r)))) ((c : Int), (r : Int), nI (turnD r c xs), 0) := by
  intro d
  induction d with
  | zero =>
    intro j hj
    obtain rfl : j = c := by omega
    refine Ev.step (fun k => ?_) (Ev.now _)
    rw [recoupref03_Transpose.l0, if_neg (by omega), List.take_of_length_le (by rw [turnD_length]; omega)]
  | succ d ih =>
    intro j hj
    have h0 := pu_tr_l1 hr hc hx (show j < c by omega) (ih (j + 1) (by omega)) r 0 (by omega)
    refine Ev.step (fun k => ?_) h0
    rw [recoupref03_Transpose.l0, if_pos (by omega), Nat.add_zero]
    rfl
end
theorem pu_trans (a0 a1 : Int) (xs : List UInt8) :
    Ev (fun k => recoupref03_Transpose.f k a0 a1 (nI xs)) (if rightB a0 a1 xs.length = true then (a1, a0, nI (turnD a0.toNat a1.toNat xs), 0) else (0, 0, [], 3)) := by
  unfold recoupref03_Transpose.f
  simp only [pu_right, nI_length, Option.bind_some]
  by_cases h1 : rightB a0 a1 xs.length = true
  · simp only [h1, if_true]
    obtain ⟨a, b, rfl, rfl, k1, k2, k3⟩ := right_natW h1
    have h0 := pu_tr_l0 k1 k2 k3 b 0 (by omega)
    rw [Nat.zero_mul, List.take_zero] at h0
    exact h0
  · simp only [h1, Bool.false_eq_true, if_false]
    exact Ev.now _
theorem pu_copy (xs : List UInt8) (h : xs.length < 140737488355328) : recoupref01_Copy.f (nI xs) = some (nI xs) := by
  unfold recoupref01_Copy.f
  rw [Option.bind_some, if_pos (by rw [nI_length]; simpa using h), List.nil_append]
theorem pu_stack (a0 a1 b0 b1 : Int) (xs ys : List UInt8) :
    Ev (fun k => recoupref03_Stack.f k a0 a1 (nI xs) b0 b1 (nI ys)) (if stackE a0 a1 xs.length b0 b1 ys.length = 0 then (a0 + b0, a1, nI xs ++ nI ys, 0) else (0, 0, [], stackE a0 a1 xs.length b0 b1 ys.length)) := by
  unfold recoupref03_Stack.f
  simp only [pu_right, nI_length, Option.bind_some]
  by_cases h1 : rightB a0 a1 xs.length = true
  · by_cases h2 : rightB b0 b1 ys.length = true
    · simp only [h1, h2, if_true]
      by_cases h3 : a1 = b1
      · obtain ⟨a, b, rfl, rfl, k1, k2, k3⟩ := right_natW h1
        obtain ⟨a', b', rfl, k4, k5, k6, k7⟩ := right_natW h2
        have hb : xs.length ≤ 64 * 64 := by rw [k3]; exact Nat.mul_le_mul k1 k2
        have hb2 : ys.length ≤ 64 * 64 := by rw [k7]; exact Nat.mul_le_mul k5 k6
        by_cases h4 : (a : Int) + (a' : Int) ≤ 64
        · have hE : stackE a b xs.length a' b1 ys.length = 0 := by unfold stackE; rw [h1, h2]; simp [h3, h4]
          rw [if_pos hE]
          refine Ev.step (fun k => ?_) (Ev.now _)
          rw [recoupref03_Stack.j0, if_neg (by simp [h3]), w64 (by omega) (by omega), if_neg (by omega), pu_copy xs (by omega), Option.bind_some, if_pos (by rw [nI_length, nI_length]; omega)]
        · have hE : stackE a b xs.length a' b1 ys.length = 4 := by unfold stackE; rw [h1, h2]; simp [h3, h4]
          rw [hE, if_neg (by omega)]
          refine Ev.step (fun k => ?_) (Ev.now _)
          rw [recoupref03_Stack.j0, if_neg (by simp [h3]), w64 (by omega) (by omega), if_pos (by omega)]
      · have hE : stackE a0 a1 xs.length b0 b1 ys.length = 3 := by unfold stackE; rw [h1, h2]; simp [h3]
        rw [hE, if_neg (by omega)]
        refine Ev.step (fun k => ?_) (Ev.now _)
        rw [recoupref03_Stack.j0, if_pos (by simpa using h3)]
    · have hE : stackE a0 a1 xs.length b0 b1 ys.length = 3 := by unfold stackE; simp [h2]
      simp only [h1, h2, if_true, Bool.false_eq_true, if_false]
      rw [hE, if_neg (by omega)]
      refine Ev.step (fun k => ?_) (Ev.now _)
      rw [recoupref03_Stack.j0, if_pos rfl]
  · have hE : stackE a0 a1 xs.length b0 b1 ys.length = 3 := by unfold stackE; simp [h1]
    simp only [h1, Bool.false_eq_true, if_false]
    rw [hE, if_neg (by omega)]
    refine Ev.step (fun k => ?_) (Ev.now _)
    rw [recoupref03_Stack.j0, if_pos rfl]
section
variable {ra ca rb cb R C : Nat} {xs ys : List UInt8}
set_option maxHeartbeats 800000 in
theorem pu_kr_l1 (hR : R ≤ 64) (hC : C ≤ 64) (eR : R = ra * rb) (eC : C = ca * cb) (ha : ra ≤ 64) (hca : ca ≤ 64) (hrb : rb ≤ 64) (hcb : cb ≤ 64) (hx : xs.length = ra * ca) (hy : ys.length = rb * cb) {i : Nat} (hi : i < R) {T : Int × Int × List Int × Int}
    (h : Ev (fun k => recoupref03_Kron.l0 k ((i + 1 : Nat) : Int) ra ca (nI xs) rb cb (nI ys) R C (nI (fillT R C (kronF rb cb ca xs ys) (i + 1) 0))) T) :
    ∀ d j, j + d = C → Ev (fun k => recoupref03_Kron.l1 k (i : Int) (j : Int) ra ca (nI xs) rb cb (nI ys) R C (nI (fillT R C (kronF rb cb ca xs ys) i j))) T := by
  have hb : R * C ≤ 64 * 64 := Nat.mul_le_mul hR hC
  have hba : ra * ca ≤ 64 * 64 := Nat.mul_le_mul ha hca
  have hbb : rb * cb ≤ 64 * 64 := Nat.mul_le_mul hrb hcb
  intro d
  induction d with
  | zero =>
    intro j hj
    obtain rfl : j = C := by omega
    refine Ev.step (fun k => ?_) h
    rw [recoupref03_Kron.l1, if_neg (by omega), w64_succ (by omega), fillT_next]
  | succ d ih =>
    intro j hj
    refine Ev.step (fun k => ?_) (ih (j + 1) (by omega))
    have hjC : j < C := by omega
    have hrb0 : 0 < rb := pos_right (show i < ra * rb by omega)
    have hcb0 : 0 < cb := pos_right (show j < ca * cb by omega)
    have q1 : i / rb < ra := (Nat.div_lt_iff_lt_mul hrb0).2 (by omega)
    have q2 : j / cb < ca := (Nat.div_lt_iff_lt_mul hcb0).2 (by omega)
    have q3 : i % rb < rb := Nat.mod_lt _ hrb0
    have q4 : j % cb < cb := Nat.mod_lt _ hcb0
    have p1 := place_lt q1 q2
    have p2 := place_lt q3 q4
    have p3 := place_lt hi hjC
    have t1 : wrap64 (Int.tdiv (i : Int) (rb : Int)) = ((i / rb : Nat) : Int) := by rw [← Int.ofNat_tdiv, w64_nat (Nat.le_trans (Nat.le_of_lt q1) (by omega))]
    have t2 : wrap64 (Int.tdiv (j : Int) (cb : Int)) = ((j / cb : Nat) : Int) := by rw [← Int.ofNat_tdiv, w64_nat (Nat.le_trans (Nat.le_of_lt q2) (by omega))]
    have t3 : Int.tmod (i : Int) (rb : Int) = ((i % rb : Nat) : Int) := (Int.ofNat_tmod i rb).symm
    have t4 : Int.tmod (j : Int) (cb : Int) = ((j % cb : Nat) : Int) := (Int.ofNat_tmod j cb).symm
    have e := fillT_set (R := R) (C := C) (kronF rb cb ca xs ys) hi hjC
    have A1 := pu_at (r := (ra : Int)) (c := ca) (i := i / rb) (j := j / cb) (xs := xs) (by rw [hx]; exact p1) (Nat.le_trans (Nat.le_of_lt p1) (by omega))
    have A2 := pu_at (r := (rb : Int)) (c := cb) (i := i % rb) (j := j % cb) (xs := ys) (by rw [hy]; exact p2) (Nat.le_trans (Nat.le_of_lt p2) (by omega))
    rw [recoupref03_Kron.l1, if_pos (by omega), if_neg (by omega), if_neg (by omega), t1, t2, t3, t4, A1, Option.bind_some, A2, Option.bind_some, pu_mul8, Option.bind_some]
    clear t1 t2 t3 t4 A1 A2 q1 q2 q3 q4 p1 p2
    rw [w64_place (by omega), if_pos (by omega), if_pos (by rw [nI_length, fillT_length]; omega), w64_succ (by omega), Int.toNat_natCast, nI_set, ← e]
    rfl
theorem pu_kr_l0 (hR : R ≤ 64) (hC : C ≤ 64) (eR : R = ra * rb) (eC : C = ca * cb) (ha : ra ≤ 64) (hca : ca ≤ 64) (hrb : rb ≤ 64) (hcb : cb ≤ 64) (hx : xs.length = ra * ca) (hy : ys.length = rb * cb) :
    ∀ d i, i + d = R → Ev (fun k => recoupref03_Kron.l0 k (i : Int) ra ca (nI xs) rb cb (nI ys) R C (nI (fillT R C (kronF rb cb ca xs ys) i 0))) ((R : Int), (C : Int), nI (gridD R C (kronF rb cb ca xs ys)), 0) := by
  intro d
  induction d with
  | zero =>
    intro i hi
    obtain rfl : i = R := by omega
    refine Ev.step (fun k => ?_) (Ev.now _)
    rw [recoupref03_Kron.l0, if_neg (by omega), fillT_end]
  | succ d ih =>
    intro i hi
    have h0 := pu_kr_l1 hR hC eR eC ha hca hrb hcb hx hy (show i < R by omega) (ih (i + 1) (by omega)) C 0 (by omega)
    refine Ev.step (fun k => ?_) h0
    rw [recoupref03_Kron.l0, if_pos (by omega)]
    rfl
end
theorem pu_kron (a0 a1 b0 b1 : Int) (xs ys : List UInt8) :
    Ev (fun k => recoupref03_Kron.f k a0 a1 (nI xs) b0 b1 (nI ys)) (if kronE a0 a1 xs.length b0 b1 ys.length = 0 then (a0 * b0, a1 * b1, nI (kronD a0.toNat a1.toNat b0.toNat b1.toNat xs ys), 0) else (0, 0, [], kronE a0 a1 xs.length b0 b1 ys.length)) := by
  unfold recoupref03_Kron.f
  simp only [pu_right, nI_length, Option.bind_some]
  by_cases h1 : rightB a0 a1 xs.length = true
  · by_cases h2 : rightB b0 b1 ys.length = true
    · simp only [h1, h2, if_true, Bool.not_true]
      obtain ⟨a, b, rfl, rfl, k1, k2, k3⟩ := right_natW h1
      obtain ⟨a', b', rfl, rfl, k5, k6, k7⟩ := right_natW h2
      have q1 : a * a' ≤ 64 * 64 := Nat.mul_le_mul k1 k5
      have q2 : b * b' ≤ 64 * 64 := Nat.mul_le_mul k2 k6
      have hE : kronE a b xs.length a' b' ys.length = if a * a' ≤ 64 ∧ b * b' ≤ 64 then 0 else 4 := by
        unfold kronE
        rw [h1, h2]
        simp only [Bool.and_self, if_true]
        by_cases h : a * a' ≤ 64 ∧ b * b' ≤ 64
        · rw [if_pos h, if_pos (by rw [← Int.natCast_mul, ← Int.natCast_mul]; omega)]
        · rw [if_neg h, if_neg (by rw [← Int.natCast_mul, ← Int.natCast_mul]; omega)]
      rw [hE]
      by_cases h3 : a * a' ≤ 64
      · by_cases h4 : b * b' ≤ 64
        · rw [if_pos (show a * a' ≤ 64 ∧ b * b' ≤ 64 from ⟨h3, h4⟩), if_pos rfl]
          have h0 := pu_kr_l0 (R := a * a') (C := b * b') h3 h4 rfl rfl k1 k2 k5 k6 k3 k7 (a * a') 0 (by omega)
          have hpb : a * a' * (b * b') ≤ 64 * 64 := Nat.mul_le_mul h3 h4
          refine Ev.step (fun k => ?_) (Ev.step (f := fun k => recoupref03_Kron.l0 k ((0 : Nat) : Int) a b (nI xs) a' b' (nI ys) ((a * a' : Nat) : Int) ((b * b' : Nat) : Int) (nI (fillT (a * a') (b * b') (kronF a' b' b xs ys) 0 0))) (g := fun k => recoupref03_Kron.j1 k false a b (nI xs) a' b' (nI ys)) (fun k => ?_) ?_)
          · rw [recoupref03_Kron.j0, if_neg (by simp), w64_mul (by omega), if_neg (by omega), w64_mul (by omega)]
            rw [decide_eq_false (by omega)]
          · rw [recoupref03_Kron.j1, if_neg (by simp), w64_mul (by omega), w64_mul (by omega), pu_zero (by omega), Option.bind_some, fillT_start (a * a') (b * b') (kronF a' b' b xs ys)]
            rfl
          · rw [← Int.natCast_mul, ← Int.natCast_mul]
            exact h0
        · rw [if_neg (by omega), if_neg (by omega)]
          refine Ev.step (fun k => ?_) (Ev.step (f := fun k => some ((0 : Int), (0 : Int), ([] : List Int), (4 : Int))) (g := fun k => recoupref03_Kron.j1 k true a b (nI xs) a' b' (nI ys)) (fun k => ?_) (Ev.now _))
          · rw [recoupref03_Kron.j0, if_neg (by simp), w64_mul (by omega), if_neg (by omega), w64_mul (by omega)]
            rw [decide_eq_true (by omega)]
          · rw [recoupref03_Kron.j1, if_pos rfl]
      · rw [if_neg (by omega), if_neg (by omega)]
        refine Ev.step (fun k => ?_) (Ev.step (f := fun k => some ((0 : Int), (0 : Int), ([] : List Int), (4 : Int))) (g := fun k => recoupref03_Kron.j1 k true a b (nI xs) a' b' (nI ys)) (fun k => ?_) (Ev.now _))
        · rw [recoupref03_Kron.j0, if_neg (by simp), w64_mul (by omega), if_pos (by omega)]
        · rw [recoupref03_Kron.j1, if_pos rfl]
    · have hE : kronE a0 a1 xs.length b0 b1 ys.length = 3 := by unfold kronE; simp [h2]
      have h2' : rightB b0 b1 ys.length = false := by simpa using h2
      simp only [h1, h2', if_true, Bool.not_false]
      rw [hE, if_neg (by omega)]
      refine Ev.step (fun k => ?_) (Ev.now _)
      rw [recoupref03_Kron.j0, if_pos rfl]
  · have hE : kronE a0 a1 xs.length b0 b1 ys.length = 3 := by unfold kronE; simp [h1]
    simp only [h1, Bool.false_eq_true, if_false]
    rw [hE, if_neg (by omega)]
    refine Ev.step (fun k => ?_) (Ev.now _)
    rw [recoupref03_Kron.j0, if_pos rfl]
end Go.Proofs.Ytgcgajeagdaenaa
namespace Go.Proofs.Ytgcgajeagdaenaa
open Go.RowKit Go.Proofs.YtgcgajeagdaenaaW.PrintWords Go.Proofs.Ytgcgajeagdaenaa.Pr
set_option linter.unusedVariables false
set_option linter.unusedSimpArgs false

theorem g_trans (a0 a1 : Int) (xs : List UInt8) : matrix_Transpose.f a0 a1 (nI xs) = some (if rightB a0 a1 xs.length = true then (a1, a0, nI (turnD a0.toNat a1.toNat xs), 0) else (0, 0, [], 3)) := by
  unfold matrix_Transpose.f
  rw [inU_nI, nI_length, nI_toU]
  simp only [if_true]
  split <;> rfl
theorem g_stack (a0 a1 : Int) (xs : List UInt8) (b0 b1 : Int) (ys : List UInt8) : matrix_Stack.f a0 a1 (nI xs) b0 b1 (nI ys) = some (if stackE a0 a1 xs.length b0 b1 ys.length = 0 then (a0 + b0, a1, nI xs ++ nI ys, 0) else (0, 0, [], stackE a0 a1 xs.length b0 b1 ys.length)) := by
  unfold matrix_Stack.f
  rw [inU_nI, inU_nI, nI_length, nI_length]
  simp only [Bool.and_self, if_true]
  split <;> rfl
theorem g_kron (a0 a1 : Int) (xs : List UInt8) (b0 b1 : Int) (ys : List UInt8) : matrix_Kron.f a0 a1 (nI xs) b0 b1 (nI ys) = some (if kronE a0 a1 xs.length b0 b1 ys.length = 0 then (a0 * b0, a1 * b1, nI (kronD a0.toNat a1.toNat b0.toNat b1.toNat xs ys), 0) else (0, 0, [], kronE a0 a1 xs.length b0 b1 ys.length)) := by
  unfold matrix_Kron.f
  rw [inU_nI, inU_nI, nI_length, nI_length, nI_toU, nI_toU]
  simp only [Bool.and_self, if_true]
  split <;> rfl
theorem laid_same (l : List Int) : recoupref01_Same.f l l = some true := by
  unfold recoupref01_Same.f
  rw [beq_self_eq_true]
theorem laid_like3 (r c : Int) (l : List Int) : recoupref03_Like.f r c l r c l = some true := by
  unfold recoupref03_Like.f
  rw [if_pos rfl, if_pos rfl, laid_same]
  rfl
theorem laid_like (r c : Int) (l : List Int) (e : Int) : recouplaw03_like.f r c l e r c l e = some true := by
  unfold recouplaw03_like.f
  rw [if_pos rfl, laid_like3]
  rfl
theorem laid_pure (a0 a1 : Int) (xs : List UInt8) (b0 b1 : Int) (ys : List UInt8) : ∃ k, recouplaw03_MatrixLaid.f k a0 a1 (nI xs) b0 b1 (nI ys) = some true := by
  refine Ev.rounds ?_
  unfold recouplaw03_MatrixLaid.f
  simp only [g_trans, g_stack, g_kron, Option.bind_some]
  refine Ev.bind (pu_trans a0 a1 xs) ?_
  refine Ev.bind (pu_stack a0 a1 b0 b1 xs ys) ?_
  refine Ev.bind (pu_kron a0 a1 b0 b1 xs ys) ?_
  simp only [laid_like, Option.bind_some, if_true]
  exact Ev.now _
theorem matrixLaid_calls (ra ca : Int) (A : Option Addr) (na ka : Nat) (xs : List UInt8) (rb cb : Int) (B : Option Addr) (nb kb : Nat) (ys : List UInt8) (w : World)
    (b1 : -9223372036854775808 ≤ ra ∧ ra ≤ 9223372036854775807) (b2 : -9223372036854775808 ≤ ca ∧ ca ≤ 9223372036854775807) (rx : Rd w w.heap.size A na (bVs xs)) (lx : na ≤ ka) (kx : ka ≤ 140737488351232)
    (b3 : -9223372036854775808 ≤ rb ∧ rb ≤ 9223372036854775807) (b4 : -9223372036854775808 ≤ cb ∧ cb ≤ 9223372036854775807) (ry : Rd w w.heap.size B nb (bVs ys)) (ly : nb ≤ kb) (ky : kb ≤ 140737488351232) :
    Calls Try.prog 9 #[mV ra ca A na ka, mV rb cb B nb kb] w fun e w' => e = .returned (.bool true) ∧ Below w.heap.size w w' := by
  obtain rfl : xs.length = na := by have := rx.len; rw [bVs_length] at this; exact this
  obtain rfl : ys.length = nb := by have := ry.len; rw [bVs_length] at this; exact this
  obtain ⟨k, h⟩ := laid_pure ra ca xs rb cb ys
  have hc := recouplaw03_MatrixLaid.calls k ra ca A ka (nI xs) rb cb B kb (nI ys) true w (C_of_rd rx (by omega)) (by rw [nI_length]; exact lx) (C_of_rd ry (by omega)) (by rw [nI_length]; exact ly) rfl h
  rw [nI_length, nI_length] at hc
  exact hc
end Go.Proofs.Ytgcgajeagdaenaa
namespace Go.Proofs.Ytgcgajeagdaenaa.matrixLaid
open Go.ChangeShapes Go.WideShapes Go.ChangeAt Go.RowKit

set_option linter.unusedVariables false

set_option maxRecDepth 100000 in
theorem lifted (os : Os) (started : os.Started) (H : Type) (enc : TypeId × Value → H) :
    ReturnsInHanded {} Try.checked os 9 .any (Rows.matrixLaidSpec.pre6 enc Try.prog Try.f9 Rows.matrixLaidRow.domain false) (Rows.matrixLaidSpec.post enc Try.prog Try.f9 false true false false) := by
  refine returnsInHanded_of_change_sized (C := Try.checked) own_knob started (by kernel_rfl) Try.func9
    (ChangeSpec.witness6 (enc := enc) (C := Try.checked) false ⟨#[], #[.agg #[.int .i64 0, .int .i64 0, .slice none 0 0], .agg #[.int .i64 0, .int .i64 0, .slice none 0 0]], []⟩ 8 (by kernel_rfl) (by kernel_rfl) (by kernel_rfl) (by kernel_rfl)) ?_
  intro W base args ds gs before hval0 hW hcnd hsz0 _
  have hsz : (DataW.weightsEach Try.prog (Try.f9.params.toList ++ Rows.matrixLaidSpec.plain.varTypes Try.prog) (ds ++ gs)).all (· ≤ reachBytes) = true := hsz0
  have hval : ∀ (j : Nat) t v, Try.f9.params[j]? = some t → args[j]? = some v → Value.okWide Try.prog W .any base t v := hval0
  have hW' := hW
  obtain ⟨p, q, hA0, hV, rfl, hfz, hnd⟩ := hW
  have hA : DataW.TrodAll enc Try.prog W 0 (fun _ => true) true Try.f9.params.toList args.toList ds p := hA0
  rw [Try.params9] at hA hval hsz
  obtain ⟨v0, vs0, d0, ds0, p0, q0, hargs, rfl, rfl, h0, r0⟩ := trodAll_cons hA
  obtain ⟨v1, vs1, d1, ds1, p1, q1, rfl, rfl, rfl, h1, r1⟩ := trodAll_cons r0
  obtain ⟨rfl, rfl, rfl⟩ := trodAll_nil r1
  obtain rfl : args = #[v0, v1] := by cases args; simp_all
  obtain ⟨rfl, rfl⟩ := trodVars_none hV
  have k0 := h0
  have lt0 : ∀ x ∈ p0, x.block < W.heap.size := by obtain ⟨m, hm⟩ := k0; exact DataW.trod_lt m _ _ _ hm
  have k1 := h1
  have lt1 : ∀ x ∈ p1, x.block < W.heap.size := by obtain ⟨m, hm⟩ := k1; exact DataW.trod_lt m _ _ _ hm
  obtain ⟨mr0, mc0, a0, n0, cap0, x0, dd0, rfl, wr0, wc0, rd0, lc0, cm0, rfl, sz0⟩ := open_matrix (hval 0 24 v0 rfl rfl) h0
  have cr0 := sized_matrix hsz (j := 0) rfl rfl sz0
  obtain ⟨mr1, mc1, a1, n1, cap1, x1, dd1, rfl, wr1, wc1, rd1, lc1, cm1, rfl, sz1⟩ := open_matrix (hval 1 24 v1 rfl rfl) h1
  have cr1 := sized_matrix hsz (j := 1) rfl rfl sz1
  clear hA0 hval0 hsz0
  refine (matrixLaid_calls mr0 mc0 a0 n0 cap0 x0 mr1 mc1 a1 n1 cap1 x1 W (bounds_i64 wr0) (bounds_i64 wc0) rd0 lc0 cr0 (bounds_i64 wr1) (bounds_i64 wc1) rd1 lc1 cr1).mono fun e W' ⟨he, bel⟩ => ?_
  subst he
  exact ⟨_, rfl, _, _, _, [], _, [], hW', trodAll_mk1 (shut_bool Try.underlying4 _), (trodAll_cons_mk (Below.trod laid_out (by kernel_rfl) (of_decide_eq_true (by kernel_rfl)) k0 bel lt0) (trodAll_cons_mk (Below.trod laid_out (by kernel_rfl) (of_decide_eq_true (by kernel_rfl)) k1 bel lt1) trodAll_mk0)), rfl, bel.frame _, fun h => by cases h⟩

theorem over : Rows.matrixLaidRow.holds Try.pinned (OpenSpec.ofChange Rows.matrixLaidSpec) :=
  OpenClaim.holds_of_wide 9 Try.f9 rfl rfl rfl rfl rfl rfl rfl ⟨rfl, rfl, rfl, rfl, rfl⟩ rfl rfl rfl rfl rfl (by kernel_rfl) Try.func9 (by kernel_rfl)
    (of_decide_eq_true (by kernel_rfl)) (by unfold Func.isWrapper; first | (rw [if_pos (by decide +kernel)]; kernel_rfl) | (rw [if_neg (by decide +kernel)]; exact ⟨rfl, rfl⟩))
    (fun os started H enc _ => lifted os started H enc)

theorem proved : Rows.MatrixLaidSaid := over
#print axioms proved
end Go.Proofs.Ytgcgajeagdaenaa.matrixLaid
