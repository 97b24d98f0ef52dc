/- The law MatrixFresh, proved: for every input the call returns true and each argument reads as before. -/
import Derived.Deep.CutRange
import Derived.Deep.Cut
import Derived.Deep.RegionHeld3
import Derived.WalkKit
import Derived.ProofKit
import Derived.OpenShut
import Derived.ChangeOld
import Derived.Below
import Derived.SizedLaws
import Derived.Test.YtgcgajeagdaenaaCMatrixFreshx1
import Derived.Test.YtgcgajeagdaenaaCMatrixFreshx3
import Derived.Test.YtgcgajeagdaenaaCMatrixFreshx4
import Derived.Test.YtgcgajeagdaenaaCMatrixFreshx5
import Derived.Test.YtgcgajeagdaenaaCMatrixFreshA1
import Derived.Test.YtgcgajeagdaenaaCMatrixFreshA2
import Derived.Test.YtgcgajeagdaenaaCMatrixFreshA3
import Derived.Test.YtgcgajeagdaenaaCMatrixFreshA4
import Derived.Test.YtgcgajeagdaenaaRows
namespace Go.Proofs.Ytgcgajeagdaenaa
open Go.RowKit Go.Proofs.YtgcgajeagdaenaaW.PrintWords Go.Proofs.Ytgcgajeagdaenaa.Pr
set_option linter.unusedVariables false
set_option linter.unusedSimpArgs false

theorem pu_right (r c : Int) (l : List Int) : recoupref03_Right.f r c l = some (rightB r c l.length) := by
  unfold recoupref03_Right.f rightB
  by_cases h1 : r ≥ 0
  · rw [if_pos h1]
    by_cases h2 : r ≤ 64
    · rw [if_pos h2]
      by_cases h3 : c ≥ 0
      · rw [if_pos h3]
        by_cases h4 : c ≤ 64
        · rw [if_pos h4]
          have b := prod_bd h1 h2 h3 h4
          rw [w64 (by omega) (by omega)]
          congr 1
          rw [Bool.eq_iff_iff, beq_iff_eq, decide_eq_true_eq]
          exact ⟨fun h => ⟨⟨h1, h2⟩, ⟨h3, h4⟩, h⟩, fun h => h.2.2⟩
        · rw [if_neg h4]; congr 1; exact (decide_eq_false (fun h => h4 h.2.1.2)).symm
      · rw [if_neg h3]; congr 1; exact (decide_eq_false (fun h => h3 h.2.1.1)).symm
    · rw [if_neg h2]; congr 1; exact (decide_eq_false (fun h => h2 h.1.2)).symm
  · rw [if_neg h1]; congr 1; exact (decide_eq_false (fun h => h1 h.1.1)).symm
theorem pu_at {r : Int} {c i j : Nat} {xs : List UInt8} (h : i * c + j < xs.length) (hb : i * c + j ≤ 9223372036854775807) : recoupref03_At.f r (c : Int) (nI xs) (i : Int) (j : Int) = some ((xs.getD (i * c + j) 0).toNat : Int) := by
  unfold recoupref03_At.f
  rw [w64_place hb, if_pos (by omega), if_pos (by rw [nI_length]; omega), rd_nI]
theorem pu_mul8 (a b : UInt8) : recoupref01_Mul.f (a.toNat : Int) (b.toNat : Int) = some ((Gf.mul a b).toNat : Int) := by
  unfold recoupref01_Mul.f
  rw [byteB_nat, byteB_nat, toU_nat, toU_nat]
  rfl
theorem pu_zero {r c : Nat} (h : r * c ≤ 281474976710656) : recoupref03_Zero.f (r : Int) (c : Int) = some ((r : Int), (c : Int), nI (List.replicate (r * c) 0)) := by
  unfold recoupref03_Zero.f
  rw [w64_mul (by omega), if_pos (by omega), Int.toNat_natCast, if_pos h, nI_rep]
section
variable {ra ca cb : Nat} {xs ys : List UInt8}
theorem pu_mul_l2 (hra : ra ≤ 64) (hca : ca ≤ 64) (hcb : cb ≤ 64) (hx : xs.length = ra * ca) (hy : ys.length = ca * cb) {i j : Nat} (hi : i < ra) (hj : j < cb) {r : Int × Int × List Int × Int}
    (hr : Ev (fun k => recoupref03_Mul.l1 k (i : Int) ((j + 1 : Nat) : Int) ra ca (nI xs) ca cb (nI ys) ra cb (nI (fillT ra cb (mulF ca cb xs ys) i (j + 1)))) r) :
    ∀ d q, q + d = ca → Ev (fun k => recoupref03_Mul.l2 k (i : Int) (j : Int) (q : Int) ra ca (nI xs) ca cb (nI ys) ra cb (nI ((fillT ra cb (mulF ca cb xs ys) i j).set (i * cb + j) (sumF q fun t => Gf.mul (xs.getD (i * ca + t) 0) (ys.getD (t * cb + j) 0))))) r := by
  have hp := place_lt hi hj
  have hpb : ra * cb ≤ 64 * 64 := Nat.mul_le_mul hra hcb
  have hab : ra * ca ≤ 64 * 64 := Nat.mul_le_mul hra hca
  have hbb : ca * cb ≤ 64 * 64 := Nat.mul_le_mul hca hcb
  intro d
  induction d with
  | zero =>
    intro q hq
    obtain rfl : q = ca := by omega
    refine Ev.step (fun k => ?_) hr
    rw [recoupref03_Mul.l2, if_neg (by omega), w64_succ (by omega)]
    have e := fillT_set (R := ra) (C := cb) (mulF q cb xs ys) hi hj
    rw [← e]
    rfl
  | succ d ih =>
    intro q hq
    refine Ev.step (fun k => ?_) (ih (q + 1) (by omega))
    have h1 := place_lt hi (show q < ca by omega)
    have h2 := place_lt (show q < ca by omega) hj
    rw [recoupref03_Mul.l2, if_pos (by omega), w64_place (by omega), if_pos (by omega), if_pos (by rw [nI_length, List.length_set, fillT_length]; omega),
      pu_at (by omega) (by omega), Option.bind_some, pu_at (by omega) (by omega), Option.bind_some, pu_mul8, Option.bind_some, w64_succ (by omega), Int.toNat_natCast, rd_nI,
      getD_set_same _ _ _ (by rw [fillT_length]; omega), add_xor, nI_set, List.set_set]
    rfl
theorem pu_mul_l1 (hra : ra ≤ 64) (hca : ca ≤ 64) (hcb : cb ≤ 64) (hx : xs.length = ra * ca) (hy : ys.length = ca * cb) {i : Nat} (hi : i < ra) {r : Int × Int × List Int × Int}
    (hr : Ev (fun k => recoupref03_Mul.l0 k ((i + 1 : Nat) : Int) ra ca (nI xs) ca cb (nI ys) ra cb (nI (fillT ra cb (mulF ca cb xs ys) (i + 1) 0))) r) :
    ∀ d j, j + d = cb → Ev (fun k => recoupref03_Mul.l1 k (i : Int) (j : Int) ra ca (nI xs) ca cb (nI ys) ra cb (nI (fillT ra cb (mulF ca cb xs ys) i j))) r := by
  intro d
  induction d with
  | zero =>
    intro j hj
    obtain rfl : j = cb := by omega
    refine Ev.step (fun k => ?_) hr
    rw [recoupref03_Mul.l1, if_neg (by omega), w64_succ (by omega), fillT_next]
  | succ d ih =>
    intro j hj
    have h0 := pu_mul_l2 hra hca hcb hx hy hi (show j < cb by omega) (ih (j + 1) (by omega)) ca 0 (by omega)
    refine Ev.step (fun k => ?_) h0
    rw [recoupref03_Mul.l1, if_pos (by omega)]
    have e := fillT_at (R := ra) (C := cb) (mulF ca cb xs ys) hi (show j < cb by omega)
    simp only [sumF]
    rw [e]
    rfl
theorem pu_mul_l0 (hra : ra ≤ 64) (hca : ca ≤ 64) (hcb : cb ≤ 64) (hx : xs.length = ra * ca) (hy : ys.length = ca * cb) :
    ∀ d i, i + d = ra → Ev (fun k => recoupref03_Mul.l0 k (i : Int) ra ca (nI xs) ca cb (nI ys) ra cb (nI (fillT ra cb (mulF ca cb xs ys) i 0))) ((ra : Int), (cb : Int), nI (mulG ra ca cb xs ys), 0) := by
  intro d
  induction d with
  | zero =>
    intro i hi
    obtain rfl : i = ra := by omega
    refine Ev.step (fun k => ?_) (Ev.now _)
    rw [recoupref03_Mul.l0, if_neg (by omega), fillT_end]
    rfl
  | succ d ih =>
    intro i hi
    have h0 := pu_mul_l1 hra hca hcb hx hy (show i < ra by omega) (ih (i + 1) (by omega)) cb 0 (by omega)
    refine Ev.step (fun k => ?_) h0
    rw [recoupref03_Mul.l0, if_pos (by omega)]
    rfl
end
/-- the document's Mul -/
theorem pu_mul (ra ca rb cb : Int) (xs ys : List UInt8) :
    Ev (fun k => recoupref03_Mul.f k ra ca (nI xs) rb cb (nI ys)) (if mulB ra ca xs.length rb cb ys.length = true then (ra, cb, nI (mulG ra.toNat ca.toNat cb.toNat xs ys), 0) else (0, 0, [], 3)) := by
  unfold recoupref03_Mul.f
  simp only [pu_right, nI_length, Option.bind_some]
  by_cases h1 : rightB ra ca xs.length = true
  · by_cases h2 : rightB rb cb ys.length = true
    · simp only [h1, h2, if_true]
      by_cases h3 : ca = rb
      · have hm : mulB ra ca xs.length rb cb ys.length = true := by unfold mulB; rw [h1, h2]; simp [h3]
        rw [if_pos hm]
        obtain ⟨a, b, c, rfl, rfl, rfl, rfl, k1, k2, k3, k4, k5⟩ := mulB_natW hm
        have hpb : a * c ≤ 64 * 64 := Nat.mul_le_mul k1 k3
        have h0 := pu_mul_l0 k1 k2 k3 k4 k5 a 0 (by omega)
        refine Ev.step (fun k => ?_) h0
        rw [recoupref03_Mul.j0, if_neg (by simp), pu_zero (by omega), Option.bind_some, fillT_start a c (mulF b c xs ys)]
        rfl
      · have hm : ¬ mulB ra ca xs.length rb cb ys.length = true := by simp [mulB, h3]
        rw [if_neg hm]
        refine Ev.step (fun k => ?_) (Ev.now _)
        rw [recoupref03_Mul.j0, if_pos (by simpa using h3)]
    · have hm : ¬ mulB ra ca xs.length rb cb ys.length = true := by simp [mulB, h2]
      simp only [h1, h2, if_true, Bool.false_eq_true, if_false]
      rw [if_neg hm]
      refine Ev.step (fun k => ?_) (Ev.now _)
      rw [recoupref03_Mul.j0, if_pos rfl]
  · have hm : ¬ mulB ra ca xs.length rb cb ys.length = true := by simp [mulB, h1]
    simp only [h1, Bool.false_eq_true, if_false]
    rw [if_neg hm]
    refine Ev.step (fun k => ?_) (Ev.now _)
    rw [recoupref03_Mul.j0, if_pos rfl]
end Go.Proofs.Ytgcgajeagdaenaa
namespace Go.Proofs.Ytgcgajeagdaenaa
open Go.RowKit Go.Proofs.YtgcgajeagdaenaaW.PrintWords Go.Proofs.Ytgcgajeagdaenaa.Pr
set_option linter.unusedVariables false
set_option linter.unusedSimpArgs false

theorem own_nilB (w : World) (base : Nat) : OwnB w base none 0 0 [] := by
  obtain ⟨A', cap', h1, h2⟩ := (OwnV.nil w base).slice' (n := 0) rfl
  cases h1
  exact h2
/-- it answers a matrix of the call's own, of at most 4096 entries, and an error -/
def OwnM (w : World) (e : Ending) (w' : World) : Prop := ∃ (R C : Int) (A : Option Addr) (n cap : Nat) (E : Int) (xs : List UInt8), e = .returned (.tuple #[mV R C A n cap, .int .i64 E]) ∧ OwnB w' w.heap.size A n cap xs ∧ Below w.heap.size w w' ∧ n ≤ 4096
theorem ownM_no {w w' : World} {e : Ending} {E : Int} (he : e = .returned (.tuple #[mV 0 0 none 0 0, .int .i64 E])) (hb : Below w.heap.size w w') : OwnM w e w' := by
  refine ⟨0, 0, none, 0, 0, E, [], he, ?_, hb, by omega⟩
  exact own_nilB w' w.heap.size
theorem tr_any (r c : Int) (A : Option Addr) (n cap : Nat) (xs : List UInt8) (w : World) (rd : Rd w w.heap.size A n (bVs xs)) (hcap : n ≤ cap) :
    Calls Try.prog 32 #[mV r c A n cap] w (OwnM w) := by
  by_cases hm : rightB r c n = true
  · obtain ⟨a, b, rfl, rfl, h1, h2, h3⟩ := right_nat hm
    have hb4 : a * b ≤ 64 * 64 := Nat.mul_le_mul h1 h2
    refine (trans_yes a b n A cap xs w h1 h2 (Lib.hid h3) rd hcap).mono ?_
    rintro e w' ⟨g, rfl, ho, hb⟩
    exact ⟨_, _, _, _, _, _, _, rfl, ho, hb, by omega⟩
  · refine (trans_no r c A n cap w (by simpa using hm)).mono ?_
    rintro e w' ⟨he, hb⟩
    exact ownM_no he hb
theorem mu_any (ra ca rb cb : Int) (A B : Option Addr) (na nb cap capb : Nat) (xs ys : List UInt8) (w : World) (hx : Rd w w.heap.size A na (bVs xs)) (hy : Rd w w.heap.size B nb (bVs ys)) (hcap : na ≤ cap) (hcapb : nb ≤ capb) :
    Calls Try.prog 29 #[mV ra ca A na cap, mV rb cb B nb capb] w (OwnM w) := by
  refine (mul_any ra ca rb cb A B na nb cap capb xs ys w hx hy hcap hcapb).mono ?_
  rintro e w' ⟨g, rfl, ho, hb⟩
  refine ⟨_, _, _, _, _, _, _, rfl, ho, hb, ?_⟩
  unfold muN
  split
  · rename_i h
    obtain ⟨a, b, c, rfl, rfl, rfl, rfl, h1, h2, h3, _⟩ := mulB_nat h
    have hb4 : a * c ≤ 64 * 64 := Nat.mul_le_mul h1 h3
    simpa using hb4
  · omega
theorem st_any (ra ca rb cb : Int) (A B : Option Addr) (na nb cap capb : Nat) (xs ys : List UInt8) (w : World) (hx : Rd w w.heap.size A na (bVs xs)) (hy : Rd w w.heap.size B nb (bVs ys)) (hcap : na ≤ cap) (hcapb : nb ≤ capb) :
    Calls Try.prog 37 #[mV ra ca A na cap, mV rb cb B nb capb] w (OwnM w) := by
  by_cases hm : stackE ra ca na rb cb nb = 0
  · unfold stackE at hm
    split at hm
    · rename_i h1
      simp only [Bool.and_eq_true, beq_iff_eq] at h1
      split at hm
      · rename_i h64
        obtain ⟨a, b, rfl, rfl, k1, k2, k3⟩ := right_nat h1.1.1
        obtain ⟨a', b', rfl, k4, k5, k6, k7⟩ := right_nat h1.1.2
        obtain rfl : b' = b := by have := h1.2; omega
        obtain rfl := k4
        have e : (a : Int) + (a' : Int) = ((a + a' : Nat) : Int) := by omega
        have lx : xs.length = na := by have := hx.len; rw [bVs_length] at this; exact this
        have ly : ys.length = nb := by have := hy.len; rw [bVs_length] at this; exact this
        refine (stack_yes a a' b' na nb (a + a') ((a + a') * b') A B cap capb xs ys w k1 k5 (by omega) k2 e (Lib.hid k3) (Lib.hid k7) (Lib.hid rfl) (Lib.hid (by rw [Nat.add_mul, k3, k7])) hx hy hcap hcapb).mono ?_
        rintro e' w' ⟨g, rfl, ho, hg, hb⟩
        have hb4 : (a + a') * b' ≤ 64 * 64 := Nat.mul_le_mul (by omega) k2
        exact ⟨_, _, _, _, _, _, _, rfl, ho.ownB hg (by rw [List.length_append, lx, ly, k3, k7, Nat.add_mul]) (by simp only [maxLen]; omega), hb, by omega⟩
      · cases hm
    · cases hm
  · refine (stack_no ra ca rb cb A B na nb cap capb _ w rfl hm).mono ?_
    rintro e w' ⟨he, hb⟩
    exact ownM_no he hb
theorem kr_any (ra ca rb cb : Int) (A B : Option Addr) (na nb cap capb : Nat) (xs ys : List UInt8) (w : World) (hx : Rd w w.heap.size A na (bVs xs)) (hy : Rd w w.heap.size B nb (bVs ys)) (hcap : na ≤ cap) (hcapb : nb ≤ capb) :
    Calls Try.prog 39 #[mV ra ca A na cap, mV rb cb B nb capb] w (OwnM w) := by
  by_cases hm : kronE ra ca na rb cb nb = 0
  · unfold kronE at hm
    split at hm
    · rename_i h1
      simp only [Bool.and_eq_true] at h1
      split at hm
      · rename_i h64
        obtain ⟨a, b, rfl, rfl, k1, k2, k3⟩ := right_nat h1.1
        obtain ⟨a', b', rfl, rfl, k5, k6, k7⟩ := right_nat h1.2
        rw [← Int.natCast_mul, ← Int.natCast_mul] at h64
        have hR : a * a' ≤ 64 := by omega
        have hC : b * b' ≤ 64 := by omega
        refine (kron_yes a b a' b' na nb (a * a') (b * b') (a * a' * (b * b')) A B cap capb xs ys w k1 k2 k5 k6 hR hC (Lib.hid rfl) (Lib.hid rfl) (Lib.hid k3) (Lib.hid k7) (Lib.hid rfl) hx hy hcap hcapb).mono ?_
        rintro e' w' ⟨g, rfl, ho, hg, hb⟩
        have hb4 : a * a' * (b * b') ≤ 64 * 64 := Nat.mul_le_mul hR hC
        exact ⟨_, _, _, _, _, _, _, rfl, ho.ownB hg (grid_length _ _ _) (by simp only [maxLen]; omega), hb, by omega⟩
      · cases hm
    · cases hm
  · refine (kron_no ra ca rb cb A B na nb cap capb _ w rfl hm).mono ?_
    rintro e w' ⟨he, hb⟩
    exact ownM_no he hb
theorem ro_any (r c : Int) (A : Option Addr) (n cap : Nat) (xs : List UInt8) (w : World) (rd : Rd w w.heap.size A n (bVs xs)) (hcap : n ≤ cap) :
    Calls Try.prog 24 #[mV r c A n cap, .int .i64 0] w fun e w' => ∃ (A' : Option Addr) (n' cap' : Nat) (E : Int) (ys : List UInt8), e = .returned (.tuple #[.slice A' n' cap', .int .i64 E]) ∧ OwnB w' w.heap.size A' n' cap' ys ∧ Below w.heap.size w w' ∧ n' ≤ 4096 := by
  by_cases hm : rowE r c n 0 = 0
  · unfold rowE at hm
    split at hm
    · rename_i hrt
      split at hm
      · rename_i hi2
        obtain ⟨a, b, rfl, rfl, h1, h2, h3⟩ := right_nat hrt
        refine (row3_yes a b n 0 A cap xs w h1 h2 (Lib.hid h3) (by omega) rd hcap).mono ?_
        rintro e w' ⟨A', cap', rfl, ho, hb⟩
        exact ⟨_, _, _, _, _, rfl, ho, hb, by omega⟩
      · cases hm
    · cases hm
  · refine (row3_no r c 0 A n cap _ w rfl hm).mono ?_
    rintro e w' ⟨rfl, hb⟩
    exact ⟨_, _, _, _, _, rfl, own_nilB w' w.heap.size, hb, by omega⟩
theorem rmul3_calls (ra ca : Int) (A : Option Addr) (na ka : Nat) (xs : List UInt8) (rb cb : Int) (B : Option Addr) (nb kb : Nat) (ys : List UInt8) (w : World)
    (rx : Rd w w.heap.size A na (bVs xs)) (lx : na ≤ ka) (kx : na ≤ 140737488355328) (ry : Rd w w.heap.size B nb (bVs ys)) (ly : nb ≤ kb) (ky : nb ≤ 140737488355328) :
    Calls Try.prog 33 #[mV ra ca A na ka, mV rb cb B nb kb] w fun e w' => ∃ g cap, e = .returned (.tuple #[mV (muR (mulB ra ca na rb cb nb) ra) (muR (mulB ra ca na rb cb nb) cb) g (muN (mulB ra ca na rb cb nb) ra cb) cap, .int .i64 (muE (mulB ra ca na rb cb nb))]) ∧
      OwnB w' w.heap.size g (muN (mulB ra ca na rb cb nb) ra cb) cap (muD (mulB ra ca na rb cb nb) ra ca cb xs ys) ∧ Below w.heap.size w w' := by
  obtain rfl : xs.length = na := by have := rx.len; rw [bVs_length] at this; exact this
  obtain rfl : ys.length = nb := by have := ry.len; rw [bVs_length] at this; exact this
  obtain ⟨k, h⟩ := (pu_mul ra ca rb cb xs ys).rounds
  have hpair : (if mulB ra ca xs.length rb cb ys.length = true then (ra, cb, nI (mulG ra.toNat ca.toNat cb.toNat xs ys), (0 : Int)) else (0, 0, [], 3)) = (muR (mulB ra ca xs.length rb cb ys.length) ra, muR (mulB ra ca xs.length rb cb ys.length) cb, nI (muD (mulB ra ca xs.length rb cb ys.length) ra ca cb xs ys), muE (mulB ra ca xs.length rb cb ys.length)) := by
    cases mulB ra ca xs.length rb cb ys.length <;> rfl
  rw [hpair] at h
  have hc := recoupref03_Mul.calls k ra ca A ka (nI xs) rb cb B kb (nI ys) _ _ _ _ w (C_of_rd rx (by omega)) (by rw [nI_length]; exact lx) (C_of_rd ry (by omega)) (by rw [nI_length]; exact ly) h
  rw [nI_length, nI_length] at hc
  refine hc.mono ?_
  rintro e w' ⟨v, rfl, hv, hb⟩
  obtain ⟨A', c', rfl, hc', ho⟩ := own_of_R hv (inU_nI _)
  rw [nI_toU] at ho
  have hlen : (muD (mulB ra ca xs.length rb cb ys.length) ra ca cb xs ys).length = muN (mulB ra ca xs.length rb cb ys.length) ra cb := by
    cases mulB ra ca xs.length rb cb ys.length
    · rfl
    · exact grid_length _ _ _
  rw [nI_length, hlen] at ho
  rw [nI_length, hlen]
  exact ⟨A', c', rfl, ho, hb⟩
theorem mcopy_calls (r c : Int) (A : Option Addr) (n cap : Nat) (xs : List UInt8) (w : World) (hr : Rd w w.heap.size A n (bVs xs)) (hn : n ≤ 140737488355328) :
    Calls Try.prog 41 #[mV r c A n cap] w fun e w' => ∃ A' cap', e = .returned (mV r c A' n cap') ∧ OwnB w' w.heap.size A' n cap' xs ∧ Below w.heap.size w w' := by
  have S := (((Ctx.start w).box [.int .i64 r, .int .i64 c, .slice A n cap]).box [.int .i64 0, .int .i64 0, .slice none 0 0])
  simp only [World.size_alloc] at S
  obtain ⟨c0, c1, c2⟩ := S.cells 1 rfl
  go_enter Try.func41, Try.ntmps41
  go_wp2_with fail
  refine (copy_own A n cap xs _ (hr.go S.below) hn).mono ?_
  rintro e w1 ⟨A', cap', rfl, ho, hb⟩
  have S1 := S.go hb
  have hl1 := S1.lt 1 rfl
  have hl0 := S1.lt 0 rfl
  have hoB := ho.mono (base' := w.heap.size) S.below.size
  obtain ⟨d0, d1, d2, e0, e1, e2⟩ := (S1.row 1 rfl).three
  obtain ⟨f0, f1, f2, g0, g1, g2⟩ := (S1.row 0 rfl).three
  have HS1 := Lib.hid S1
  have HO := Lib.hid ho
  clear S S1 ho hb c0 c1 c2
  go_wp2_with fail
  have ho2 : OwnB w1 (w.heap.size + 1 + 1) A' n cap' xs := by
    have h := HO.out
    simp only [World.size_alloc] at h
    exact h
  refine bodyPost_ret (v := mV r c A' n cap') (by simp [results, Try.results41, go_sem, f0, f1, f2, g0, g1, g2, mV]) rfl ⟨A', cap', rfl, ?_, ?_⟩
  · exact ((((ho2.far (p := ⟨w.heap.size, 2, none⟩) (by dsimp only; omega) _).far (p := ⟨w.heap.size + 1, 0, none⟩) (by dsimp only; omega) _).far (p := ⟨w.heap.size + 1, 1, none⟩) (by dsimp only; omega) _).far (p := ⟨w.heap.size + 1, 2, none⟩) (by dsimp only; omega) _).mono (by omega)
  · exact below_set3 (below_set HS1.out.below (Nat.le_refl _)) (by omega) _ _ _
end Go.Proofs.Ytgcgajeagdaenaa
namespace Go.Proofs.Ytgcgajeagdaenaa
open Go.RowKit
set_option linter.unusedVariables false
set_option linter.unusedSimpArgs false

section
variable {x y : World} {base n cap : Nat} {A : Option Addr} {xs : List UInt8}
theorem OwnB.set' (h : OwnB x base A n cap xs) {p : Addr} (hp : ∀ g, A = some ⟨g, 0, none⟩ → g ≠ p.block) (u : Value) : OwnB (x.setCell p u) base A n cap xs :=
  h.keep fun g e => Below.heap_setCell x p u g (fun e2 => hp g e (by first | exact e2 | exact e2.symm))
theorem OwnB.alloc' (h : OwnB x base A n cap xs) (o : Obj) : OwnB (x.alloc o) base A n cap xs := h.below ((Below.refl _ _).alloc (Nat.le_refl _) o) (Nat.le_refl _)
theorem OwnB.drew' (h : OwnB x base A n cap xs) : OwnB x.drew base A n cap xs := h
theorem carryO0 (r : OwnB x base A n cap xs) (h : Below x.heap.size x y) : OwnB y base A n cap xs := r.below h (Nat.le_refl _)
theorem carryO1 {o : Obj} (r : OwnB x base A n cap xs) (h : Below (x.alloc o).heap.size (x.alloc o) y) : OwnB y base A n cap xs := carryO0 (r.alloc' o) h
theorem carryO2 {o o' : Obj} (r : OwnB x base A n cap xs) (h : Below ((x.alloc o).alloc o').heap.size ((x.alloc o).alloc o') y) : OwnB y base A n cap xs := carryO0 ((r.alloc' o).alloc' o') h
end
theorem OwnB.le2 {w : World} {base n cap : Nat} {A : Option Addr} {xs : List UInt8} (h : OwnB w base A n cap xs) : n ≤ cap := by
  rcases h.2.2 with ⟨h1, h2⟩ | ⟨g, c, cur, hv, hg, hh, h3, _⟩
  · omega
  · simp only [Value.slice.injEq] at hv
    obtain ⟨_, _, rfl⟩ := hv
    exact h3
def MFmid (w : World) (BS : List (Nat × List Value)) (ra ca rb cb : Int) (na nb : Nat) (xs ys : List UInt8) (s5 s6 : Value) (x : World) : Prop :=
  ∃ (g5 g6 : Nat) (Ap Aq : Option Addr) (cp cq : Nat), s5 = .pointer (some ⟨g5, 0, none⟩) ∧ s6 = .pointer (some ⟨g6, 0, none⟩) ∧ g5 ≠ g6 ∧ na ≤ cp ∧ nb ≤ cq ∧
    Ctx w x ((g5, [.int .i64 ra, .int .i64 ca, .slice Ap na cp]) :: (g6, [.int .i64 rb, .int .i64 cb, .slice Aq nb cq]) :: BS) [] ∧ Rd x x.heap.size Ap na (bVs xs) ∧ Rd x x.heap.size Aq nb (bVs ys)
set_option maxRecDepth 100000 in
set_option maxHeartbeats 6400000 in
theorem matrixFresh_calls (ra ca : Int) (A : Option Addr) (na ka : Nat) (xs : List UInt8) (rb cb : Int) (B : Option Addr) (nb kb : Nat) (ys : List UInt8) (w : World)
    (b1 : -9223372036854775808 ≤ ra ∧ ra ≤ 9223372036854775807) (b2 : -9223372036854775808 ≤ ca ∧ ca ≤ 9223372036854775807) (rx : Rd w w.heap.size A na (bVs xs)) (lx : na ≤ ka) (kx : ka ≤ 140737488351232)
    (b3 : -9223372036854775808 ≤ rb ∧ rb ≤ 9223372036854775807) (b4 : -9223372036854775808 ≤ cb ∧ cb ≤ 9223372036854775807) (ry : Rd w w.heap.size B nb (bVs ys)) (ly : nb ≤ kb) (ky : kb ≤ 140737488351232) :
    Calls Try.prog 12 #[mV ra ca A na ka, mV rb cb B nb kb] w fun e w' => e = .returned (.bool true) ∧ Below w.heap.size w w' := by
  have S := (((Ctx.start w).box [.int .i64 ra, .int .i64 ca, .slice A na ka]).box [.int .i64 rb, .int .i64 cb, .slice B nb kb])
  simp only [World.size_alloc] at S
  obtain ⟨c0, c1, c2⟩ := S.cells 1 rfl
  obtain ⟨d0, d1, d2⟩ := S.cells 0 rfl
  have hsz := S.lt 0 rfl
  clear b1 b2 b3 b4
  go_enter Try.func12, Try.ntmps12
  go_upto_region 1 with fail
  obtain ⟨w1, hw1⟩ : ∃ w1, w1 = (w.alloc (.cells #[.int .i64 ra, .int .i64 ca, .slice A na ka] 24)).alloc (.cells #[.int .i64 rb, .int .i64 cb, .slice B nb kb] 24) := ⟨_, rfl⟩
  obtain ⟨BS, hBS⟩ : ∃ BS : List (Nat × List Value), BS = [(w.heap.size + 1, [.int .i64 rb, .int .i64 cb, .slice B nb kb]), (w.heap.size, [.int .i64 ra, .int .i64 ca, .slice A na ka])] := ⟨_, rfl⟩
  have S2 : Ctx w w1 BS [] := by rw [hBS, hw1]; exact S
  clear S c0 c1 c2 d0 d1 d2 hsz
  rw [← hw1]
  clear hw1
  have HC := Lib.hid (show ∀ x : World, Ctx w x BS [] → x.cell? ⟨w.heap.size, 0, none⟩ = some (.int .i64 ra) ∧ x.cell? ⟨w.heap.size, 1, none⟩ = some (.int .i64 ca) ∧ x.cell? ⟨w.heap.size, 2, none⟩ = some (.slice A na ka) ∧ x.cell? ⟨w.heap.size + 1, 0, none⟩ = some (.int .i64 rb) ∧ x.cell? ⟨w.heap.size + 1, 1, none⟩ = some (.int .i64 cb) ∧ x.cell? ⟨w.heap.size + 1, 2, none⟩ = some (.slice B nb kb) by
    rw [hBS]
    exact fun x q => ⟨(q.cells 1 rfl).1, (q.cells 1 rfl).2.1, (q.cells 1 rfl).2.2, (q.cells 0 rfl).1, (q.cells 0 rfl).2.1, (q.cells 0 rfl).2.2⟩)
  have HBS := Lib.hid hBS
  clear hBS
  go_cut [5, 6] from 5 to 26 (fun s5 s6 wx => MFmid w BS ra ca rb cb na nb xs ys s5 s6 wx)
  case first =>
    obtain ⟨P, hP⟩ : ∃ P : World → Prop, P = fun x => Ctx w x BS [] := ⟨_, rfl⟩
    have hp0 : P w1 := by rw [hP]; exact S2
    have HB1 := Lib.hid (show ∀ x : World, P x → Calls Try.prog 41 #[mV ra ca A na ka] x fun e w' => ∃ A' cap', e = .returned (mV ra ca A' na cap') ∧ OwnB w' x.heap.size A' na cap' xs ∧ Below x.heap.size x w' by
      rw [hP]
      exact fun x q => mcopy_calls ra ca A na ka xs x (rx.go q.below) (by omega))
    have HB2 := Lib.hid (show ∀ x : World, P x → Calls Try.prog 41 #[mV rb cb B nb kb] x fun e w' => ∃ A' cap', e = .returned (mV rb cb A' nb cap') ∧ OwnB w' x.heap.size A' nb cap' ys ∧ Below x.heap.size x w' by
      rw [hP]
      exact fun x q => mcopy_calls rb cb B nb kb ys x (ry.go q.below) (by omega))
    have HG := Lib.hid (show ∀ x y : World, P x → Below x.heap.size x y → P y by rw [hP]; exact fun x y q hb => q.go hb)
    have HA := Lib.hid (show ∀ (x : World) o, P x → P (x.alloc o) by rw [hP]; exact fun x o q => q.alloc o)
    have HD := Lib.hid (show ∀ (x : World), P x → P x.drew by rw [hP]; exact fun x q => q.drew)
    have HCC := Lib.hid (show ∀ x : World, P x → x.cell? ⟨w.heap.size, 0, none⟩ = some (.int .i64 ra) ∧ x.cell? ⟨w.heap.size, 1, none⟩ = some (.int .i64 ca) ∧ x.cell? ⟨w.heap.size, 2, none⟩ = some (.slice A na ka) ∧ x.cell? ⟨w.heap.size + 1, 0, none⟩ = some (.int .i64 rb) ∧ x.cell? ⟨w.heap.size + 1, 1, none⟩ = some (.int .i64 cb) ∧ x.cell? ⟨w.heap.size + 1, 2, none⟩ = some (.slice B nb kb) by rw [hP]; exact HC.out)
    have HST := Lib.hid (show ∀ (x : World) (a : Addr) (u : Value), w.heap.size + 2 ≤ a.block → P x → P (x.setCell a u) by
      rw [hP]
      intro x a u ha q
      refine q.set (by omega) ?_ u
      rw [HBS.out]
      simp
      omega)
    have HPS := Lib.hid (show ∀ (x : World), P x → w.heap.size + 2 ≤ x.heap.size by
      rw [hP, HBS.out]
      intro x q
      have := q.lt 0 rfl
      omega)
    have HFIN := Lib.hid (show ∀ x, P x → Ctx w x BS [] by rw [hP]; exact fun x q => q)
    clear hP S2 HC HBS rx ry
    have hc := HCC.out _ hp0
    have hz1 := HPS.out _ hp0
    go_region_held3 (fun x => P x ∧ x.cell? ⟨w.heap.size, 0, none⟩ = some (.int .i64 ra) ∧ x.cell? ⟨w.heap.size, 1, none⟩ = some (.int .i64 ca) ∧ x.cell? ⟨w.heap.size, 2, none⟩ = some (.slice A na ka) ∧ x.cell? ⟨w.heap.size + 1, 0, none⟩ = some (.int .i64 rb) ∧ x.cell? ⟨w.heap.size + 1, 1, none⟩ = some (.int .i64 cb) ∧ x.cell? ⟨w.heap.size + 1, 2, none⟩ = some (.slice B nb kb))
      (first | (refine ⟨?_, HCC.out _ ?_⟩ <;> (repeat' (first | with_reducible exact hp0 | with_reducible refine HD.out _ ?_ | with_reducible exact hpt | with_reducible exact hpb | with_reducible refine HA.out _ _ ?_ | with_reducible refine HST.out _ _ _ (by (try dsimp only); (try simp only [World.size_alloc]); first | omega | (simp; omega)) ?_))))
      (first | (go_at_call 41; (try go_split_ands); (first | (with_reducible refine (HB1.out _ (by assumption)).mono ?_; rintro e wb ⟨Ap, cp, rfl, ho1, hb1⟩; have hpb := HG.out _ _ (by assumption) hb1; have hzb := HPS.out _ hpb; have hA1 := ho1.row; have l1 := ho1.le2; have hs1 := hb1.size; (try simp only [World.size_alloc, size_drew] at hA1 hs1); (try ((first | (have rA := box_last hb1) | (have rA := box_lastD hb1)); (try simp only [World.size_alloc] at rA); obtain ⟨a0, a1, a2, a3, a4, a5⟩ := rA.three; have lA := rA.lt)); (try ((first | (have rB := box_prev hb1) | (have rB := box_prevD hb1)); obtain ⟨b0, b1, b2, b3, b4, b5⟩ := rB.three; have lB := rB.lt))) | (with_reducible refine (HB2.out _ (by assumption)).mono ?_; rintro e wt ⟨Aq, cq, rfl, ho2, hb2⟩; have hpt := HG.out _ _ (by assumption) hb2; have hzt := HPS.out _ hpt; have hA2 := ho2.row; have l2 := ho2.le2; have ho2z := ho2.mono (Nat.zero_le _); have hs2 := hb2.size; (try simp only [World.size_alloc, size_drew] at hA2 hs2); (first | (have ho1z := (carryO0 ho1 hb2).mono (Nat.zero_le _)) | (have ho1z := (carryO1 ho1 hb2).mono (Nat.zero_le _)) | (have ho1z := (carryO2 ho1 hb2).mono (Nat.zero_le _))); (try (have rC := box_last hb2; (try simp only [World.size_alloc] at rC); obtain ⟨a0, a1, a2, a3, a4, a5⟩ := rC.three; have lC := rC.lt)); (try (have rD := box_prev hb2; obtain ⟨b0, b1, b2, b3, b4, b5⟩ := rD.three; have lD := rD.lt)); (try ((first | (have rE := carry0 rA hb2) | (have rE := carry1 rA hb2) | (have rE := carry2 rA hb2)); obtain ⟨a0, a1, a2, a3, a4, a5⟩ := rE.three; have lE := rE.lt)); (try ((first | (have rF := carry0 rB hb2) | (have rF := carry1 rB hb2) | (have rF := carry2 rB hb2)); obtain ⟨b0, b1, b2, b3, b4, b5⟩ := rF.three; have lF := rF.lt))))))
    all_goals (go_split_ands; go_wp2_with fail; go_meet)
    all_goals (refine ⟨_, _, Ap, Aq, cp, cq, rfl, rfl, by omega, l1, l2, ((HFIN.out _ (by assumption)).cons ?_).cons ?_, OwnB.rd (cap := cp) (base := 0) ?_, OwnB.rd (cap := cq) (base := 0) ?_⟩ <;> (repeat' (first | with_reducible exact ho1z | with_reducible exact ho2z | with_reducible assumption | with_reducible refine OwnB.drew' ?_ | with_reducible refine OwnB.alloc' ?_ _ | refine OwnB.set' ?_ (fun g e => by first | (have hh := hA1 g (by rw [e]; rfl); dsimp only; omega) | (have hh := hA2 g (by rw [e]; rfl); dsimp only; omega)) _ | with_reducible refine Row.newE _ _ _ (by first | with_reducible rfl | (simp; done)) | with_reducible refine Row.drew ?_ | with_reducible refine Row.alloc ?_ _ | with_reducible refine Row.set3 (a := .int .i64 0) (b := .int .i64 0) (c := .slice none 0 0) ?_ _ _ _ | with_reducible refine Row.far3 ?_ (by omega) _ _ _)))
  case rest =>
    clear S2
    obtain ⟨g5, g6, Ap, Aq, cp, cq, rfl, rfl, hne, l1, l2, S, r1, r2⟩ := hcut
    rename World => w2
    rw [HBS.out] at S
    have HC2 := Lib.hid (show ∀ x : World, Below w2.heap.size w2 x → x.cell? ⟨g5, 0, none⟩ = some (.int .i64 ra) ∧ x.cell? ⟨g5, 1, none⟩ = some (.int .i64 ca) ∧ x.cell? ⟨g5, 2, none⟩ = some (.slice Ap na cp) ∧ x.cell? ⟨g6, 0, none⟩ = some (.int .i64 rb) ∧ x.cell? ⟨g6, 1, none⟩ = some (.int .i64 cb) ∧ x.cell? ⟨g6, 2, none⟩ = some (.slice Aq nb cq) from
      fun x q => ⟨((S.go q).cells 0 rfl).1, ((S.go q).cells 0 rfl).2.1, ((S.go q).cells 0 rfl).2.2, ((S.go q).cells 1 rfl).1, ((S.go q).cells 1 rfl).2.1, ((S.go q).cells 1 rfl).2.2⟩)
    have HC3 := Lib.hid (show ∀ x : World, Below w2.heap.size w2 x → x.cell? ⟨w.heap.size, 0, none⟩ = some (.int .i64 ra) ∧ x.cell? ⟨w.heap.size, 1, none⟩ = some (.int .i64 ca) ∧ x.cell? ⟨w.heap.size, 2, none⟩ = some (.slice A na ka) ∧ x.cell? ⟨w.heap.size + 1, 0, none⟩ = some (.int .i64 rb) ∧ x.cell? ⟨w.heap.size + 1, 1, none⟩ = some (.int .i64 cb) ∧ x.cell? ⟨w.heap.size + 1, 2, none⟩ = some (.slice B nb kb) from
      fun x q => ⟨((S.go q).cells 3 rfl).1, ((S.go q).cells 3 rfl).2.1, ((S.go q).cells 3 rfl).2.2, ((S.go q).cells 2 rfl).1, ((S.go q).cells 2 rfl).2.1, ((S.go q).cells 2 rfl).2.2⟩)
    have HP := Lib.hid (show ∀ x : World, Below w2.heap.size w2 x → Rd x x.heap.size Ap na (bVs xs) from fun x q => r1.go q)
    have HQ := Lib.hid (show ∀ x : World, Below w2.heap.size w2 x → Rd x x.heap.size Aq nb (bVs ys) from fun x q => r2.go q)
    have HX := Lib.hid (show ∀ x : World, Below w2.heap.size w2 x → Rd x x.heap.size A na (bVs xs) from fun x q => rx.go ((S.go q).below))
    have HY := Lib.hid (show ∀ x : World, Below w2.heap.size w2 x → Rd x x.heap.size B nb (bVs ys) from fun x q => ry.go ((S.go q).below))
    have HE := Lib.hid (show ∀ x : World, Below w2.heap.size w2 x → Below w.heap.size w x from fun x q => (S.go q).below)
    have HB2 := Lib.hid (Below.refl w2.heap.size w2)
    clear S r1 r2 rx ry HC HBS
    obtain ⟨c0, c1, c2, d0, d1, d2⟩ := HC2.out _ HB2.out
    go_wp2_with fail
    refine (mu_any ra ca rb cb Ap Aq na nb cp cq xs ys w2 (HP.out _ HB2.out) (HQ.out _ HB2.out) l1 l2).mono ?_
    rintro e w3 ⟨R3, C3, A3, n3, k3, E3, x3, rfl, o, b, hn3⟩
    clear c0 c1 c2 d0 d1 d2
    have HO3 := Lib.hid (((Owned.nil w2 w2.heap.size).snoc b HB2.out.size o).go ((Below.refl w3.heap.size w3).alloc (Nat.le_refl _) (.cells #[.int .i64 R3, .int .i64 C3, .slice A3 n3 k3] 24)))
    have HB3 := Lib.hid ((HB2.out.trans b).alloc b.size (.cells #[.int .i64 R3, .int .i64 C3, .slice A3 n3 k3] 24))
    have HR3 := Lib.hid (Row.new w3 [.int .i64 R3, .int .i64 C3, .slice A3 n3 k3] 24)
    obtain ⟨G3, hG3⟩ : ∃ g, g = w3.heap.size := ⟨_, rfl⟩
    rw [← hG3] at HR3
    have HG3 := Lib.hid hG3
    clear o b hG3
    obtain ⟨c0, c1, c2, d0, d1, d2⟩ := HC2.out _ HB3.out
    go_wp2_with fail
    rw [← HG3.out]
    refine (tr_any ra ca Ap na cp xs _ (HP.out _ HB3.out) l1).mono ?_
    rintro e w4 ⟨R4, C4, A4, n4, k4, E4, x4, rfl, o, b, hn4⟩
    clear c0 c1 c2 d0 d1 d2
    have HO4 := Lib.hid ((HO3.out.snoc b HB3.out.size o).go ((Below.refl w4.heap.size w4).alloc (Nat.le_refl _) (.cells #[.int .i64 R4, .int .i64 C4, .slice A4 n4 k4] 24)))
    have HB4 := Lib.hid ((HB3.out.trans (b.mono HB3.out.size)).alloc (Nat.le_trans HB3.out.size b.size) (.cells #[.int .i64 R4, .int .i64 C4, .slice A4 n4 k4] 24))
    have HR4 := Lib.hid (Row.new w4 [.int .i64 R4, .int .i64 C4, .slice A4 n4 k4] 24)
    replace HR3 := Lib.hid ((HR3.out.below b HR3.out.lt).alloc (.cells #[.int .i64 R4, .int .i64 C4, .slice A4 n4 k4] 24))
    obtain ⟨G4, hG4⟩ : ∃ g, g = w4.heap.size := ⟨_, rfl⟩
    rw [← hG4] at HR4
    have HG4 := Lib.hid hG4
    clear o b hG4
    obtain ⟨c0, c1, c2, d0, d1, d2⟩ := HC2.out _ HB4.out
    go_wp2_with fail
    rw [← HG4.out]
    refine (st_any ra ca rb cb Ap Aq na nb cp cq xs ys _ (HP.out _ HB4.out) (HQ.out _ HB4.out) l1 l2).mono ?_
    rintro e w5 ⟨R5, C5, A5, n5, k5, E5, x5, rfl, o, b, hn5⟩
    clear c0 c1 c2 d0 d1 d2
    have HO5 := Lib.hid ((HO4.out.snoc b HB4.out.size o).go ((Below.refl w5.heap.size w5).alloc (Nat.le_refl _) (.cells #[.int .i64 R5, .int .i64 C5, .slice A5 n5 k5] 24)))
    have HB5 := Lib.hid ((HB4.out.trans (b.mono HB4.out.size)).alloc (Nat.le_trans HB4.out.size b.size) (.cells #[.int .i64 R5, .int .i64 C5, .slice A5 n5 k5] 24))
    have HR5 := Lib.hid (Row.new w5 [.int .i64 R5, .int .i64 C5, .slice A5 n5 k5] 24)
    replace HR3 := Lib.hid ((HR3.out.below b HR3.out.lt).alloc (.cells #[.int .i64 R5, .int .i64 C5, .slice A5 n5 k5] 24))
    replace HR4 := Lib.hid ((HR4.out.below b HR4.out.lt).alloc (.cells #[.int .i64 R5, .int .i64 C5, .slice A5 n5 k5] 24))
    obtain ⟨G5, hG5⟩ : ∃ g, g = w5.heap.size := ⟨_, rfl⟩
    rw [← hG5] at HR5
    have HG5 := Lib.hid hG5
    clear o b hG5
    obtain ⟨c0, c1, c2, d0, d1, d2⟩ := HC2.out _ HB5.out
    go_wp2_with fail
    rw [← HG5.out]
    refine (kr_any ra ca rb cb Ap Aq na nb cp cq xs ys _ (HP.out _ HB5.out) (HQ.out _ HB5.out) l1 l2).mono ?_
    rintro e w6 ⟨R6, C6, A6, n6, k6, E6, x6, rfl, o, b, hn6⟩
    clear c0 c1 c2 d0 d1 d2
    have HO6 := Lib.hid ((HO5.out.snoc b HB5.out.size o).go ((Below.refl w6.heap.size w6).alloc (Nat.le_refl _) (.cells #[.int .i64 R6, .int .i64 C6, .slice A6 n6 k6] 24)))
    have HB6 := Lib.hid ((HB5.out.trans (b.mono HB5.out.size)).alloc (Nat.le_trans HB5.out.size b.size) (.cells #[.int .i64 R6, .int .i64 C6, .slice A6 n6 k6] 24))
    have HR6 := Lib.hid (Row.new w6 [.int .i64 R6, .int .i64 C6, .slice A6 n6 k6] 24)
    replace HR3 := Lib.hid ((HR3.out.below b HR3.out.lt).alloc (.cells #[.int .i64 R6, .int .i64 C6, .slice A6 n6 k6] 24))
    replace HR4 := Lib.hid ((HR4.out.below b HR4.out.lt).alloc (.cells #[.int .i64 R6, .int .i64 C6, .slice A6 n6 k6] 24))
    replace HR5 := Lib.hid ((HR5.out.below b HR5.out.lt).alloc (.cells #[.int .i64 R6, .int .i64 C6, .slice A6 n6 k6] 24))
    obtain ⟨G6, hG6⟩ : ∃ g, g = w6.heap.size := ⟨_, rfl⟩
    rw [← hG6] at HR6
    have HG6 := Lib.hid hG6
    clear o b hG6
    obtain ⟨c0, c1, c2, d0, d1, d2⟩ := HC2.out _ HB6.out
    go_wp2_with fail
    rw [← HG6.out]
    refine (ro_any ra ca Ap na cp xs _ (HP.out _ HB6.out) l1).mono ?_
    rintro e w7 ⟨A7, n7, k7, E7, x7, rfl, o, b, hn7⟩
    clear c0 c1 c2 d0 d1 d2
    have HO7 := Lib.hid (HO6.out.snoc b HB6.out.size o)
    have HB7 := Lib.hid (HB6.out.trans (b.mono HB6.out.size))
    have p3 := (HR3.out.below b HR3.out.lt).cell 2
    have p4 := (HR4.out.below b HR4.out.lt).cell 2
    have p5 := (HR5.out.below b HR5.out.lt).cell 2
    have p6 := (HR6.out.below b HR6.out.lt).cell 2
    clear o b
    obtain ⟨R, hR⟩ : ∃ R : List Res, R = [⟨A3, n3, k3, x3⟩, ⟨A4, n4, k4, x4⟩, ⟨A5, n5, k5, x5⟩, ⟨A6, n6, k6, x6⟩, ⟨A7, n7, k7, x7⟩] := ⟨_, rfl⟩
    have HOW := Lib.hid (show Owned w7 w2.heap.size R by rw [hR]; exact HO7.out)
    have HNS := Lib.hid (show ∀ r ∈ R, r.n + 3 ≤ 140737488355328 by
      rw [hR]
      intro r hr
      simp only [List.mem_cons, List.not_mem_nil, or_false] at hr
      rcases hr with rfl | rfl | rfl | rfl | rfl <;> dsimp only <;> omega)
    obtain ⟨W, hW⟩ : ∃ W, W = w7.alloc (.cells #[.slice A3 n3 k3, .slice A4 n4 k4, .slice A5 n5 k5, .slice A6 n6 k6, .slice A7 n7 k7] 22) := ⟨_, rfl⟩
    have hbw : Below w7.heap.size w7 W := by rw [hW]; exact (Below.refl _ _).alloc (Nat.le_refl _) _
    have HRW := Lib.hid (show Row W w7.heap.size 22 (R.map Res.v) by rw [hW, hR]; exact Row.new w7 [.slice A3 n3 k3, .slice A4 n4 k4, .slice A5 n5 k5, .slice A6 n6 k6, .slice A7 n7 k7] 22)
    have HNE := Lib.hid (show ∀ r ∈ R, r.A ≠ some ⟨w7.heap.size, 0, none⟩ from fun r hr e => by have := HOW.out.lt hr e; omega)
    have HLEN := Lib.hid (show R.length = 5 by rw [hR]; rfl)
    have HOW2 := Lib.hid (HOW.out.go hbw)
    have HBW := Lib.hid (HB7.out.trans (hbw.mono HB7.out.size))
    have HW := Lib.hid hW
    clear hW hbw hR HO3 HO4 HO5 HO6 HO7 HOW HB3 HB4 HB5 HB6 HB7 HR3 HR4 HR5 HR6 HG3 HG4 HG5 HG6
    go_wp2_with fail
    rw [← HW.out]
    obtain ⟨gl, hgl⟩ : ∃ g, g = w7.heap.size := ⟨_, rfl⟩
    have HGL := Lib.hid hgl
    rw [← hgl] at HRW HNE ⊢
    clear hgl p3 p4 p5 p6 hn3 hn4 hn5 hn6 hn7
    go_loopw [18] (fun v18 wr => ∃ i : Nat, i ≤ 5 ∧ v18 = .int .i64 (i : Int) ∧ Owned wr w2.heap.size (R.drop i) ∧ Row wr gl 22 (R.map Res.v) ∧ Below w2.heap.size w2 wr) (fun v18 _ => 5 - (intOf v18).toNat)
    case atStart => exact ⟨0, by omega, rfl, HOW2.out, HRW.out, HBW.out⟩
    case round =>
      obtain ⟨i, hi, rfl, ho, hrow, hB⟩ := hrel
      have HB := Lib.hid hB
      by_cases hlt : i < 5
      · obtain ⟨r, hd, hr, hv⟩ := drop_head (R := R) (i := i) (by rw [HLEN.out]; exact hlt)
        have hcell : wr.cell? ⟨gl, i, none⟩ = some (.slice r.A r.n r.cap) := by rw [hrow.cell, hv]
        rw [hd] at ho
        obtain ⟨k, hk⟩ : ∃ k : UInt8, (k.toNat : Int) = 50 * (i : Int) + 9 := ⟨UInt8.ofNat (50 * i + 9), by rw [UInt8.toNat_ofNat']; omega⟩
        have HS := Lib.hid (spoil_calls r.A r.n r.cap w2.heap.size r.xs k wr ho.head hB.size (HNS.out r hr))
        rw [hk] at HS
        have HO := Lib.hid ho
        have HROW := Lib.hid hrow
        have HRN := Lib.hid (show ∀ s ∈ r :: R.drop (i + 1), s.A ≠ some ⟨gl, 0, none⟩ from fun s hs => HNE.out s (by rw [← hd] at hs; exact List.mem_of_mem_drop hs))
        clear ho hrow hB hd hr hv hk
        go_wp2_with fail
        refine HS.out.mono ?_
        rintro e w' ⟨rfl, hg⟩
        have HO' := Lib.hid (HO.out.spoilt hg)
        have HROW' := Lib.hid (HO.out.row_spoilt hg HROW.out HRN.out)
        have HB' := Lib.hid (HO.out.below_spoilt hg HB.out HB.out.size)
        clear hg
        go_wp2_with fail
        go_roundw
        case rel => exact ⟨i + 1, by omega, by go_num, HO'.out, HROW'.out, HB'.out⟩
        case measure => simp [intOf]; omega
      · obtain rfl : i = 5 := by omega
        clear ho hrow hB
        obtain ⟨c0, c1, c2, d0, d1, d2⟩ := HC3.out _ HB.out
        go_wp2_with fail
        refine (rmul3_calls ra ca A na ka xs rb cb B nb kb ys wr (HX.out _ HB.out) lx (by omega) (HY.out _ HB.out) ly (by omega)).mono ?_
        rintro e w11 ⟨gq, kq, rfl, o, b⟩
        obtain ⟨MR, hMR⟩ : ∃ x, x = muR (mulB ra ca na rb cb nb) ra := ⟨_, rfl⟩
        obtain ⟨MC, hMC⟩ : ∃ x, x = muR (mulB ra ca na rb cb nb) cb := ⟨_, rfl⟩
        obtain ⟨MN, hMN⟩ : ∃ x, x = muN (mulB ra ca na rb cb nb) ra cb := ⟨_, rfl⟩
        obtain ⟨ME, hME⟩ : ∃ x, x = muE (mulB ra ca na rb cb nb) := ⟨_, rfl⟩
        obtain ⟨MD, hMD⟩ : ∃ x, x = muD (mulB ra ca na rb cb nb) ra ca cb xs ys := ⟨_, rfl⟩
        have HMU := Lib.hid (fun (x : World) (q : Below w2.heap.size w2 x) => mul_any ra ca rb cb Ap Aq na nb cp cq xs ys x (HP.out x q) (HQ.out x q) l1 l2)
        rw [← hMR, ← hMC, ← hMN, ← hME, ← hMD] at HMU
        rw [← hMN, ← hMD] at o
        rw [← hMR, ← hMC, ← hMN, ← hME]
        clear hMR hMC hMN hME hMD c0 c1 c2 d0 d1 d2
        have HB11 := Lib.hid ((HB.out.trans (b.mono HB.out.size)).alloc (Nat.le_trans HB.out.size b.size) (.cells #[.int .i64 MR, .int .i64 MC, .slice gq MN kq] 24))
        have HRq := Lib.hid (Row.new w11 [.int .i64 MR, .int .i64 MC, .slice gq MN kq] 24)
        have HRd := Lib.hid (o.rd.go ((Below.refl w11.heap.size w11).alloc (Nat.le_refl _) (.cells #[.int .i64 MR, .int .i64 MC, .slice gq MN kq] 24)))
        clear o b
        obtain ⟨c0, c1, c2, d0, d1, d2⟩ := HC2.out _ HB11.out
        go_wp2_with fail
        refine (HMU.out _ HB11.out).mono ?_
        rintro e w12 ⟨gr, rfl, o, b⟩
        obtain ⟨gQ, hgQ⟩ : ∃ g, g = w11.heap.size := ⟨_, rfl⟩
        rw [← hgQ] at HRq ⊢
        clear hgQ c0 c1 c2 d0 d1 d2
        have HB12 := Lib.hid ((HB11.out.trans (b.mono HB11.out.size)).alloc (Nat.le_trans HB11.out.size b.size) (.cells #[.int .i64 MR, .int .i64 MC, .slice gr MN MN] 24))
        have HRr := Lib.hid (Row.new w12 [.int .i64 MR, .int .i64 MC, .slice gr MN MN] 24)
        have HRq2 := Lib.hid ((HRq.out.below b HRq.out.lt).alloc (.cells #[.int .i64 MR, .int .i64 MC, .slice gr MN MN] 24))
        have HRd2 := Lib.hid ((HRd.out.go b).go ((Below.refl w12.heap.size w12).alloc (Nat.le_refl _) (.cells #[.int .i64 MR, .int .i64 MC, .slice gr MN MN] 24)))
        have HRe := Lib.hid (o.rd.go ((Below.refl w12.heap.size w12).alloc (Nat.le_refl _) (.cells #[.int .i64 MR, .int .i64 MC, .slice gr MN MN] 24)))
        clear o b
        go_wp2_with fail
        refine (anchored_calls _).mono ?_
        rintro e w13 ⟨rfl, b⟩
        have HB13 := Lib.hid (HB12.out.trans (b.mono HB12.out.size))
        have HRr3 := Lib.hid (HRr.out.below b HRr.out.lt)
        have HRq3 := Lib.hid (HRq2.out.below b HRq2.out.lt)
        have HRd3 := Lib.hid (HRd2.out.go b)
        have HRe3 := Lib.hid (HRe.out.go b)
        obtain ⟨gR, hgR⟩ : ∃ g, g = w12.heap.size := ⟨_, rfl⟩
        rw [← hgR] at HRr3 ⊢
        clear hgR HRr HRq2 HRd2 HRe b
        obtain ⟨c0, c1, c2, d0, d1, d2⟩ := HC2.out _ HB13.out
        obtain ⟨e0, e1, e2, f0, f1, f2⟩ := HC3.out _ HB13.out
        go_wp2_with fail
        refine (like_self ra ca A na ka Ap na cp xs w13 (HX.out _ HB13.out) (HP.out _ HB13.out)).mono ?_
        rintro e w14 ⟨rfl, b⟩
        have HB14 := Lib.hid (HB13.out.trans (b.mono HB13.out.size))
        have HRr4 := Lib.hid (HRr3.out.below b HRr3.out.lt)
        have HRq4 := Lib.hid (HRq3.out.below b HRq3.out.lt)
        have HRd4 := Lib.hid (HRd3.out.go b)
        have HRe4 := Lib.hid (HRe3.out.go b)
        clear HRr3 HRq3 HRd3 HRe3 b c0 c1 c2 d0 d1 d2 e0 e1 e2 f0 f1 f2
        obtain ⟨c0, c1, c2, d0, d1, d2⟩ := HC2.out _ HB14.out
        obtain ⟨e0, e1, e2, f0, f1, f2⟩ := HC3.out _ HB14.out
        go_wp2_with fail
        refine (like_self rb cb B nb kb Aq nb cq ys w14 (HY.out _ HB14.out) (HQ.out _ HB14.out)).mono ?_
        rintro e w15 ⟨rfl, b⟩
        have HB15 := Lib.hid (HB14.out.trans (b.mono HB14.out.size))
        have hRr5 := (HRr4.out.below b HRr4.out.lt)
        have hRq5 := (HRq4.out.below b HRq4.out.lt)
        have HRd5 := Lib.hid (HRd4.out.go b)
        have HRe5 := Lib.hid (HRe4.out.go b)
        clear HRr4 HRq4 HRd4 HRe4 b c0 c1 c2 d0 d1 d2 e0 e1 e2 f0 f1 f2
        obtain ⟨c0, c1, c2, _, _, _⟩ := hRr5.three
        obtain ⟨d0, d1, d2, _, _, _⟩ := hRq5.three
        go_wp2_with fail
        refine (like3_self MR MC gr MN MN ME gq MN kq MD w15 HRe5.out HRd5.out).mono ?_
        rintro e w16 ⟨rfl, b⟩
        have HB16 := Lib.hid (HB15.out.trans (b.mono HB15.out.size))
        clear b
        go_wp2_with fail
        go_ret
        exact ⟨rfl, HE.out _ HB16.out⟩
end Go.Proofs.Ytgcgajeagdaenaa
namespace Go.Proofs.Ytgcgajeagdaenaa.matrixFresh
open Go.ChangeShapes Go.WideShapes Go.ChangeAt Go.RowKit

set_option linter.unusedVariables false

set_option maxRecDepth 100000 in
theorem lifted (os : Os) (started : os.Started) (H : Type) (enc : TypeId × Value → H) :
    ReturnsInHanded {} Try.checked os 12 .any (Rows.matrixFreshSpec.pre6 enc Try.prog Try.f12 Rows.matrixFreshRow.domain false) (Rows.matrixFreshSpec.post enc Try.prog Try.f12 false true false false) := by
  refine returnsInHanded_of_change_sized (C := Try.checked) own_knob started (by kernel_rfl) Try.func12
    (ChangeSpec.witness6 (enc := enc) (C := Try.checked) false ⟨#[], #[.agg #[.int .i64 0, .int .i64 0, .slice none 0 0], .agg #[.int .i64 0, .int .i64 0, .slice none 0 0]], []⟩ 8 (by kernel_rfl) (by kernel_rfl) (by kernel_rfl) (by kernel_rfl)) ?_
  intro W base args ds gs before hval0 hW hcnd hsz0 _
  have hsz : (DataW.weightsEach Try.prog (Try.f12.params.toList ++ Rows.matrixFreshSpec.plain.varTypes Try.prog) (ds ++ gs)).all (· ≤ reachBytes) = true := hsz0
  have hval : ∀ (j : Nat) t v, Try.f12.params[j]? = some t → args[j]? = some v → Value.okWide Try.prog W .any base t v := hval0
  have hW' := hW
  obtain ⟨p, q, hA0, hV, rfl, hfz, hnd⟩ := hW
  have hA : DataW.TrodAll enc Try.prog W 0 (fun _ => true) true Try.f12.params.toList args.toList ds p := hA0
  rw [Try.params12] at hA hval hsz
  obtain ⟨v0, vs0, d0, ds0, p0, q0, hargs, rfl, rfl, h0, r0⟩ := trodAll_cons hA
  obtain ⟨v1, vs1, d1, ds1, p1, q1, rfl, rfl, rfl, h1, r1⟩ := trodAll_cons r0
  obtain ⟨rfl, rfl, rfl⟩ := trodAll_nil r1
  obtain rfl : args = #[v0, v1] := by cases args; simp_all
  obtain ⟨rfl, rfl⟩ := trodVars_none hV
  have k0 := h0
  have lt0 : ∀ x ∈ p0, x.block < W.heap.size := by obtain ⟨m, hm⟩ := k0; exact DataW.trod_lt m _ _ _ hm
  have k1 := h1
  have lt1 : ∀ x ∈ p1, x.block < W.heap.size := by obtain ⟨m, hm⟩ := k1; exact DataW.trod_lt m _ _ _ hm
  obtain ⟨mr0, mc0, a0, n0, cap0, x0, dd0, rfl, wr0, wc0, rd0, lc0, cm0, rfl, sz0⟩ := open_matrix (hval 0 24 v0 rfl rfl) h0
  have cr0 := sized_matrix hsz (j := 0) rfl rfl sz0
  obtain ⟨mr1, mc1, a1, n1, cap1, x1, dd1, rfl, wr1, wc1, rd1, lc1, cm1, rfl, sz1⟩ := open_matrix (hval 1 24 v1 rfl rfl) h1
  have cr1 := sized_matrix hsz (j := 1) rfl rfl sz1
  clear hA0 hval0 hsz0
  refine (matrixFresh_calls mr0 mc0 a0 n0 cap0 x0 mr1 mc1 a1 n1 cap1 x1 W (bounds_i64 wr0) (bounds_i64 wc0) rd0 lc0 cr0 (bounds_i64 wr1) (bounds_i64 wc1) rd1 lc1 cr1).mono fun e W' ⟨he, bel⟩ => ?_
  subst he
  exact ⟨_, rfl, _, _, _, [], _, [], hW', trodAll_mk1 (shut_bool Try.underlying4 _), (trodAll_cons_mk (Below.trod laid_out (by kernel_rfl) (of_decide_eq_true (by kernel_rfl)) k0 bel lt0) (trodAll_cons_mk (Below.trod laid_out (by kernel_rfl) (of_decide_eq_true (by kernel_rfl)) k1 bel lt1) trodAll_mk0)), rfl, bel.frame _, fun h => by cases h⟩

theorem over : Rows.matrixFreshRow.holds Try.pinned (OpenSpec.ofChange Rows.matrixFreshSpec) :=
  OpenClaim.holds_of_wide 12 Try.f12 rfl rfl rfl rfl rfl rfl rfl ⟨rfl, rfl, rfl, rfl, rfl⟩ rfl rfl rfl rfl rfl (by kernel_rfl) Try.func12 (by kernel_rfl)
    (of_decide_eq_true (by kernel_rfl)) (by unfold Func.isWrapper; first | (rw [if_pos (by decide +kernel)]; kernel_rfl) | (rw [if_neg (by decide +kernel)]; exact ⟨rfl, rfl⟩))
    (fun os started H enc _ => lifted os started H enc)

theorem proved : Rows.MatrixFreshSaid := over
#print axioms proved
end Go.Proofs.Ytgcgajeagdaenaa.matrixFresh
