/- The law BuildSquares, proved: for every input the call returns true and each argument reads as before. -/
import Derived.WalkKit
import Derived.ProofKit
import Derived.OpenShut
import Derived.ChangeOld
import Derived.Below
import Derived.SizedLaws
import Derived.Test.YteofcbkjhdadpaaCBuildSquaresx1
import Derived.Test.YteofcbkjhdadpaaCBuildSquaresx10
import Derived.Test.YteofcbkjhdadpaaCBuildSquaresA1
import Derived.Test.YteofcbkjhdadpaaCBuildSquaresA3
import Derived.Test.YteofcbkjhdadpaaCBuildSquaresx2
import Derived.Test.YteofcbkjhdadpaaCBuildSquaresx8
import Derived.Test.YteofcbkjhdadpaaCBuildSquaresx12
import Derived.Test.YteofcbkjhdadpaaCBuildSquaresx13
import Derived.Test.YteofcbkjhdadpaaRows
namespace Go.Proofs.Yteofcbkjhdadpaa
open Go.RowKit Go.Proofs.YteofcbkjhdadpaaW.PrintWords Go.Proofs.Yteofcbkjhdadpaa.Pr
set_option linter.unusedVariables false
set_option linter.unusedSimpArgs false

theorem g_rinv (a : UInt8) : recoupref01_Inv.f (a.toNat : Int) = some (((Gf.inv a).toNat : Int), Gf.invE a) := by
  unfold recoupref01_Inv.f
  rw [byteB_nat, toU_nat]
  rfl
theorem pu_zero5 {r c : Nat} (h : r * c ≤ 281474976710656) : recoupref03_Zero.f (r : Int) (c : Int) = some ((r : Int), (c : Int), nI (List.replicate (r * c) 0)) := by
  unfold recoupref03_Zero.f
  rw [w64_mul (by omega), if_pos (by omega), Int.toNat_natCast, if_pos h, nI_rep]
theorem pu_copy5 (xs : List UInt8) (h : xs.length < 140737488355328) : recoupref01_Copy.f (nI xs) = some (nI xs) := by
  unfold recoupref01_Copy.f
  rw [Option.bind_some, if_pos (by rw [nI_length]; simpa using h), List.nil_append]
theorem pu_eq5 (l : List Int) : recoupref01_Same.f l l = some true := by
  unfold recoupref01_Same.f
  rw [beq_self_eq_true]
theorem pu_like5 (r c : Int) (l : List Int) (e : Int) : recouplaw05_like.f r c l e r c l e = some true := by
  unfold recouplaw05_like.f recoupref03_Like.f
  rw [if_pos rfl, if_pos rfl, if_pos rfl, pu_eq5]
  rfl
theorem mem_take_iff {xs : List UInt8} {n : Nat} {x : UInt8} (h : x ∈ xs.take n) : ∃ k, k < n ∧ k < xs.length ∧ xs.getD k 0 = x := by
  obtain ⟨k, hk, e⟩ := List.mem_iff_getElem.1 h
  rw [List.length_take] at hk
  refine ⟨k, by omega, by omega, ?_⟩
  rw [List.getElem_take] at e
  rw [← e]
  simp [List.getD, show k < xs.length by omega]
def cauR (xs ys : List UInt8) : Int := if cauE xs ys = 0 then (xs.length : Int) else 0
def cauK (xs ys : List UInt8) : Int := if cauE xs ys = 0 then (ys.length : Int) else 0
def cauD (xs ys : List UInt8) : List UInt8 := if cauE xs ys = 0 then cauG xs ys else []
theorem g_cauchy (xs ys : List UInt8) (hx : xs.length ≤ 140737488355328) (hy : ys.length ≤ 140737488355328) : build_Cauchy.f (nI xs) (nI ys) = some (cauR xs ys, cauK xs ys, nI (cauD xs ys), cauE xs ys) := by
  unfold build_Cauchy.f
  rw [inU_nI, inU_nI, nI_length, nI_length, decide_eq_true hx, decide_eq_true hy, nI_toU, nI_toU]
  rfl
theorem pu_rcauchy (xs ys : List UInt8) : Ev (fun k => recoupref05_Cauchy.f k (nI xs) (nI ys)) (cauR xs ys, cauK xs ys, nI (cauD xs ys), cauE xs ys) := by
  have herr : ∀ E : Int, cauE xs ys = E → E ≠ 0 → (cauR xs ys, cauK xs ys, nI (cauD xs ys), cauE xs ys) = ((0 : Int), (0 : Int), nI [], E) := by
    intro E h hE
    unfold cauR cauK cauD
    rw [h, if_neg hE, if_neg hE, if_neg hE]
  have hbig : 64 < xs.length ∨ 64 < ys.length → Ev (fun k => recoupref05_Cauchy.j0 k (nI xs) (nI ys) true) (cauR xs ys, cauK xs ys, nI (cauD xs ys), cauE xs ys) := by
    intro h
    rw [herr 4 (by unfold cauE; rw [if_pos h]) (by omega)]
    refine Ev.step (f := fun _ => some ((0 : Int), (0 : Int), nI [], (4 : Int))) (fun k => ?_) (Ev.now _)
    rw [recoupref05_Cauchy.j0, if_pos rfl]
    rfl
  unfold recoupref05_Cauchy.f
  rw [nI_length, nI_length]
  by_cases h1 : (xs.length : Int) > 64
  · simp only [if_pos h1]; exact hbig (.inl (by omega))
  · simp only [if_neg h1]
    by_cases h2 : (ys.length : Int) > 64
    · rw [decide_eq_true h2]; exact hbig (.inr (by omega))
    · rw [decide_eq_false h2]
      obtain ⟨n, hn⟩ : ∃ n, n = xs.length := ⟨_, rfl⟩
      obtain ⟨m, hm⟩ : ∃ m, m = ys.length := ⟨_, rfl⟩
      obtain ⟨al, hal⟩ : ∃ al, al = xs ++ ys := ⟨_, rfl⟩
      have hall : al.length = n + m := by rw [hal, List.length_append, ← hn, ← hm]
      have hnm : n * m ≤ 4096 := Nat.le_trans (Nat.mul_le_mul (show n ≤ 64 by omega) (show m ≤ 64 by omega)) (by omega)
      have hE : cauE xs ys = if dupB al = true then 2 else 0 := by unfold cauE; rw [if_neg (by omega), hal]
      have hfill : cauE xs ys = 0 → Ev (fun k => recoupref05_Cauchy.l2 k (nI xs) (nI ys) 0 (n : Int) (m : Int) (nI (fillT n m (cauF xs ys) 0 0))) (cauR xs ys, cauK xs ys, nI (cauD xs ys), cauE xs ys) := by
        intro h0
        have hres : (cauR xs ys, cauK xs ys, nI (cauD xs ys), cauE xs ys) = ((n : Int), (m : Int), nI (fillT n m (cauF xs ys) n 0), (0 : Int)) := by
          unfold cauR cauK cauD
          rw [h0, if_pos rfl, if_pos rfl, if_pos rfl, fillT_end, hn, hm]
          rfl
        rw [hres]
        have hin : ∀ i, i < n → Ev (fun k => recoupref05_Cauchy.l2 k (nI xs) (nI ys) ((i + 1 : Nat) : Int) (n : Int) (m : Int) (nI (fillT n m (cauF xs ys) (i + 1) 0))) ((n : Int), (m : Int), nI (fillT n m (cauF xs ys) n 0), (0 : Int)) →
            ∀ d j, j + d = m → Ev (fun k => recoupref05_Cauchy.l3 k (nI xs) (nI ys) (i : Int) (j : Int) (n : Int) (m : Int) (nI (fillT n m (cauF xs ys) i j))) ((n : Int), (m : Int), nI (fillT n m (cauF xs ys) n 0), (0 : Int)) := by
          intro i hi hr d
          induction d with
          | zero =>
            intro j hj
            obtain rfl : j = m := by omega
            refine Ev.step (fun k => ?_) hr
            rw [recoupref05_Cauchy.l3, if_neg (by rw [nI_length]; omega), w64_succ (by omega), fillT_next]
          | succ d ih =>
            intro j hj
            have hp := place_lt (show i < n from hi) (show j < m by omega)
            refine Ev.step (fun k => ?_) (ih (j + 1) (by omega))
            rw [recoupref05_Cauchy.l3, if_pos (by rw [nI_length]; omega), if_pos (by omega), if_pos (by rw [nI_length]; omega), if_pos (by omega), rd_nI, rd_nI, add_xor, g_rinv, Option.bind_some, w64_place (by omega), if_pos (by omega), if_pos (by rw [nI_length, fillT_length]; omega), Int.toNat_natCast, nI_set, w64_succ (by omega)]
            have e := fillT_set (cauF xs ys) hi (show j < m by omega)
            rw [← e]
            rfl
        have hout : ∀ d i, i + d = n → Ev (fun k => recoupref05_Cauchy.l2 k (nI xs) (nI ys) (i : Int) (n : Int) (m : Int) (nI (fillT n m (cauF xs ys) i 0))) ((n : Int), (m : Int), nI (fillT n m (cauF xs ys) n 0), (0 : Int)) := by
          intro d
          induction d with
          | zero =>
            intro i hi
            obtain rfl : i = n := by omega
            refine Ev.step (f := fun _ => some ((i : Int), (m : Int), nI (fillT i m (cauF xs ys) i 0), (0 : Int))) (fun k => ?_) (Ev.now _)
            rw [recoupref05_Cauchy.l2, if_neg (by rw [nI_length]; omega)]
          | succ d ih =>
            intro i hi
            refine Ev.step (fun k => ?_) (hin i (by omega) (ih (i + 1) (by omega)) m 0 (by omega))
            rw [recoupref05_Cauchy.l2, if_pos (by rw [nI_length]; omega)]
            rfl
        exact hout n 0 (by omega)
      have hseen : ∀ i, i < al.length → al.getD i 0 ∈ al.take i → cauE xs ys = 2 := by
        intro i hi h
        rw [hE, show dupB al = true from dupTo_seen h _ hi]
        rfl
      have hone : ∀ i, i < al.length → dupTo al i = false → (dupTo al (i + 1) = false → Ev (fun k => recoupref05_Cauchy.l0 k (nI xs) (nI ys) (nI al) ((i + 1 : Nat) : Int)) (cauR xs ys, cauK xs ys, nI (cauD xs ys), cauE xs ys)) →
          ∀ d j, j + d = i → (∀ k, k < j → al.getD i 0 ≠ al.getD k 0) → Ev (fun k => recoupref05_Cauchy.l1 k (nI xs) (nI ys) (nI al) (i : Int) (j : Int)) (cauR xs ys, cauK xs ys, nI (cauD xs ys), cauE xs ys) := by
        intro i hi hd hr d
        induction d with
        | zero =>
          intro j hj hne
          obtain rfl : j = i := by omega
          refine Ev.step (fun k => ?_) (hr ?_)
          · rw [recoupref05_Cauchy.l1, if_neg (by omega), w64_succ (by omega)]
          · rw [dupTo, hd, Bool.false_or, decide_eq_false_iff_not]
            intro h
            obtain ⟨k, hk, _, e⟩ := mem_take_iff h
            exact hne k hk e.symm
        | succ d ih =>
          intro j hj hne
          by_cases e : al.getD i 0 = al.getD j 0
          · rw [herr 2 (hseen i hi (by rw [e]; exact mem_take_getD (by omega) (by omega))) (by omega)]
            refine Ev.step (f := fun _ => some ((0 : Int), (0 : Int), nI [], (2 : Int))) (fun k => ?_) (Ev.now _)
            rw [recoupref05_Cauchy.l1, if_pos (by omega), if_pos (by omega), if_pos (by rw [nI_length]; omega), if_pos (by omega), if_pos (by rw [nI_length]; omega), rd_nI, rd_nI, if_pos (by rw [e])]
            rfl
          · refine Ev.step (fun k => ?_) (ih (j + 1) (by omega) (fun k hk => ?_))
            · rw [recoupref05_Cauchy.l1, if_pos (by omega), if_pos (by omega), if_pos (by rw [nI_length]; omega), if_pos (by omega), if_pos (by rw [nI_length]; omega), rd_nI, rd_nI, if_neg (fun h => e (UInt8.toNat_inj.1 (by omega))), w64_succ (by omega)]
            · rcases Nat.lt_or_ge k j with h | h
              · exact hne k h
              · obtain rfl : k = j := by omega
                exact e
      have hall0 : ∀ d i, i + d = al.length → dupTo al i = false → Ev (fun k => recoupref05_Cauchy.l0 k (nI xs) (nI ys) (nI al) (i : Int)) (cauR xs ys, cauK xs ys, nI (cauD xs ys), cauE xs ys) := by
        intro d
        induction d with
        | zero =>
          intro i hi hd
          obtain rfl : i = al.length := by omega
          have h0 : cauE xs ys = 0 := by rw [hE, show dupB al = false from hd]; rfl
          refine Ev.step (fun k => ?_) (hfill h0)
          rw [recoupref05_Cauchy.l0, if_neg (by rw [nI_length]; omega), nI_length, nI_length, ← hn, ← hm, pu_zero5 (by omega), Option.bind_some, fillT_start n m (cauF xs ys)]
        | succ d ih =>
          intro i hi hd
          refine Ev.step (fun k => ?_) (hone i (by omega) hd (fun h => ih (i + 1) (by omega) h) i 0 (by omega) (fun k hk => by omega))
          rw [recoupref05_Cauchy.l0, if_pos (by rw [nI_length]; omega)]
          rfl
      refine Ev.step (fun k => ?_) (hall0 al.length 0 (by omega) rfl)
      rw [recoupref05_Cauchy.j0, if_neg (by simp), pu_copy5 xs (by omega), Option.bind_some, if_pos (by rw [nI_length, nI_length]; omega), nI_app, ← hal]
      rfl
end Go.Proofs.Yteofcbkjhdadpaa
namespace Go.Proofs.Yteofcbkjhdadpaa
open Go.RowKit Go.Proofs.YteofcbkjhdadpaaW.PrintWords Go.Proofs.Yteofcbkjhdadpaa.Pr
set_option linter.unusedVariables false
set_option linter.unusedSimpArgs false

theorem pu_right (r c : Int) (l : List Int) : recoupref03_Right.f r c l = some (rightB r c l.length) := by
  unfold recoupref03_Right.f rightB
  by_cases h1 : r ≥ 0
  · rw [if_pos h1]
    by_cases h2 : r ≤ 64
    · rw [if_pos h2]
      by_cases h3 : c ≥ 0
      · rw [if_pos h3]
        by_cases h4 : c ≤ 64
        · rw [if_pos h4]
          have b := prod_bd h1 h2 h3 h4
          rw [w64 (by omega) (by omega)]
          congr 1
          rw [Bool.eq_iff_iff, beq_iff_eq, decide_eq_true_eq]
          exact ⟨fun h => ⟨⟨h1, h2⟩, ⟨h3, h4⟩, h⟩, fun h => h.2.2⟩
        · rw [if_neg h4]; congr 1; exact (decide_eq_false (fun h => h4 h.2.1.2)).symm
      · rw [if_neg h3]; congr 1; exact (decide_eq_false (fun h => h3 h.2.1.1)).symm
    · rw [if_neg h2]; congr 1; exact (decide_eq_false (fun h => h2 h.1.2)).symm
  · rw [if_neg h1]; congr 1; exact (decide_eq_false (fun h => h1 h.1.1)).symm
theorem pu_at {r : Int} {c i j : Nat} {xs : List UInt8} (h : i * c + j < xs.length) (hb : i * c + j ≤ 9223372036854775807) : recoupref03_At.f r (c : Int) (nI xs) (i : Int) (j : Int) = some ((xs.getD (i * c + j) 0).toNat : Int) := by
  unfold recoupref03_At.f
  rw [w64_place hb, if_pos (by omega), if_pos (by rw [nI_length]; omega), rd_nI]
theorem pu_mul8 (a b : UInt8) : recoupref01_Mul.f (a.toNat : Int) (b.toNat : Int) = some ((Gf.mul a b).toNat : Int) := by
  unfold recoupref01_Mul.f
  rw [byteB_nat, byteB_nat, toU_nat, toU_nat]
  rfl
theorem pu_zero {r c : Nat} (h : r * c ≤ 281474976710656) : recoupref03_Zero.f (r : Int) (c : Int) = some ((r : Int), (c : Int), nI (List.replicate (r * c) 0)) := by
  unfold recoupref03_Zero.f
  rw [w64_mul (by omega), if_pos (by omega), Int.toNat_natCast, if_pos h, nI_rep]
section
variable {ra ca cb : Nat} {xs ys : List UInt8}
theorem pu_mul_l2 (hra : ra ≤ 64) (hca : ca ≤ 64) (hcb : cb ≤ 64) (hx : xs.length = ra * ca) (hy : ys.length = ca * cb) {i j : Nat} (hi : i < ra) (hj : j < cb) {r : Int × Int × List Int × Int}
    (hr : Ev (fun k => recoupref03_Mul.l1 k (i : Int) ((j + 1 : Nat) : Int) ra ca (nI xs) ca cb (nI ys) ra cb (nI (fillT ra cb (mulF ca cb xs ys) i (j + 1)))) r) :
    ∀ d q, q + d = ca → Ev (fun k => recoupref03_Mul.l2 k (i : Int) (j : Int) (q : Int) ra ca (nI xs) ca cb (nI ys) ra cb (nI ((fillT ra cb (mulF ca cb xs ys) i j).set (i * cb + j) (sumF q fun t => Gf.mul (xs.getD (i * ca + t) 0) (ys.getD (t * cb + j) 0))))) r := by
  have hp := place_lt hi hj
  have hpb : ra * cb ≤ 64 * 64 := Nat.mul_le_mul hra hcb
  have hab : ra * ca ≤ 64 * 64 := Nat.mul_le_mul hra hca
  have hbb : ca * cb ≤ 64 * 64 := Nat.mul_le_mul hca hcb
  intro d
  induction d with
  | zero =>
    intro q hq
    obtain rfl : q = ca := by omega
    refine Ev.step (fun k => ?_) hr
    rw [recoupref03_Mul.l2, if_neg (by omega), w64_succ (by omega)]
    have e := fillT_set (R := ra) (C := cb) (mulF q cb xs ys) hi hj
    rw [← e]
    rfl
  | succ d ih =>
    intro q hq
    refine Ev.step (fun k => ?_) (ih (q + 1) (by omega))
    have h1 := place_lt hi (show q < ca by omega)
    have h2 := place_lt (show q < ca by omega) hj
    rw [recoupref03_Mul.l2, if_pos (by omega), w64_place (by omega), if_pos (by omega), if_pos (by rw [nI_length, List.length_set, fillT_length]; omega),
      pu_at (by omega) (by omega), Option.bind_some, pu_at (by omega) (by omega), Option.bind_some, pu_mul8, Option.bind_some, w64_succ (by omega), Int.toNat_natCast, rd_nI,
      getD_set_same _ _ _ (by rw [fillT_length]; omega), add_xor, nI_set, List.set_set]
    rfl
theorem pu_mul_l1 (hra : ra ≤ 64) (hca : ca ≤ 64) (hcb : cb ≤ 64) (hx : xs.length = ra * ca) (hy : ys.length = ca * cb) {i : Nat} (hi : i < ra) {r : Int × Int × List Int × Int}
    (hr : Ev (fun k => recoupref03_Mul.l0 k ((i + 1 : Nat) : Int) ra ca (nI xs) ca cb (nI ys) ra cb (nI (fillT ra cb (mulF ca cb xs ys) (i + 1) 0))) r) :
    ∀ d j, j + d = cb → Ev (fun k => recoupref03_Mul.l1 k (i : Int) (j : Int) ra ca (nI xs) ca cb (nI ys) ra cb (nI (fillT ra cb (mulF ca cb xs ys) i j))) r := by
  intro d
  induction d with
  | zero =>
    intro j hj
    obtain rfl : j = cb := by omega
    refine Ev.step (fun k => ?_) hr
    rw [recoupref03_Mul.l1, if_neg (by omega), w64_succ (by omega), fillT_next]
  | succ d ih =>
    intro j hj
    have h0 := pu_mul_l2 hra hca hcb hx hy hi (show j < cb by omega) (ih (j + 1) (by omega)) ca 0 (by omega)
    refine Ev.step (fun k => ?_) h0
    rw [recoupref03_Mul.l1, if_pos (by omega)]
    have e := fillT_at (R := ra) (C := cb) (mulF ca cb xs ys) hi (show j < cb by omega)
    simp only [sumF]
    rw [e]
    rfl
theorem pu_mul_l0 (hra : ra ≤ 64) (hca : ca ≤ 64) (hcb : cb ≤ 64) (hx : xs.length = ra * ca) (hy : ys.length = ca * cb) :
    ∀ d i, i + d = ra → Ev (fun k => recoupref03_Mul.l0 k (i : Int) ra ca (nI xs) ca cb (nI ys) ra cb (nI (fillT ra cb (mulF ca cb xs ys) i 0))) ((ra : Int), (cb : Int), nI (mulG ra ca cb xs ys), 0) := by
  intro d
  induction d with
  | zero =>
    intro i hi
    obtain rfl : i = ra := by omega
    refine Ev.step (fun k => ?_) (Ev.now _)
    rw [recoupref03_Mul.l0, if_neg (by omega), fillT_end]
    rfl
  | succ d ih =>
    intro i hi
    have h0 := pu_mul_l1 hra hca hcb hx hy (show i < ra by omega) (ih (i + 1) (by omega)) cb 0 (by omega)
    refine Ev.step (fun k => ?_) h0
    rw [recoupref03_Mul.l0, if_pos (by omega)]
    rfl
end
/-- the document's Mul -/
theorem pu_mul (ra ca rb cb : Int) (xs ys : List UInt8) :
    Ev (fun k => recoupref03_Mul.f k ra ca (nI xs) rb cb (nI ys)) (if mulB ra ca xs.length rb cb ys.length = true then (ra, cb, nI (mulG ra.toNat ca.toNat cb.toNat xs ys), 0) else (0, 0, [], 3)) := by
  unfold recoupref03_Mul.f
  simp only [pu_right, nI_length, Option.bind_some]
  by_cases h1 : rightB ra ca xs.length = true
  · by_cases h2 : rightB rb cb ys.length = true
    · simp only [h1, h2, if_true]
      by_cases h3 : ca = rb
      · have hm : mulB ra ca xs.length rb cb ys.length = true := by unfold mulB; rw [h1, h2]; simp [h3]
        rw [if_pos hm]
        obtain ⟨a, b, c, rfl, rfl, rfl, rfl, k1, k2, k3, k4, k5⟩ := mulB_natW hm
        have hpb : a * c ≤ 64 * 64 := Nat.mul_le_mul k1 k3
        have h0 := pu_mul_l0 k1 k2 k3 k4 k5 a 0 (by omega)
        refine Ev.step (fun k => ?_) h0
        rw [recoupref03_Mul.j0, if_neg (by simp), pu_zero (by omega), Option.bind_some, fillT_start a c (mulF b c xs ys)]
        rfl
      · have hm : ¬ mulB ra ca xs.length rb cb ys.length = true := by simp [mulB, h3]
        rw [if_neg hm]
        refine Ev.step (fun k => ?_) (Ev.now _)
        rw [recoupref03_Mul.j0, if_pos (by simpa using h3)]
    · have hm : ¬ mulB ra ca xs.length rb cb ys.length = true := by simp [mulB, h2]
      simp only [h1, h2, if_true, Bool.false_eq_true, if_false]
      rw [if_neg hm]
      refine Ev.step (fun k => ?_) (Ev.now _)
      rw [recoupref03_Mul.j0, if_pos rfl]
  · have hm : ¬ mulB ra ca xs.length rb cb ys.length = true := by simp [mulB, h1]
    simp only [h1, Bool.false_eq_true, if_false]
    rw [if_neg hm]
    refine Ev.step (fun k => ?_) (Ev.now _)
    rw [recoupref03_Mul.j0, if_pos rfl]
end Go.Proofs.Yteofcbkjhdadpaa
namespace Go.Proofs.Yteofcbkjhdadpaa
open Go.RowKit Go.Proofs.YteofcbkjhdadpaaW.PrintWords Go.Proofs.Yteofcbkjhdadpaa.Pr
set_option linter.unusedVariables false
set_option linter.unusedSimpArgs false

theorem rightB_nat {n c l : Nat} (hn : n ≤ 64) (hc : c ≤ 64) (h : l = n * c) : rightB (n : Int) (c : Int) l = true := by
  unfold rightB
  rw [decide_eq_true_eq]
  refine ⟨⟨by omega, by omega⟩, ⟨by omega, by omega⟩, ?_⟩
  rw [h, Int.natCast_mul]
/-- what Systematic answers -/
def sysV (a0 a1 : Int) (xs : List UInt8) : Int × Int × List Int × Int :=
  if tallB a0 a1 xs.length = true then (if (sysR a1.toNat xs).2.2.length < a1.toNat then (0, 0, [], 6) else (a0, a1, nI (mulG a0.toNat a1.toNat a1.toNat xs (sysR a1.toNat xs).2.1.flatten), 0)) else (0, 0, [], 3)
theorem g_sys (a0 a1 : Int) (xs : List UInt8) : build_Systematic.f a0 a1 (nI xs) = some (sysV a0 a1 xs) := by
  unfold build_Systematic.f sysV
  rw [inU_nI, if_pos rfl, nI_length, nI_toU]
  split
  · split <;> rfl
  · rfl
/-! Vandermonde -/
def vanF (i j : Nat) : UInt8 := Gf.npow (UInt8.ofNat i) j
def vanD (r c : Nat) : List UInt8 := gridD r c vanF
def sidesB (a0 a1 : Int) : Bool := decide ((0 ≤ a0 ∧ a0 ≤ 64) ∧ (0 ≤ a1 ∧ a1 ≤ 64))
def vanV (a0 a1 : Int) : Int × Int × List Int × Int := if sidesB a0 a1 = true then (a0, a1, nI (vanD a0.toNat a1.toNat), 0) else (0, 0, [], 2)
theorem sides_nat {a0 a1 : Int} (h : sidesB a0 a1 = true) : ∃ a b : Nat, a0 = a ∧ a1 = b ∧ a ≤ 64 ∧ b ≤ 64 := by
  have h := of_decide_eq_true h
  exact ⟨a0.toNat, a1.toNat, by omega, by omega, by omega, by omega⟩
theorem byte_nat (n : Nat) : ((n : Int) % 256) = ((UInt8.ofNat n).toNat : Int) := by
  rw [UInt8.toNat_ofNat']
  omega
theorem g_fmul (a b : UInt8) : field_Mul.f (a.toNat : Int) (b.toNat : Int) = some ((Gf.mul a b).toNat : Int) := by
  unfold field_Mul.f
  rw [byteB_nat, byteB_nat, toU_nat, toU_nat]
  rfl
theorem g_side (n : Int) : matrix_side.f n = some (decide (0 ≤ n ∧ n ≤ 64)) := by
  unfold matrix_side.f
  by_cases h1 : n ≥ 0
  · rw [if_pos h1]
    congr 1
    rw [Bool.eq_iff_iff, decide_eq_true_eq, decide_eq_true_eq]
    omega
  · rw [if_neg h1, decide_eq_false (by omega)]
theorem g_make (a0 a1 : Int) : matrix_Make.f a0 a1 = some (if sidesB a0 a1 = true then (a0, a1, nI (List.replicate (a0.toNat * a1.toNat) 0), 0) else (0, 0, [], 2)) := by
  unfold matrix_Make.f
  rw [g_side, g_side, Option.bind_some, Option.bind_some]
  by_cases h1 : 0 ≤ a0 ∧ a0 ≤ 64
  · rw [if_pos (decide_eq_true h1)]
    by_cases h2 : 0 ≤ a1 ∧ a1 ≤ 64
    · rw [if_pos (decide_eq_true h2)]
      have hs : sidesB a0 a1 = true := decide_eq_true ⟨h1, h2⟩
      rw [if_pos hs]
      obtain ⟨a, b, rfl, rfl, ha, hb⟩ := sides_nat hs
      have hab : a * b ≤ 64 * 64 := Nat.mul_le_mul ha hb
      unfold matrix_blank.f
      rw [w64_mul (by omega), if_pos (by omega), Int.toNat_natCast, if_pos (by omega), Option.bind_some, nI_rep, Int.toNat_natCast, Int.toNat_natCast]
    · rw [if_neg (by simpa using h2), if_neg (by unfold sidesB; simp; omega)]
  · rw [if_neg (by simpa using h1), if_neg (by unfold sidesB; simp; omega)]
theorem g_van (a0 a1 : Int) : Ev (fun k => build_Vandermonde.f k a0 a1) (vanV a0 a1) := by
  unfold build_Vandermonde.f
  simp only [g_make, Option.bind_some]
  by_cases hs : sidesB a0 a1 = true
  · simp only [if_pos hs, if_true]
    unfold vanV
    rw [if_pos hs]
    obtain ⟨a, b, rfl, rfl, ha, hb⟩ := sides_nat hs
    have hab : a * b ≤ 64 * 64 := Nat.mul_le_mul ha hb
    rw [Int.toNat_natCast, Int.toNat_natCast, fillT_start a b vanF]
    have hl1 : ∀ i, i < a → Ev (fun k => build_Vandermonde.l0 k (b : Int) (a : Int) ((i + 1 : Nat) : Int) (a : Int) (b : Int) (nI (fillT a b vanF (i + 1) 0))) ((a : Int), (b : Int), nI (vanD a b), (0 : Int)) →
        ∀ d j, j + d = b → Ev (fun k => build_Vandermonde.l1 k (b : Int) (i : Int) ((vanF i j).toNat : Int) (a : Int) (i : Int) (b : Int) (j : Int) (a : Int) (b : Int) (nI (fillT a b vanF i j))) ((a : Int), (b : Int), nI (vanD a b), (0 : Int)) := by
      intro i hi hr d
      induction d with
      | zero =>
        intro j hj
        obtain rfl : j = b := by omega
        refine Ev.step (fun k => ?_) hr
        rw [build_Vandermonde.l1, if_neg (by omega), w64_succ (by omega), fillT_next]
      | succ d ih =>
        intro j hj
        have hlt := place_lt hi (show j < b by omega)
        refine Ev.step (fun k => ?_) (ih (j + 1) (by omega))
        rw [build_Vandermonde.l1, if_pos (by omega), w64_place (by omega), if_pos (by omega), if_pos (by rw [nI_length, fillT_length]; omega), byte_nat, g_fmul, Option.bind_some, Int.toNat_natCast, nI_set, w64_succ (by omega), fillT_set vanF hi (show j < b by omega)]
        rfl
    have hl0 : ∀ d i, i + d = a → Ev (fun k => build_Vandermonde.l0 k (b : Int) (a : Int) (i : Int) (a : Int) (b : Int) (nI (fillT a b vanF i 0))) ((a : Int), (b : Int), nI (vanD a b), (0 : Int)) := by
      intro d
      induction d with
      | zero =>
        intro i hi
        obtain rfl : i = a := by omega
        refine Ev.step (f := fun _ => some ((i : Int), (b : Int), nI (vanD i b), (0 : Int))) (fun k => ?_) (Ev.now _)
        rw [build_Vandermonde.l0, if_neg (by omega), fillT_end]
        rfl
      | succ d ih =>
        intro i hi
        have h1 := hl1 i (by omega) (ih (i + 1) (by omega)) b 0 (by omega)
        refine Ev.step (fun k => ?_) h1
        rw [build_Vandermonde.l0, if_pos (by omega)]
        rfl
    exact hl0 a 0 (by omega)
  · unfold vanV
    simp only [if_neg hs]
    exact Ev.now _
/-! Reed -/
def mayB (a0 a1 : Int) : Bool := decide (1 ≤ a0 ∧ 0 ≤ a1 ∧ a0 + a1 ≤ 64)
theorem g_may (a0 a1 : Int) : build_may.f a0 a1 = some (mayB a0 a1) := by
  unfold build_may.f mayB
  by_cases h1 : a0 ≥ 1
  · rw [if_pos h1]
    by_cases h2 : a0 ≤ 64
    · rw [if_pos h2]
      by_cases h3 : a1 ≥ 0
      · rw [if_pos h3, w64 (by omega) (by omega)]
        congr 1
        rw [Bool.eq_iff_iff, decide_eq_true_eq, decide_eq_true_eq]
        omega
      · rw [if_neg h3, decide_eq_false (by omega)]
    · rw [if_neg h2]
      congr 1
      exact (decide_eq_false (by omega)).symm
  · rw [if_neg h1, decide_eq_false (by omega)]
def reedV (a0 a1 : Int) : Int × Int × List Int × Int := if mayB a0 a1 = true then sysV (a0 + a1) a0 (vanD (a0 + a1).toNat a0.toNat) else (0, 0, [], 2)
theorem reed_van {a0 a1 : Int} (h : mayB a0 a1 = true) : wrap64 (a0 + a1) = a0 + a1 ∧ vanV (a0 + a1) a0 = (a0 + a1, a0, nI (vanD (a0 + a1).toNat a0.toNat), 0) := by
  have h := of_decide_eq_true h
  refine ⟨w64 (by omega) (by omega), ?_⟩
  unfold vanV
  rw [if_pos (show sidesB (a0 + a1) a0 = true from decide_eq_true (by omega))]
theorem g_reed (a0 a1 : Int) : Ev (fun k => build_Reed.f k a0 a1) (reedV a0 a1) := by
  unfold build_Reed.f reedV
  simp only [g_may, Option.bind_some]
  by_cases h : mayB a0 a1 = true
  · obtain ⟨e1, e2⟩ := reed_van h
    have hv := g_van (a0 + a1) a0
    rw [e2] at hv
    simp only [if_pos h, e1]
    refine Ev.bind hv ?_
    simp only [if_true, g_sys, Option.bind_some]
    exact Ev.now _
  · simp only [if_neg h]
    exact Ev.now _
end Go.Proofs.Yteofcbkjhdadpaa
namespace Go.Proofs.Yteofcbkjhdadpaa
open Go.RowKit Go.Proofs.YteofcbkjhdadpaaW.PrintWords Go.Proofs.Yteofcbkjhdadpaa.Pr
set_option linter.unusedVariables false
set_option linter.unusedSimpArgs false

/-- how many pivots a matrix has -/
def rankN (n c : Nat) (xs : List UInt8) : Nat := (redM n c xs).2.2.length
theorem pu_rank {n c : Nat} {xs : List UInt8} (hn : n ≤ 64) (hc : c ≤ 64) (hx : xs.length = n * c) : recoupref04_Rank.f (n : Int) (c : Int) (nI xs) = some ((rankN n c xs : Int), 0) := by
  unfold recoupref04_Rank.f recoupref04_Reduce.f
  rw [inU_nI, if_pos rfl, nI_length, rightB_nat hn hc hx, if_pos rfl, nI_toU, Option.bind_some, nZ_len, Int.toNat_natCast, Int.toNat_natCast]
  rfl
theorem redM_F {n c : Nat} {xs : List UInt8} (hx : xs.length = n * c) : ∃ L' A', RedF n c 0 0 (atL (rowsL xs n c)) (atL (List.replicate n [])) [] L' A' (redM n c xs).2.2 :=
  ⟨_, _, ((redOf_red n c (rowsL xs n c) (List.replicate n [])).toF (rows_rect hx) (rect_none n)).1⟩
/-- an entry of a list read as rows -/
theorem rows_at {n c : Nat} {xs : List UInt8} (hx : xs.length = n * c) {i j : Nat} (hi : i < n) (hj : j < c) : atL (rowsL xs n c) i j = xs.getD (i * c + j) 0 := by
  rw [← flat_at (rows_rect hx) hi hj, rows_flat hx]
theorem rank_tall {n c : Nat} {xs : List UInt8} (hx : xs.length = n * c) (h : ∀ z : Nat → UInt8, (∀ i, i < n → smF (fun j => Gf.mul (xs.getD (i * c + j) 0) (z j)) c = 0) → ∀ j, j < c → z j = 0) : rankN n c xs = c := by
  obtain ⟨L', A', hF⟩ := redM_F hx
  refine hF.rank_full.2 fun z hz => h z fun i hi => ?_
  exact (smF_congr fun j hj => by rw [rows_at hx hi hj]).trans (hz i hi)
theorem rank_wide {n c : Nat} {xs : List UInt8} (hx : xs.length = n * c) (h : ∀ z : Nat → UInt8, (∀ j, j < c → smF (fun i => Gf.mul (z i) (xs.getD (i * c + j) 0)) n = 0) → ∀ i, i < n → z i = 0) : rankN n c xs = n := by
  obtain ⟨L', A', hF⟩ := redM_F hx
  refine hF.rank_rows fun z hz => h z fun j hj => ?_
  exact (smF_congr fun i hi => by rw [rows_at hx hi hj]).trans (hz j hj)
theorem cau_dist {xs ys : List UInt8} (h : dupB (xs ++ ys) = false) : (∀ i i', i < xs.length → i' < xs.length → i ≠ i' → xs.getD i 0 ≠ xs.getD i' 0) ∧ (∀ j j', j < ys.length → j' < ys.length → j ≠ j' → ys.getD j 0 ≠ ys.getD j' 0) ∧ ∀ i j, i < xs.length → j < ys.length → xs.getD i 0 ≠ ys.getD j 0 := by
  refine ⟨fun i i' h1 h2 hne => ?_, fun j j' h1 h2 hne => ?_, fun i j h1 h2 e => ?_⟩
  · have e := dup_ne h (i := i) (j := i') (by rw [List.length_append]; omega) (by rw [List.length_append]; omega) hne
    rwa [app_left h1, app_left h2] at e
  · have e := dup_ne h (i := xs.length + j) (j := xs.length + j') (by rw [List.length_append]; omega) (by rw [List.length_append]; omega) (by omega)
    rwa [app_right, app_right] at e
  · have e2 := cau_ne h h1 h2
    rw [e, Gf.add_self] at e2
    exact e2 rfl
theorem cau_rank {xs ys : List UInt8} (h : dupB (xs ++ ys) = false) : rankN xs.length ys.length (cauG xs ys) = min xs.length ys.length := by
  obtain ⟨d1, d2, d3⟩ := cau_dist h
  have hl : (cauG xs ys).length = xs.length * ys.length := grid_length _ _ _
  rcases Nat.le_total ys.length xs.length with hle | hle
  · rw [Nat.min_eq_right hle]
    refine rank_tall hl fun z hz => cau_ker ys.length xs.length (fun i => xs.getD i 0) (fun j => ys.getD j 0) z hle d1 d2 d3 fun i hi => ?_
    exact (smF_congr fun j hj => by
      unfold cauG
      rw [grid_getD _ hi hj]
      rfl).trans (hz i hi)
  · rw [Nat.min_eq_left hle]
    refine rank_wide hl fun z hz => cau_ker xs.length ys.length (fun j => ys.getD j 0) (fun i => xs.getD i 0) z hle d2 d1 (fun j i hj hi e => d3 i j hi hj e.symm) fun j hj => ?_
    exact (smF_congr fun i hi => by
      unfold cauG
      rw [grid_getD _ hi hj, Gf.mul_comm, Gf.add_comm]
      rfl).trans (hz j hj)
theorem reed_small : reedV 2 1 = (3, 2, [1, 0, 0, 1, 3, 2], 0) := by decide +kernel
theorem pu_anch : Ev (fun k => recouplaw05_anchored.f k) true := by
  unfold recouplaw05_anchored.f
  have h := g_reed 2 1
  rw [reed_small] at h
  refine Ev.bind h ?_
  simp only [if_true]
  unfold recoupref03_Like.f
  simp only [if_true]
  unfold recoupref01_Same.f
  simp only [beq_self_eq_true, Option.bind_some]
  exact Ev.now _
theorem mn_nat (a b : Nat) : mn (a : Int) (b : Int) = ((min a b : Nat) : Int) := by
  unfold mn
  split <;> omega
theorem squares_pure (xs ys : List UInt8) (hx : xs.length ≤ 140737488355328) (hy : ys.length ≤ 140737488355328) : ∃ k, recouplaw05_BuildSquares.f k (nI xs) (nI ys) = some true := by
  refine Ev.rounds ?_
  unfold recouplaw05_BuildSquares.f
  simp only [g_cauchy xs ys hx hy, Option.bind_some]
  refine Ev.bind (pu_rcauchy xs ys) ?_
  by_cases hE : cauE xs ys = 0
  · have hsz : ¬ (64 < xs.length ∨ 64 < ys.length) := fun h => by unfold cauE at hE; rw [if_pos h] at hE; omega
    have hd : dupB (xs ++ ys) = false := by
      unfold cauE at hE
      rw [if_neg hsz] at hE
      cases hb : dupB (xs ++ ys)
      · rfl
      · rw [hb] at hE; simp at hE
    have hl : (cauG xs ys).length = xs.length * ys.length := grid_length _ _ _
    have hn : xs.length ≤ 64 := by omega
    have hm : ys.length ≤ 64 := by omega
    have hnm : xs.length * ys.length ≤ 64 * 64 := Nat.mul_le_mul hn hm
    have e1 : cauR xs ys = (xs.length : Int) := if_pos hE
    have e2 : cauK xs ys = (ys.length : Int) := if_pos hE
    have e3 : cauD xs ys = cauG xs ys := if_pos hE
    simp only [hE, e1, e2, e3, if_true, pu_right, nI_length, hl, rightB_nat hn hm rfl, Option.bind_some, bne_self_eq_false]
    have hend : Ev (fun k => (recoupref04_Rank.f (xs.length : Int) (ys.length : Int) (nI (cauG xs ys))).bind fun bt496 => ((recouplaw05_anchored.f k).bind fun t498 => (if t498 = true then (some (bt496.1 == (mn (xs.length : Int) (ys.length : Int)))) else (some false)))) true := by
      simp only [pu_rank hn hm hl, Option.bind_some]
      refine Ev.bind pu_anch ?_
      simp only [if_true, mn_nat, cau_rank hd, beq_self_eq_true]
      exact Ev.now _
    have hl1 : ∀ i, i < xs.length → Ev (fun k => recouplaw05_BuildSquares.l0 k (nI xs) (nI ys) ((i + 1 : Nat) : Int) (xs.length : Int) (ys.length : Int) (nI (cauG xs ys))) true →
        ∀ d j, j + d = ys.length → Ev (fun k => recouplaw05_BuildSquares.l1 k (nI xs) (nI ys) (i : Int) (j : Int) (xs.length : Int) (ys.length : Int) (nI (cauG xs ys))) true := by
      intro i hi hr d
      induction d with
      | zero =>
        intro j hj
        refine Ev.step (fun k => ?_) hr
        rw [recouplaw05_BuildSquares.l1, if_neg (by rw [nI_length]; omega), w64_succ (by omega)]
      | succ d ih =>
        intro j hj
        have hlt := place_lt hi (show j < ys.length by omega)
        refine Ev.step (fun k => ?_) (ih (j + 1) (by omega))
        have eg : (cauG xs ys).getD (i * ys.length + j) 0 = Gf.inv (Gf.add (xs.getD i 0) (ys.getD j 0)) := grid_getD (cauF xs ys) hi (by omega)
        rw [recouplaw05_BuildSquares.l1, if_pos (by rw [nI_length]; omega), pu_at (by omega) (by omega), Option.bind_some, if_pos (by omega), if_pos (by rw [nI_length]; omega), if_pos (by omega), rd_nI, rd_nI, add_xor, eg, pu_mul8, Option.bind_some, Gf.inv_mul (cau_ne hd hi (by omega)), if_pos (by rfl), w64_succ (by omega)]
    have hl0 : ∀ d i, i + d = xs.length → Ev (fun k => recouplaw05_BuildSquares.l0 k (nI xs) (nI ys) (i : Int) (xs.length : Int) (ys.length : Int) (nI (cauG xs ys))) true := by
      intro d
      induction d with
      | zero =>
        intro i hi
        refine Ev.step (fun k => ?_) hend
        rw [recouplaw05_BuildSquares.l0, if_neg (by rw [nI_length]; omega)]
        simp only [nI_length]
      | succ d ih =>
        intro i hi
        have h1 := hl1 i (by omega) (ih (i + 1) (by omega)) ys.length 0 (by omega)
        refine Ev.step (fun k => ?_) h1
        rw [recouplaw05_BuildSquares.l0, if_pos (by rw [nI_length]; omega)]
        rfl
    refine Ev.step (fun k => ?_) (hl0 xs.length 0 (by omega))
    rw [recouplaw05_BuildSquares.j0, if_neg (by simp)]
    rfl
  · simp only [if_neg hE]
    refine Ev.bind pu_anch ?_
    simp only [if_true]
    have e : (cauE xs ys != 0) = true := by rw [bne_iff_ne]; exact hE
    rw [e]
    exact Ev.now _
theorem buildSquares_calls (a0 : Option Addr) (n0 c0 : Nat) (x0 : List UInt8) (a1 : Option Addr) (n1 c1 : Nat) (x1 : List UInt8) (w : World)
    (r0 : Rd w w.heap.size a0 n0 (bVs x0)) (l0 : n0 ≤ c0) (m0 : c0 ≤ 140737488351232) (r1 : Rd w w.heap.size a1 n1 (bVs x1)) (l1 : n1 ≤ c1) (m1 : c1 ≤ 140737488351232) :
    Calls Try.prog 5 #[.slice a0 n0 c0, .slice a1 n1 c1] w fun e w' => e = .returned (.bool true) ∧ Below w.heap.size w w' := by
  obtain rfl : x0.length = n0 := by have := r0.len; rw [bVs_length] at this; exact this
  obtain rfl : x1.length = n1 := by have := r1.len; rw [bVs_length] at this; exact this
  obtain ⟨k, h⟩ := squares_pure x0 x1 (by omega) (by omega)
  have hc := recouplaw05_BuildSquares.calls k a0 c0 (nI x0) a1 c1 (nI x1) true w (C_of_rd r0 (by omega)) (by rw [nI_length]; exact l0) (C_of_rd r1 (by omega)) (by rw [nI_length]; exact l1) rfl h
  rw [nI_length, nI_length] at hc
  exact hc
end Go.Proofs.Yteofcbkjhdadpaa
namespace Go.Proofs.Yteofcbkjhdadpaa.buildSquares
open Go.ChangeShapes Go.WideShapes Go.ChangeAt Go.RowKit

set_option linter.unusedVariables false

set_option maxRecDepth 100000 in
theorem lifted (os : Os) (started : os.Started) (H : Type) (enc : TypeId × Value → H) :
    ReturnsInHanded {} Try.checked os 5 .any (Rows.buildSquaresSpec.pre6 enc Try.prog Try.f5 Rows.buildSquaresRow.domain false) (Rows.buildSquaresSpec.post enc Try.prog Try.f5 false true false false) := by
  refine returnsInHanded_of_change_sized (C := Try.checked) own_knob started (by kernel_rfl) Try.func5
    (ChangeSpec.witness6 (enc := enc) (C := Try.checked) false ⟨#[], #[.slice none 0 0, .slice none 0 0], []⟩ 8 (by kernel_rfl) (by kernel_rfl) (by kernel_rfl) (by kernel_rfl)) ?_
  intro W base args ds gs before hval0 hW hcnd hsz0 _
  have hsz : (DataW.weightsEach Try.prog (Try.f5.params.toList ++ Rows.buildSquaresSpec.plain.varTypes Try.prog) (ds ++ gs)).all (· ≤ reachBytes) = true := hsz0
  have hval : ∀ (j : Nat) t v, Try.f5.params[j]? = some t → args[j]? = some v → Value.okWide Try.prog W .any base t v := hval0
  have hW' := hW
  obtain ⟨p, q, hA0, hV, rfl, hfz, hnd⟩ := hW
  have hA : DataW.TrodAll enc Try.prog W 0 (fun _ => true) true Try.f5.params.toList args.toList ds p := hA0
  rw [Try.params5] at hA hval hsz
  obtain ⟨v0, vs0, d0, ds0, p0, q0, hargs, rfl, rfl, h0, r0⟩ := trodAll_cons hA
  obtain ⟨v1, vs1, d1, ds1, p1, q1, rfl, rfl, rfl, h1, r1⟩ := trodAll_cons r0
  obtain ⟨rfl, rfl, rfl⟩ := trodAll_nil r1
  obtain rfl : args = #[v0, v1] := by cases args; simp_all
  obtain ⟨rfl, rfl⟩ := trodVars_none hV
  have k0 := h0
  have lt0 : ∀ x ∈ p0, x.block < W.heap.size := by obtain ⟨m, hm⟩ := k0; exact DataW.trod_lt m _ _ _ hm
  have k1 := h1
  have lt1 : ∀ x ∈ p1, x.block < W.heap.size := by obtain ⟨m, hm⟩ := k1; exact DataW.trod_lt m _ _ _ hm
  obtain ⟨a0, n0, c0, rfl⟩ := okWide_slice Try.underlying22 (hval 0 22 v0 rfl rfl)
  obtain ⟨x0, rd0, lc0, cm0, dd0⟩ := open_bytes h0
  have cr0 : c0 ≤ 140737488351232 := by
    rcases dd0 with ⟨_, h⟩ | ⟨es, rs, rfl, hl⟩
    · omega
    · have h := sized_slice hsz (j := 0) rfl rfl Try.underlying22
      rw [bytes_of_u8] at h
      simp only [reachBytes] at h
      omega
  obtain ⟨a1, n1, c1, rfl⟩ := okWide_slice Try.underlying22 (hval 1 22 v1 rfl rfl)
  obtain ⟨x1, rd1, lc1, cm1, dd1⟩ := open_bytes h1
  have cr1 : c1 ≤ 140737488351232 := by
    rcases dd1 with ⟨_, h⟩ | ⟨es, rs, rfl, hl⟩
    · omega
    · have h := sized_slice hsz (j := 1) rfl rfl Try.underlying22
      rw [bytes_of_u8] at h
      simp only [reachBytes] at h
      omega
  clear hA0 hval0 hsz0
  refine (buildSquares_calls a0 n0 c0 x0 a1 n1 c1 x1 W rd0 lc0 cr0 rd1 lc1 cr1).mono fun e W' ⟨he, bel⟩ => ?_
  subst he
  exact ⟨_, rfl, _, _, _, [], _, [], hW', trodAll_mk1 (shut_bool Try.underlying4 _), (trodAll_cons_mk (Below.trod laid_out (by kernel_rfl) (of_decide_eq_true (by kernel_rfl)) k0 bel lt0) (trodAll_cons_mk (Below.trod laid_out (by kernel_rfl) (of_decide_eq_true (by kernel_rfl)) k1 bel lt1) trodAll_mk0)), rfl, bel.frame _, fun h => by cases h⟩

theorem over : Rows.buildSquaresRow.holds Try.pinned (OpenSpec.ofChange Rows.buildSquaresSpec) :=
  OpenClaim.holds_of_wide 5 Try.f5 rfl rfl rfl rfl rfl rfl rfl ⟨rfl, rfl, rfl, rfl, rfl⟩ rfl rfl rfl rfl rfl (by kernel_rfl) Try.func5 (by kernel_rfl)
    (of_decide_eq_true (by kernel_rfl)) (by unfold Func.isWrapper; first | (rw [if_pos (by decide +kernel)]; kernel_rfl) | (rw [if_neg (by decide +kernel)]; exact ⟨rfl, rfl⟩))
    (fun os started H enc _ => lifted os started H enc)

theorem proved : Rows.BuildSquaresSaid := over
#print axioms proved
end Go.Proofs.Yteofcbkjhdadpaa.buildSquares
