/- The law PolyFresh, proved: for every input the call returns true and each argument reads as before. -/
import Derived.Deep.WholeRow
import Derived.Laws.NewBlocks
import Derived.WalkKit
import Derived.ProofKit
import Derived.OpenShut
import Derived.ChangeOld
import Derived.Below
import Derived.SizedLaws
import Derived.Test.YtaihgckcmcacfaaCPolyFreshx1
import Derived.Test.YtaihgckcmcacfaaCPolyFreshA1
import Derived.Test.YtaihgckcmcacfaaCPolyFreshA2
import Derived.Test.YtaihgckcmcacfaaCPolyFreshx2
import Derived.Test.YtaihgckcmcacfaaCPolyFreshx3
import Derived.Test.YtaihgckcmcacfaaCPolyFreshx4
import Derived.Test.YtaihgckcmcacfaaCPolyFreshx5
import Derived.Test.YtaihgckcmcacfaaRows
namespace Go.Proofs.Ytaihgckcmcacfaa
open Go.RowKit Go.Proofs.YtaihgckcmcacfaaW.PrintWords Go.Proofs.Ytaihgckcmcacfaa.Pr
set_option linter.unusedVariables false
set_option linter.unusedSimpArgs false

theorem pu_rmul8 (a b : UInt8) : recoupref01_Mul.f (a.toNat : Int) (b.toNat : Int) = some ((Gf.mul a b).toNat : Int) := by
  unfold recoupref01_Mul.f
  rw [byteB_nat, byteB_nat, toU_nat, toU_nat]
  rfl
theorem pu_copy (xs : List UInt8) (h : xs.length < 140737488355328) : recoupref01_Copy.f (nI xs) = some (nI xs) := by
  unfold recoupref01_Copy.f
  rw [Option.bind_some, if_pos (by rw [nI_length]; simpa using h), List.nil_append]
theorem pu_same (l : List Int) : recoupref01_Same.f l l = some true := by
  unfold recoupref01_Same.f
  rw [beq_self_eq_true]
theorem nat_zero_iff (a : UInt8) : ((a.toNat : Int) = 0) ↔ a = 0 := by
  have := u8_eq_zero a
  rw [Bool.eq_iff_iff, beq_iff_eq, decide_eq_true_eq] at this
  exact this
/-- the document's Trim -/
theorem pu_rtrim (xs : List UInt8) (h : xs.length < 140737488355328) : Ev (fun k => recoupref02_Trim.f k (nI xs)) (nI (trimL xs)) := by
  have hl : ∀ n, n ≤ xs.length → trimE xs = trimN xs n → Ev (fun k => recoupref02_Trim.l0 k (nI xs) (n : Int)) (nI (trimL xs)) := by
    intro n
    induction n with
    | zero =>
      intro _ he
      refine Ev.step (f := fun _ => some (nI (trimL xs))) (fun k => ?_) (Ev.now _)
      have e : trimL xs = [] := by unfold trimL; rw [he]; rfl
      rw [recoupref02_Trim.l0, if_neg (by omega), if_pos (by omega), if_pos (by rw [nI_length]; omega), e]
      show (recoupref01_Copy.f (nI [])).bind _ = _
      rw [pu_copy [] (by simp)]
      rfl
    | succ n ih =>
      intro hn he
      have e0 : wrap64 (((n + 1 : Nat) : Int) - 1) = (n : Int) := by rw [w64 (by omega) (by omega)]; omega
      by_cases hz : xs.getD n 0 = 0
      · refine Ev.step (fun k => ?_) (ih (by omega) (by rw [he, trimN_step hz]))
        rw [recoupref02_Trim.l0, if_pos (by omega), e0, if_pos (by omega), if_pos (by rw [nI_length]; omega), rd_nI, if_pos ((nat_zero_iff _).2 hz)]
      · refine Ev.step (f := fun _ => some (nI (trimL xs))) (fun k => ?_) (Ev.now _)
        have e1 : (nI xs).take (n + 1) = nI (trimL xs) := by rw [nI_take]; unfold trimL; rw [he, trimN_stop hz]
        have e2 := trimE_le xs
        rw [recoupref02_Trim.l0, if_pos (by omega), e0, if_pos (by omega), if_pos (by rw [nI_length]; omega), rd_nI, if_neg (fun h2 => hz ((nat_zero_iff _).1 h2)), if_pos (by omega), if_pos (by rw [nI_length]; omega), Int.toNat_natCast, e1, pu_copy _ (by rw [trimL_length]; omega)]
        rfl
  unfold recoupref02_Trim.f
  rw [nI_length]
  exact hl xs.length (Nat.le_refl _) rfl
/-- the document's Eval -/
theorem pu_reval (xs : List UInt8) (x : UInt8) (h : xs.length ≤ 140737488355328) : Ev (fun k => recoupref02_Eval.f k (nI xs) (x.toNat : Int)) ((ev xs x).toNat : Int) := by
  have hl : ∀ m d, d + m = xs.length → Ev (fun k => recoupref02_Eval.l0 k (nI xs) (x.toNat : Int) ((evN (fun i => xs.getD i 0) x d).toNat : Int) ((pwN x d).toNat : Int) (d : Int)) ((ev xs x).toNat : Int) := by
    intro m
    induction m with
    | zero =>
      intro d hd
      obtain rfl : d = xs.length := by omega
      refine Ev.step (fun k => ?_) (Ev.now _)
      rw [recoupref02_Eval.l0, if_neg (by rw [nI_length]; omega)]
      rfl
    | succ m ih =>
      intro d hd
      refine Ev.step (fun k => ?_) (ih (d + 1) (by omega))
      rw [recoupref02_Eval.l0, if_pos (by rw [nI_length]; omega), if_pos (by omega), rd_nI, pu_rmul8, Option.bind_some, pu_rmul8, Option.bind_some, add_xor, w64_succ (by omega)]
      rfl
  unfold recoupref02_Eval.f
  exact hl xs.length 0 (by omega)
theorem g_trim (xs : List UInt8) (h : xs.length ≤ 140737488355328) : poly_Trim.f (nI xs) = some (nI (trimL xs)) := by
  unfold poly_Trim.f
  rw [inU_nI, nI_length, decide_eq_true h, nI_toU]
  rfl
theorem g_degree (xs : List UInt8) (h : xs.length ≤ 140737488355328) : poly_Degree.f (nI xs) = some ((trimE xs : Int) - 1) := by
  unfold poly_Degree.f
  rw [inU_nI, nI_length, decide_eq_true h, nI_toU]
  rfl
theorem g_eval (xs : List UInt8) (x : UInt8) (h : xs.length ≤ 140737488355328) : poly_Eval.f (nI xs) (x.toNat : Int) = some ((ev xs x).toNat : Int) := by
  unfold poly_Eval.f
  rw [inU_nI, byteB_nat, nI_length, decide_eq_true h, nI_toU, toU_nat]
  rfl
theorem values_pure (xs : List UInt8) (x : UInt8) (h : xs.length < 140737488355328) : ∃ k, recouplaw02_PolyValues.f k (nI xs) (x.toNat : Int) = some true := by
  refine Ev.rounds ?_
  unfold recouplaw02_PolyValues.f
  have hle := trimE_le xs
  simp only [g_trim xs (by omega), g_degree xs (by omega), Option.bind_some]
  refine Ev.bind (pu_rtrim xs h) ?_
  simp only [pu_same, Option.bind_some, if_true]
  refine Ev.bind (pu_rtrim xs h) ?_
  rw [nI_length, trimL_length, w64 (by omega) (by omega)]
  simp only [if_true]
  simp only [g_eval xs x (by omega), Option.bind_some]
  refine Ev.bind (pu_reval xs x (by omega)) ?_
  simp only [beq_self_eq_true]
  exact Ev.now _
theorem polyValues_calls (a0 : Option Addr) (n0 c0 : Nat) (x0 : List UInt8) (c : UInt8) (w : World) (r0 : Rd w w.heap.size a0 n0 (bVs x0)) (l0 : n0 ≤ c0) (m0 : c0 ≤ 140737488351232) :
    Calls Try.prog 3 #[.slice a0 n0 c0, .int .u8 (c.toNat : Int)] w fun e w' => e = .returned (.bool true) ∧ Below w.heap.size w w' := by
  obtain rfl : x0.length = n0 := by have := r0.len; rw [bVs_length] at this; exact this
  obtain ⟨k, h⟩ := values_pure x0 c (by omega)
  have hc := recouplaw02_PolyValues.calls k a0 c0 (nI x0) (c.toNat : Int) true w (C_of_rd r0 (by omega)) (by rw [nI_length]; exact l0) rfl h
  rw [nI_length] at hc
  exact hc
end Go.Proofs.Ytaihgckcmcacfaa
namespace Go.Proofs.Ytaihgckcmcacfaa
open Go.RowKit Go.Proofs.YtaihgckcmcacfaaW.PrintWords Go.Proofs.Ytaihgckcmcacfaa.Pr
set_option linter.unusedVariables false
set_option linter.unusedSimpArgs false

theorem pu_rlong (xs : List UInt8) (h : xs.length < 140737488355328) : Ev (fun k => recoupref02_long.f k (nI xs)) (longB xs) := by
  unfold recoupref02_long.f
  refine Ev.bind (pu_rtrim xs h) ?_
  rw [nI_length, trimL_length]
  exact Ev.now _
theorem pu_rat (xs : List UInt8) (i : Nat) : recoupref02_at.f (nI xs) (i : Int) = some ((xs.getD i 0).toNat : Int) := by
  unfold recoupref02_at.f
  rw [if_neg (by omega), nI_length]
  rcases Nat.lt_or_ge i xs.length with h | h
  · rw [if_neg (by omega), if_pos (by omega), if_pos (by omega), rd_nI]
  · rw [if_pos (by omega), getD_out xs i h]; rfl
theorem pu_rat_neg (xs : List UInt8) (z : Int) (h : z < 0) : recoupref02_at.f (nI xs) z = some 0 := by
  unfold recoupref02_at.f
  rw [if_pos h]
def sum512 (xs ys : List UInt8) (n : Nat) : List UInt8 := (List.range n).map fun i => Gf.add (xs.getD i 0) (ys.getD i 0)
theorem sum512_len (xs ys : List UInt8) (n : Nat) : (sum512 xs ys n).length = n := by simp [sum512]
theorem sum512_succ (xs ys : List UInt8) (n : Nat) : sum512 xs ys n ++ [Gf.add (xs.getD n 0) (ys.getD n 0)] = sum512 xs ys (n + 1) := by
  unfold sum512
  rw [List.range_succ, List.map_append]
  rfl
theorem sum512_trim (xs ys : List UInt8) (hx : trimE xs ≤ 512) (hy : trimE ys ≤ 512) : trimL (sum512 xs ys 512) = addL (trimL xs) (trimL ys) := by
  unfold addL
  refine trimL_congr fun i => ?_
  have e2 : (sumTo (max (trimL xs).length (trimL ys).length) (trimL xs) (trimL ys) (trimL ys).length).getD i 0 = Gf.add (xs.getD i 0) (ys.getD i 0) := by
    have := addL_getD (trimL xs) (trimL ys) i
    unfold addL at this
    rw [trimL_getD] at this
    rw [this, trimL_getD, trimL_getD]
  rw [e2]
  rcases Nat.lt_or_ge i 512 with h | h
  · unfold sum512
    rw [List.getD_eq_getElem?_getD, List.getElem?_map, List.getElem?_range h]
    rfl
  · rw [getD_out _ i (by rw [sum512_len]; exact h), trimE_high xs i (by omega), trimE_high ys i (by omega)]
    rfl
theorem pu_radd (xs ys : List UInt8) (hx : xs.length < 140737488355328) (hy : ys.length < 140737488355328) : Ev (fun k => recoupref02_Add.f k (nI xs) (nI ys)) (nI (addP xs ys), addE xs ys) := by
  have hl : ∀ d i, i + d = 512 → trimE xs ≤ 512 → trimE ys ≤ 512 → Ev (fun k => recoupref02_Add.l0 k (nI xs) (nI ys) (nI (sum512 xs ys i)) (i : Int)) (nI (addL (trimL xs) (trimL ys)), 0) := by
    intro d
    induction d with
    | zero =>
      intro i hi h1 h2
      obtain rfl : i = 512 := by omega
      refine Ev.step (f := fun k => (recoupref02_Trim.f k (nI (sum512 xs ys 512))).bind fun t => some (t, 0)) (fun k => ?_) ?_
      · rw [recoupref02_Add.l0, if_neg (by omega)]
      · refine Ev.bind (pu_rtrim _ (by rw [sum512_len]; omega)) ?_
        rw [sum512_trim xs ys h1 h2]
        exact Ev.now _
    | succ d ih =>
      intro i hi h1 h2
      refine Ev.step (fun k => ?_) (ih (i + 1) (by omega) h1 h2)
      rw [recoupref02_Add.l0, if_pos (by omega), pu_rat, Option.bind_some, pu_rat, Option.bind_some, if_pos (by rw [nI_length, sum512_len]; omega), add_xor, nI_snoc, sum512_succ, w64_succ (by omega)]
  unfold recoupref02_Add.f addP addE
  cases h1 : longB xs
  · have hL1 := pu_rlong xs hx
    rw [h1] at hL1
    refine Ev.bind hL1 ?_
    simp only [Bool.false_eq_true, if_false, Bool.false_or]
    refine Ev.bind (pu_rlong ys hy) ?_
    cases h2 : longB ys
    · have a1 := of_decide_eq_false h1
      have a2 := of_decide_eq_false h2
      simp only [Bool.false_eq_true, if_false]
      refine Ev.step (fun k => ?_) (hl 512 0 (by omega) (by omega) (by omega))
      rw [recoupref02_Add.j0, if_neg (by simp)]
      rfl
    · simp only [if_true]
      refine Ev.step (fun k => ?_) (Ev.now _)
      rw [recoupref02_Add.j0, if_pos rfl]
      rfl
  · have hL1 := pu_rlong xs hx
    rw [h1] at hL1
    refine Ev.bind hL1 ?_
    simp only [if_true, Bool.true_or]
    refine Ev.step (fun k => ?_) (Ev.now _)
    rw [recoupref02_Add.j0, if_pos rfl]
    rfl
def convL (xs ys : List UInt8) (n : Nat) : List UInt8 := (List.range n).map (convF xs ys)
theorem convL_len (xs ys : List UInt8) (n : Nat) : (convL xs ys n).length = n := by simp [convL]
theorem convL_succ (xs ys : List UInt8) (n : Nat) : convL xs ys n ++ [convF xs ys n] = convL xs ys (n + 1) := by
  unfold convL
  rw [List.range_succ, List.map_append]
  rfl
theorem convL_trim (xs ys : List UInt8) : trimL (convL (trimL xs) (trimL ys) (trimE xs + trimE ys)) = mulL xs ys := by
  rw [← mulL_trim xs ys]
  refine trimL_congr fun i => ?_
  have e : convF xs ys i = convF (trimL xs) (trimL ys) i := convF_congr (fun i => (trimL_getD xs i).symm) (fun i => (trimL_getD ys i).symm) i
  rw [mulL_getD, e]
  rcases Nat.lt_or_ge i (trimE xs + trimE ys) with h | h
  · unfold convL
    rw [List.getD_eq_getElem?_getD, List.getElem?_map, List.getElem?_range h]
    rfl
  · rw [getD_out _ i (by rw [convL_len]; exact h), convF_high _ _ i (by rw [trimL_length, trimL_length]; omega)]
/-- the inner sum of the document's product -/
def inF (xs ys : List UInt8) (i q : Nat) : UInt8 := sumF q (fun k => if k ≤ i then Gf.mul (xs.getD k 0) (ys.getD (i - k) 0) else 0)
theorem pu_rmul_core (P Q : List UInt8) (hP : P.length ≤ 1024) (hQ : Q.length ≤ 1024) : Ev (fun k => recoupref02_Mul.l0 k (nI P) (nI Q) [] 0) (nI (trimL (convL P Q (P.length + Q.length))), 0) := by
  have hin : ∀ i, i < P.length + Q.length → Ev (fun k => recoupref02_Mul.l0 k (nI P) (nI Q) (nI (convL P Q (i + 1))) ((i + 1 : Nat) : Int)) (nI (trimL (convL P Q (P.length + Q.length))), 0) →
      ∀ d q, q + d = P.length → Ev (fun k => recoupref02_Mul.l1 k (nI P) (nI Q) (nI (convL P Q i)) (i : Int) ((inF P Q i q).toNat : Int) (q : Int)) (nI (trimL (convL P Q (P.length + Q.length))), 0) := by
    intro i hi hr d
    induction d with
    | zero =>
      intro q hq
      obtain rfl : q = P.length := by omega
      refine Ev.step (fun k => ?_) hr
      have e : inF P Q i P.length = convF P Q i := convF_wide P Q i P.length (Nat.le_refl _)
      rw [recoupref02_Mul.l1, if_neg (by rw [nI_length]; omega), if_pos (by rw [nI_length, convL_len]; omega), nI_snoc, e, convL_succ, w64_succ (by omega)]
    | succ d ih =>
      intro q hq
      refine Ev.step (fun k => ?_) (ih (q + 1) (by omega))
      have e : inF P Q i (q + 1) = Gf.add (inF P Q i q) (if q ≤ i then Gf.mul (P.getD q 0) (Q.getD (i - q) 0) else 0) := rfl
      rw [recoupref02_Mul.l1, if_pos (by rw [nI_length]; omega), if_pos (by omega), w64 (by omega) (by omega), rd_nI, w64_succ (by omega), e]
      by_cases h : q ≤ i
      · rw [if_pos h, show (i : Int) - (q : Int) = ((i - q : Nat) : Int) by omega, pu_rat, Option.bind_some, pu_rmul8, Option.bind_some, add_xor]
      · rw [if_neg h, pu_rat_neg _ _ (by omega), Option.bind_some, show (0 : Int) = ((0 : UInt8).toNat : Int) from rfl, pu_rmul8, Option.bind_some, add_xor, Gf.mul_zero]
  have hout : ∀ d i, i + d = P.length + Q.length → Ev (fun k => recoupref02_Mul.l0 k (nI P) (nI Q) (nI (convL P Q i)) (i : Int)) (nI (trimL (convL P Q (P.length + Q.length))), 0) := by
    intro d
    induction d with
    | zero =>
      intro i hi
      obtain rfl : i = P.length + Q.length := by omega
      refine Ev.step (f := fun k => (recoupref02_Trim.f k (nI (convL P Q (P.length + Q.length)))).bind fun t => some (t, 0)) (fun k => ?_) ?_
      · rw [recoupref02_Mul.l0, nI_length, nI_length, w64_add (by omega), if_neg (by omega)]
      · refine Ev.bind (pu_rtrim _ (by rw [convL_len]; omega)) ?_
        exact Ev.now _
    | succ d ih =>
      intro i hi
      have h0 := hin i (by omega) (ih (i + 1) (by omega)) P.length 0 (by omega)
      refine Ev.step (fun k => ?_) h0
      rw [recoupref02_Mul.l0, nI_length, nI_length, w64_add (by omega), if_pos (by omega)]
      rfl
  exact hout (P.length + Q.length) 0 (by omega)
theorem pu_rmul (xs ys : List UInt8) (hx : xs.length < 140737488355328) (hy : ys.length < 140737488355328) : Ev (fun k => recoupref02_Mul.f k (nI xs) (nI ys)) (nI (mulP xs ys), mulE xs ys) := by
  have t1 := trimE_le xs
  have t2 := trimE_le ys
  have lx : longB (trimL xs) = longB xs := by unfold longB; rw [trimE_trimL]
  have ly : longB (trimL ys) = longB ys := by unfold longB; rw [trimE_trimL]
  unfold recoupref02_Mul.f mulP mulE
  refine Ev.bind (pu_rtrim xs hx) ?_
  refine Ev.bind (pu_rtrim ys hy) ?_
  have hL1 := pu_rlong (trimL xs) (by rw [trimL_length]; omega)
  have hL2 := pu_rlong (trimL ys) (by rw [trimL_length]; omega)
  rw [lx] at hL1
  rw [ly] at hL2
  have herr : Ev (fun k => recoupref02_Mul.j0 k (nI (trimL xs)) (nI (trimL ys)) true) (([] : List Int), (4 : Int)) := by
    refine Ev.step (f := fun _ => some (([] : List Int), (4 : Int))) (fun k => ?_) (Ev.now _)
    rw [recoupref02_Mul.j0, if_pos rfl]
  refine Ev.bind hL1 ?_
  cases h1 : longB xs
  · simp only [Bool.false_eq_true, if_false, Bool.false_or]
    refine Ev.bind hL2 ?_
    cases h2 : longB ys
    · have a1 := of_decide_eq_false h1
      have a2 := of_decide_eq_false h2
      simp only [Bool.false_eq_true, if_false, Bool.false_or]
      have hok : Ev (fun k => recoupref02_Mul.j0 k (nI (trimL xs)) (nI (trimL ys)) false) (nI (mulL xs ys), (0 : Int)) := by
        have h0 := pu_rmul_core (trimL xs) (trimL ys) (by rw [trimL_length]; omega) (by rw [trimL_length]; omega)
        rw [trimL_length, trimL_length, convL_trim] at h0
        refine Ev.step (fun k => ?_) h0
        rw [recoupref02_Mul.j0, if_neg (by simp)]
      rw [nI_length, nI_length, trimL_length, trimL_length]
      by_cases h3 : (trimE xs : Int) > 0
      · by_cases h4 : (trimE ys : Int) > 0
        · simp only [if_pos h3, if_pos h4]
          have hE : longB (mulL xs ys) = decide ((wrap64 ((wrap64 ((trimE xs : Int) + (trimE ys : Int))) - 1)) > 512) := by
            unfold longB
            rw [trimE_mul xs ys (by omega) (by omega), w64_add (by omega), w64 (by omega) (by omega)]
            congr 1
            rw [eq_iff_iff]
            omega
          rw [← hE]
          cases h5 : longB (mulL xs ys)
          · simp only [Bool.false_eq_true, if_false]; exact hok
          · simp only [if_true]; exact herr
        · simp only [if_pos h3, if_neg h4]
          rw [show longB (mulL xs ys) = false by unfold longB; rw [trimE_mul0 xs ys (by omega)]; rfl]
          simp only [Bool.false_eq_true, if_false]; exact hok
      · simp only [if_neg h3]
        rw [show longB (mulL xs ys) = false by unfold longB; rw [trimE_mul0 xs ys (by omega)]; rfl]
        simp only [Bool.false_eq_true, if_false]; exact hok
    · simp only [if_true, Bool.true_or]
      exact herr
  · simp only [if_true, Bool.true_or]
    exact herr
theorem g_add (xs ys : List UInt8) (hx : xs.length ≤ 140737488355328) (hy : ys.length ≤ 140737488355328) : poly_Add.f (nI xs) (nI ys) = some (nI (addP xs ys), addE xs ys) := by
  unfold poly_Add.f
  rw [inU_nI, inU_nI, nI_length, nI_length, decide_eq_true hx, decide_eq_true hy, nI_toU, nI_toU]
  rfl
theorem g_mul (xs ys : List UInt8) (hx : xs.length ≤ 140737488355328) (hy : ys.length ≤ 140737488355328) : poly_Mul.f (nI xs) (nI ys) = some (nI (mulP xs ys), mulE xs ys) := by
  unfold poly_Mul.f
  rw [inU_nI, inU_nI, nI_length, nI_length, decide_eq_true hx, decide_eq_true hy, nI_toU, nI_toU]
  rfl
theorem sums_pure (xs ys : List UInt8) (hx : xs.length < 140737488355328) (hy : ys.length < 140737488355328) : ∃ k, recouplaw02_PolySums.f k (nI xs) (nI ys) = some true := by
  refine Ev.rounds ?_
  unfold recouplaw02_PolySums.f
  simp only [g_add xs ys (by omega) (by omega), g_mul xs ys (by omega) (by omega), Option.bind_some]
  refine Ev.bind (pu_radd xs ys hx hy) ?_
  refine Ev.bind (pu_rmul xs ys hx hy) ?_
  simp only [pu_same, Option.bind_some, if_true]
  exact Ev.now _
theorem polySums_calls (a0 : Option Addr) (n0 c0 : Nat) (x0 : List UInt8) (a1 : Option Addr) (n1 c1 : Nat) (x1 : List UInt8) (w : World)
    (r0 : Rd w w.heap.size a0 n0 (bVs x0)) (l0 : n0 ≤ c0) (m0 : c0 ≤ 140737488351232) (r1 : Rd w w.heap.size a1 n1 (bVs x1)) (l1 : n1 ≤ c1) (m1 : c1 ≤ 140737488351232) :
    Calls Try.prog 4 #[.slice a0 n0 c0, .slice a1 n1 c1] w fun e w' => e = .returned (.bool true) ∧ Below w.heap.size w w' := by
  obtain rfl : x0.length = n0 := by have := r0.len; rw [bVs_length] at this; exact this
  obtain rfl : x1.length = n1 := by have := r1.len; rw [bVs_length] at this; exact this
  obtain ⟨k, h⟩ := sums_pure x0 x1 (by omega) (by omega)
  have hc := recouplaw02_PolySums.calls k a0 c0 (nI x0) a1 c1 (nI x1) true w (C_of_rd r0 (by omega)) (by rw [nI_length]; exact l0) (C_of_rd r1 (by omega)) (by rw [nI_length]; exact l1) rfl h
  rw [nI_length, nI_length] at hc
  exact hc
end Go.Proofs.Ytaihgckcmcacfaa
namespace Go.Proofs.Ytaihgckcmcacfaa
open Go.RowKit Go.Proofs.YtaihgckcmcacfaaW.PrintWords Go.Proofs.Ytaihgckcmcacfaa.Pr
set_option linter.unusedVariables false
set_option linter.unusedSimpArgs false

theorem anch2_mul : mulL [1, 1] [1, 1] = [1, 0, 1] := by decide
theorem anch2_long : longB [1, 1] = false := by decide
theorem anch2_long3 : longB [1, 0, 1] = false := by decide
theorem anch2_ev : ev [3, 0, 1] 2 = 7 := by decide
theorem anch2_true : recouplaw02_anchored.f = some true := by
  unfold recouplaw02_anchored.f
  rw [show ([1, 1] : List Int) = nI [1, 1] from rfl, g_mul [1, 1] [1, 1] (by decide) (by decide), Option.bind_some]
  unfold mulP mulE
  rw [anch2_long, anch2_mul, anch2_long3]
  simp only [Bool.or_self, Bool.false_eq_true, if_false, if_true]
  rw [show ([1, 0, 1] : List Int) = nI [1, 0, 1] from rfl, pu_same, Option.bind_some, if_pos rfl, show ([3, 0, 1] : List Int) = nI [3, 0, 1] from rfl,
    show (2 : Int) = ((2 : UInt8).toNat : Int) from rfl, g_eval [3, 0, 1] 2 (by decide), anch2_ev]
  rfl
theorem evals_pure (xs ys : List UInt8) (x : UInt8) (hx : xs.length < 140737488355328) (hy : ys.length < 140737488355328) : recouplaw02_PolyEvals.f (nI xs) (nI ys) (x.toNat : Int) = some true := by
  have t1 := trimE_le xs
  have t2 := trimE_le ys
  unfold recouplaw02_PolyEvals.f
  have ha := anch2_true
  generalize recouplaw02_anchored.f = q at ha ⊢
  subst ha
  rw [g_add xs ys (by omega) (by omega), Option.bind_some, g_mul xs ys (by omega) (by omega), Option.bind_some, g_eval xs x (by omega), Option.bind_some, g_eval ys x (by omega), Option.bind_some]
  simp only [Option.bind_some, if_true]
  rw [nI_length, nI_length, w64_add (by omega)]
  by_cases h : ((xs.length + ys.length : Nat) : Int) > 512
  · rw [if_pos h]
  · rw [if_neg h]
    have l1 : longB xs = false := decide_eq_false (by omega)
    have l2 : longB ys = false := decide_eq_false (by omega)
    have lm : (mulL xs ys).length ≤ 512 := Nat.le_trans (mulL_len xs ys) (by omega)
    have l3 : longB (mulL xs ys) = false := decide_eq_false (by have := trimE_le (mulL xs ys); omega)
    have la : (addL (trimL xs) (trimL ys)).length ≤ 512 := Nat.le_trans (addL_len _ _) (by rw [trimL_length, trimL_length]; omega)
    have e1 : ev (addL (trimL xs) (trimL ys)) x = Gf.add (ev xs x) (ev ys x) := by
      rw [← ev_trim xs, ← ev_trim ys]
      exact ev_add _ _ _ x (addL_getD _ _)
    have a1 : addE xs ys = 0 := by unfold addE; rw [l1, l2]; rfl
    have a2 : addP xs ys = addL (trimL xs) (trimL ys) := by unfold addP; rw [l1, l2]; rfl
    have a3 : mulE xs ys = 0 := by unfold mulE; rw [l1, l2, l3]; rfl
    have a4 : mulP xs ys = mulL xs ys := by unfold mulP; rw [l1, l2, l3]; rfl
    rw [a1, a2, a3, a4, if_pos rfl, if_pos rfl, g_eval _ x (by omega), Option.bind_some, e1, add_xor, if_pos rfl, g_eval _ x (by omega), Option.bind_some, pu_rmul8, Option.bind_some, ev_mul, beq_self_eq_true]
theorem polyEvals_calls (a0 : Option Addr) (n0 c0 : Nat) (x0 : List UInt8) (a1 : Option Addr) (n1 c1 : Nat) (x1 : List UInt8) (c : UInt8) (w : World)
    (r0 : Rd w w.heap.size a0 n0 (bVs x0)) (l0 : n0 ≤ c0) (m0 : c0 ≤ 140737488351232) (r1 : Rd w w.heap.size a1 n1 (bVs x1)) (l1 : n1 ≤ c1) (m1 : c1 ≤ 140737488351232) :
    Calls Try.prog 6 #[.slice a0 n0 c0, .slice a1 n1 c1, .int .u8 (c.toNat : Int)] w fun e w' => e = .returned (.bool true) ∧ Below w.heap.size w w' := by
  obtain rfl : x0.length = n0 := by have := r0.len; rw [bVs_length] at this; exact this
  obtain rfl : x1.length = n1 := by have := r1.len; rw [bVs_length] at this; exact this
  have h := evals_pure x0 x1 c (by omega) (by omega)
  have hc := recouplaw02_PolyEvals.calls a0 c0 (nI x0) a1 c1 (nI x1) (c.toNat : Int) true w (C_of_rd r0 (by omega)) (by rw [nI_length]; exact l0) (C_of_rd r1 (by omega)) (by rw [nI_length]; exact l1) rfl h
  rw [nI_length, nI_length] at hc
  exact hc
theorem nI_lin (r : UInt8) : ([(r.toNat : Int), 1] : List Int) = nI [r, 1] := rfl
theorem g_pmul (xs ys : List UInt8) (hx : xs.length ≤ 140737488355328) (hy : ys.length ≤ 140737488355328) : poly_mul.f (nI xs) (nI ys) = some (nI (mulL xs ys)) := by
  unfold poly_mul.f
  rw [inU_nI, inU_nI, nI_length, nI_length, decide_eq_true hx, decide_eq_true hy, nI_toU, nI_toU]
  rfl
theorem g_roots (xs : List UInt8) (h : xs.length ≤ 140737488355328) : poly_Roots.f (nI xs) = some (nI (rootsL xs)) := by
  unfold poly_Roots.f
  rw [inU_nI, nI_length, decide_eq_true h, nI_toU]
  rfl
def fromE (rs : List UInt8) : Int := if (rs.length : Int) > 511 then 4 else 0
def fromP (rs : List UInt8) : List UInt8 := if (rs.length : Int) > 511 then [] else prodTo rs rs.length
theorem pu_from (rs : List UInt8) : Ev (fun k => poly_FromRoots.f k (nI rs)) (nI (fromP rs), fromE rs) := by
  have hl : rs.length ≤ 511 → ∀ d i, i + d = rs.length → Ev (fun k => poly_product.l0 k (nI (prodTo rs i)) (nI rs) (rs.length : Int) (i : Int)) (nI (prodTo rs rs.length)) := by
    intro hn d
    induction d with
    | zero =>
      intro i hi
      obtain rfl : i = rs.length := by omega
      refine Ev.step (fun k => ?_) (Ev.now _)
      rw [poly_product.l0, if_neg (by omega)]
    | succ d ih =>
      intro i hi
      refine Ev.step (fun k => ?_) (ih (i + 1) (by omega))
      rw [poly_product.l0, if_pos (by omega), if_pos (by omega), if_pos (by rw [nI_length]; omega), rd_nI, nI_lin, g_pmul _ _ (by rw [prodTo_len]; omega) (by simp), Option.bind_some, w64_succ (by omega)]
      rfl
  unfold poly_FromRoots.f fromP fromE
  rw [nI_length]
  by_cases h : (rs.length : Int) > 511
  · simp only [if_pos h]; exact Ev.now _
  · simp only [if_neg h]
    refine Ev.bind (a := nI (prodTo rs rs.length)) ?_ (Ev.now _)
    unfold poly_product.f
    rw [nI_length]
    exact hl (by omega) rs.length 0 (by omega)
theorem pu_rfrom (rs : List UInt8) : Ev (fun k => recoupref02_FromRoots.f k (nI rs)) (nI (fromP rs), fromE rs) := by
  have hl : rs.length ≤ 511 → ∀ d i, i + d = rs.length → Ev (fun k => recoupref02_FromRoots.l0 k (nI rs) (nI (prodTo rs i)) (i : Int)) (nI (prodTo rs rs.length), (0 : Int)) := by
    intro hn d
    induction d with
    | zero =>
      intro i hi
      obtain rfl : i = rs.length := by omega
      refine Ev.step (f := fun _ => some (nI (prodTo rs rs.length), (0 : Int))) (fun k => ?_) (Ev.now _)
      rw [recoupref02_FromRoots.l0, if_neg (by rw [nI_length]; omega)]
    | succ d ih =>
      intro i hi
      have hm := pu_rmul (prodTo rs i) [rs.getD i 0, 1] (by rw [prodTo_len]; omega) (by simp)
      have a4 : mulP (prodTo rs i) [rs.getD i 0, 1] = prodTo rs (i + 1) := by
        have q1 : longB (prodTo rs i) = false := decide_eq_false (by rw [prodTo_trimE]; omega)
        have q2 : longB [rs.getD i 0, 1] = false := decide_eq_false (by rw [trimE_lin]; omega)
        have q3 : longB (mulL (prodTo rs i) [rs.getD i 0, 1]) = false := decide_eq_false (by
          have := prodTo_trimE rs (i + 1)
          rw [prodTo] at this
          rw [this]; omega)
        unfold mulP
        rw [q1, q2, q3]
        rfl
      refine Ev.step (f := fun k => (recoupref02_Mul.f k (nI (prodTo rs i)) (nI [rs.getD i 0, 1])).bind fun bt => recoupref02_FromRoots.l0 k (nI rs) bt.1 ((i + 1 : Nat) : Int)) (fun k => ?_) ?_
      · rw [recoupref02_FromRoots.l0, if_pos (by rw [nI_length]; omega), if_pos (by omega), rd_nI, nI_lin, w64_succ (by omega)]
      · refine Ev.bind hm ?_
        show Ev (fun k => recoupref02_FromRoots.l0 k (nI rs) (nI (mulP (prodTo rs i) [rs.getD i 0, 1])) ((i + 1 : Nat) : Int)) _
        rw [a4]
        exact ih (i + 1) (by omega)
  unfold recoupref02_FromRoots.f fromP fromE
  rw [nI_length]
  by_cases h : (rs.length : Int) > 511
  · simp only [if_pos h]; exact Ev.now _
  · simp only [if_neg h]
    exact hl (by omega) rs.length 0 (by omega)
theorem pu_rroots (xs : List UInt8) (h : xs.length < 140737488355328) : Ev (fun k => recoupref02_Roots.f k (nI xs)) (nI (rootsL xs)) := by
  have hl : ∀ d i, i + d = 256 → Ev (fun k => recoupref02_Roots.l0 k (nI xs) (nI (rootsTo xs i)) (i : Int)) (nI (rootsTo xs 256)) := by
    intro d
    induction d with
    | zero =>
      intro i hi
      obtain rfl : i = 256 := by omega
      refine Ev.step (fun k => ?_) (Ev.now _)
      rw [recoupref02_Roots.l0, if_neg (by omega)]
    | succ d ih =>
      intro i hi
      have hb : ((i : Int)) % 256 = ((UInt8.ofNat i).toNat : Int) := by
        rw [UInt8.toNat_ofNat']
        omega
      have hle := rootsTo_len xs i
      have he := pu_reval xs (UInt8.ofNat i) (by omega)
      refine Ev.step (f := fun k => (recoupref02_Eval.f k (nI xs) ((UInt8.ofNat i).toNat : Int)).bind fun t => if t = 0 then recoupref02_Roots.l0 k (nI xs) (nI (rootsTo xs i) ++ [((UInt8.ofNat i).toNat : Int)]) ((i + 1 : Nat) : Int) else recoupref02_Roots.l0 k (nI xs) (nI (rootsTo xs i)) ((i + 1 : Nat) : Int)) (fun k => ?_) ?_
      · rw [recoupref02_Roots.l0, if_pos (by omega), hb, w64_succ (by omega), if_pos (by rw [nI_length]; omega)]
      · refine Ev.bind he ?_
        have hr := ih (i + 1) (by omega)
        rw [rootsTo] at hr
        by_cases h0 : ev xs (UInt8.ofNat i) = 0
        · rw [if_pos h0, ← nI_snoc] at hr
          simp only [if_pos ((nat_zero_iff _).2 h0)]
          exact hr
        · rw [if_neg h0] at hr
          simp only [if_neg (fun h2 => h0 ((nat_zero_iff _).1 h2))]
          exact hr
  unfold recoupref02_Roots.f rootsL
  refine Ev.bind (pu_rtrim xs h) ?_
  rw [nI_length, trimL_length]
  by_cases h0 : trimE xs = 0
  · simp only [if_pos h0, if_pos (show (trimE xs : Int) = 0 by omega)]; exact Ev.now _
  · simp only [if_neg h0, if_neg (show ¬ (trimE xs : Int) = 0 by omega)]
    exact hl 256 0 (by omega)
theorem roots_pure (rs : List UInt8) (h : rs.length < 140737488355328) : ∃ k, recouplaw02_PolyRoots.f k (nI rs) = some true := by
  refine Ev.rounds ?_
  unfold recouplaw02_PolyRoots.f
  refine Ev.bind (pu_from rs) ?_
  refine Ev.bind (pu_rfrom rs) ?_
  simp only [g_roots rs (by omega), Option.bind_some]
  refine Ev.bind (pu_rroots rs h) ?_
  simp only [pu_same, Option.bind_some, if_true]
  exact Ev.now _
theorem polyRoots_calls (a0 : Option Addr) (n0 c0 : Nat) (x0 : List UInt8) (w : World) (r0 : Rd w w.heap.size a0 n0 (bVs x0)) (l0 : n0 ≤ c0) (m0 : c0 ≤ 140737488351232) :
    Calls Try.prog 5 #[.slice a0 n0 c0] w fun e w' => e = .returned (.bool true) ∧ Below w.heap.size w w' := by
  obtain rfl : x0.length = n0 := by have := r0.len; rw [bVs_length] at this; exact this
  obtain ⟨k, h⟩ := roots_pure x0 (by omega)
  have hc := recouplaw02_PolyRoots.calls k a0 c0 (nI x0) true w (C_of_rd r0 (by omega)) (by rw [nI_length]; exact l0) rfl h
  rw [nI_length] at hc
  exact hc
end Go.Proofs.Ytaihgckcmcacfaa
namespace Go.Proofs.Ytaihgckcmcacfaa
open Go.RowKit Go.Proofs.YtaihgckcmcacfaaW.PrintWords Go.Proofs.Ytaihgckcmcacfaa.Pr
set_option linter.unusedVariables false
set_option linter.unusedSimpArgs false

theorem g_dm (xs ys : List UInt8) (hx : xs.length ≤ 140737488355328) (hy : ys.length ≤ 140737488355328) : poly_DivMod.f (nI xs) (nI ys) = some (nI (dmQ xs ys), nI (dmR xs ys), dmE xs ys) := by
  unfold poly_DivMod.f
  rw [inU_nI, inU_nI, nI_length, nI_length, decide_eq_true hx, decide_eq_true hy, nI_toU, nI_toU]
  rfl
theorem g_rdm (xs ys : List UInt8) (hx : xs.length < 140737488355328) (hy : ys.length < 140737488355328) : recoupref02_DivMod.f (nI xs) (nI ys) = some (nI (dmQ xs ys), nI (dmR xs ys), dmE xs ys) := by
  unfold recoupref02_DivMod.f
  rw [inU_nI, inU_nI, nI_length, nI_length, decide_eq_true hx, decide_eq_true hy, nI_toU, nI_toU]
  rfl
theorem g_gcd (xs ys : List UInt8) (hx : xs.length ≤ 140737488355328) (hy : ys.length ≤ 140737488355328) : poly_GCD.f (nI xs) (nI ys) = some (nI (gcP xs ys), gcE xs ys) := by
  unfold poly_GCD.f
  rw [inU_nI, inU_nI, nI_length, nI_length, decide_eq_true hx, decide_eq_true hy, nI_toU, nI_toU]
  rfl
theorem g_int (xs ys : List UInt8) (hx : xs.length ≤ 140737488355328) (hy : ys.length ≤ 140737488355328) : poly_Interpolate.f (nI xs) (nI ys) = some (nI (intP xs ys), intE xs ys) := by
  unfold poly_Interpolate.f
  rw [inU_nI, inU_nI, nI_length, nI_length, decide_eq_true hx, decide_eq_true hy, nI_toU, nI_toU]
  rfl
theorem g_twice (xs : List UInt8) (hx : xs.length ≤ 140737488355328) : recouplaw02_twice.f (nI xs) = some (dupB xs) := by
  unfold recouplaw02_twice.f
  rw [inU_nI, nI_length, decide_eq_true hx, nI_toU]
  rfl
theorem g_rinv (a : UInt8) : recoupref01_Inv.f (a.toNat : Int) = some (((Gf.inv a).toNat : Int), Gf.invE a) := by
  unfold recoupref01_Inv.f
  rw [byteB_nat, toU_nat]
  rfl
theorem pu_rscale (c : UInt8) (xs : List UInt8) (h : xs.length < 140737488355328) : Ev (fun k => recoupref01_Scale.f k (c.toNat : Int) (nI xs)) (nI (xs.map (Gf.mul c))) := by
  have hl : ∀ d i, i + d = xs.length → Ev (fun k => recoupref01_Scale.l0 k (c.toNat : Int) (nI xs) (nI ((xs.take i).map (Gf.mul c))) (i : Int)) (nI (xs.map (Gf.mul c))) := by
    intro d
    induction d with
    | zero =>
      intro i hi
      obtain rfl : i = xs.length := by omega
      refine Ev.step (fun k => ?_) (Ev.now _)
      rw [recoupref01_Scale.l0, if_neg (by rw [nI_length]; omega), List.take_length]
    | succ d ih =>
      intro i hi
      have e : (xs.take (i + 1)).map (Gf.mul c) = (xs.take i).map (Gf.mul c) ++ [Gf.mul c (xs.getD i 0)] := by
        rw [take_next xs i (by omega), List.map_append]
        rfl
      refine Ev.step (fun k => ?_) (ih (i + 1) (by omega))
      rw [recoupref01_Scale.l0, if_pos (by rw [nI_length]; omega), if_pos (by omega), rd_nI, pu_rmul8, Option.bind_some, if_pos (by rw [nI_length, List.length_map, List.length_take]; omega), nI_snoc, ← e, w64_succ (by omega)]
  unfold recoupref01_Scale.f
  exact hl xs.length 0 (by omega)
theorem dm_ok {P Q : List UInt8} (h1 : trimE P ≤ 512) (h2 : trimE Q ≤ 512) (h3 : 0 < trimE Q) : dmE P Q = 0 ∧ dmQ P Q = trimL (dmL P Q).1 ∧ dmR P Q = (dmL P Q).2 := by
  have l1 : longB P = false := decide_eq_false (by omega)
  have l2 : longB Q = false := decide_eq_false (by omega)
  unfold dmE dmQ dmR
  rw [l1, l2]
  simp only [Bool.or_self, Bool.false_eq_true, if_false, if_neg (show ¬ trimE Q = 0 by omega)]
  exact ⟨trivial, trivial, trivial⟩
theorem norm_nil {l : List UInt8} (h : l.length = 0) : normL l = [] := by unfold normL; rw [if_pos h]
theorem pu_rgcd_loop : ∀ m (P Q : List UInt8), Q.length ≤ m → trimL Q = Q → P.length ≤ 512 → Q.length ≤ 512 → Ev (fun k => recoupref02_GCD.l0 k (nI P) (nI Q)) (nI (normL (gcdG m P Q)), (0 : Int)) := by
  have hend : ∀ (m : Nat) (P Q : List UInt8), Q.length = 0 → P.length ≤ 512 → Ev (fun k => recoupref02_GCD.l0 k (nI P) (nI Q)) (nI (normL (gcdG m P Q)), (0 : Int)) := by
    intro m P Q h0 hP
    rw [gcdG_stop _ _ _ h0]
    by_cases hp : P.length = 0
    · obtain rfl := List.eq_nil_of_length_eq_zero hp
      refine Ev.step (f := fun _ => some (nI [], (0 : Int))) (fun k => ?_) (Ev.now _)
      rw [recoupref02_GCD.l0, if_neg (by rw [nI_length]; omega), if_pos (by rfl)]
    · have hn : normL P = P.map (Gf.mul (Gf.inv (P.getD (P.length - 1) 0))) := by unfold normL; rw [if_neg hp]
      rw [hn]
      refine Ev.step (f := fun k => (recoupref01_Scale.f k ((Gf.inv (P.getD (P.length - 1) 0)).toNat : Int) (nI P)).bind fun t => some (t, (0 : Int))) (fun k => ?_) ?_
      · rw [recoupref02_GCD.l0, if_neg (by rw [nI_length]; omega), if_neg (by rw [nI_length]; omega), nI_length, w64 (by omega) (by omega), show (P.length : Int) - 1 = ((P.length - 1 : Nat) : Int) by omega, if_pos (by omega), if_pos (by omega), rd_nI, g_rinv, Option.bind_some]
      · refine Ev.bind (pu_rscale _ P (by omega)) ?_
        exact Ev.now _
  intro m
  induction m with
  | zero =>
    intro P Q hk _ hP _
    exact hend 0 P Q (by omega) hP
  | succ m ih =>
    intro P Q hk ht hP hQ
    by_cases h0 : Q.length = 0
    · exact hend _ P Q h0 hP
    · have e : trimE Q = Q.length := by rw [← trimL_length, ht]
      have tp := trimE_le P
      have hd := dm_ok (P := P) (Q := Q) (by omega) (by omega) (by omega)
      have hr := dm_rem P Q (by omega)
      rw [gcdG, if_neg h0]
      refine Ev.step (fun k => ?_) (ih Q (dmL P Q).2 (by omega) (dm_rem_trim P Q) hQ (by omega))
      rw [recoupref02_GCD.l0, if_pos (by rw [nI_length]; omega), g_rdm P Q (by omega) (by omega), Option.bind_some, hd.2.2]
theorem pu_rgcd (xs ys : List UInt8) (hx : xs.length < 140737488355328) (hy : ys.length < 140737488355328) : Ev (fun k => recoupref02_GCD.f k (nI xs) (nI ys)) (nI (gcP xs ys), gcE xs ys) := by
  have herr : Ev (fun k => recoupref02_GCD.j0 k (nI xs) (nI ys) true) (([] : List Int), (4 : Int)) := by
    refine Ev.step (f := fun _ => some (([] : List Int), (4 : Int))) (fun k => ?_) (Ev.now _)
    rw [recoupref02_GCD.j0, if_pos rfl]
  unfold recoupref02_GCD.f gcP gcE
  refine Ev.bind (pu_rlong xs hx) ?_
  cases h1 : longB xs
  · simp only [Bool.false_eq_true, if_false, Bool.false_or]
    refine Ev.bind (pu_rlong ys hy) ?_
    cases h2 : longB ys
    · have a1 := of_decide_eq_false h1
      have a2 := of_decide_eq_false h2
      simp only [Bool.false_eq_true, if_false]
      refine Ev.step (f := fun k => (recoupref02_Trim.f k (nI xs)).bind fun t268 => ((recoupref02_Trim.f k (nI ys)).bind fun t271 => (recoupref02_GCD.l0 k t268 t271))) (fun k => ?_) ?_
      · rw [recoupref02_GCD.j0, if_neg (by simp)]
      · refine Ev.bind (pu_rtrim xs hx) ?_
        refine Ev.bind (pu_rtrim ys hy) ?_
        exact pu_rgcd_loop _ (trimL xs) (trimL ys) (Nat.le_refl _) (trimL_idem _) (by rw [trimL_length]; omega) (by rw [trimL_length]; omega)
    · simp only [if_true]
      exact herr
  · simp only [if_true, Bool.true_or]
    exact herr
theorem quotients_pure (xs ys : List UInt8) (hx : xs.length < 140737488355328) (hy : ys.length < 140737488355328) : ∃ k, recouplaw02_PolyQuotients.f k (nI xs) (nI ys) = some true := by
  refine Ev.rounds ?_
  unfold recouplaw02_PolyQuotients.f
  simp only [g_dm xs ys (by omega) (by omega), g_rdm xs ys hx hy, g_gcd xs ys (by omega) (by omega), Option.bind_some]
  refine Ev.bind (pu_rgcd xs ys hx hy) ?_
  simp only [pu_same, Option.bind_some, if_true]
  exact Ev.now _
theorem dmE_zero {xs ys : List UInt8} (h : dmE xs ys = 0) : trimE xs ≤ 512 ∧ trimE ys ≤ 512 ∧ 0 < trimE ys := by
  unfold dmE at h
  cases h1 : longB xs
  · cases h2 : longB ys
    · have a1 := of_decide_eq_false h1
      have a2 := of_decide_eq_false h2
      rw [h1, h2] at h
      simp only [Bool.or_self, Bool.false_eq_true, if_false] at h
      by_cases h0 : trimE ys = 0
      · rw [if_pos h0] at h; omega
      · omega
    · rw [h1, h2] at h; simp at h
  · rw [h1] at h; simp at h
theorem dmQ_len (xs ys : List UInt8) : (dmQ xs ys).length ≤ xs.length + 1 := by
  unfold dmQ
  split
  · simp
  · split
    · simp
    · rw [trimL_length]
      have h1 := trimE_le (dmL xs ys).1
      rw [dm_len] at h1
      have := trimE_le xs
      omega
theorem dmR_len (xs ys : List UInt8) : (dmR xs ys).length ≤ ys.length := by
  unfold dmR
  split
  · simp
  · split
    · simp
    · have h1 := dm_rem xs ys (by omega)
      have := trimE_le ys
      omega
theorem divides_pure (xs ys : List UInt8) (hx : xs.length < 140737488355320) (hy : ys.length < 140737488355320) : ∃ k, recouplaw02_PolyDivides.f k (nI xs) (nI ys) = some true := by
  refine Ev.rounds ?_
  have ha := anch2_true
  have tx := trimE_le xs
  have ty := trimE_le ys
  have hyes : Ev (fun k => recouplaw02_PolyDivides.j0 k (nI xs) (nI ys) (nI (dmQ xs ys)) (nI (dmR xs ys)) (dmE xs ys) true) true := by
    refine Ev.step (f := fun _ => some true) (fun k => ?_) (Ev.now _)
    rw [recouplaw02_PolyDivides.j0, if_pos rfl, ha, Option.bind_some, if_pos rfl]
    by_cases h : dmE xs ys = 0
    · have hz := dmE_zero h
      rw [if_pos h, g_trim xs (by omega), Option.bind_some, if_pos (by rw [nI_length, trimL_length]; omega), g_degree ys (by omega), Option.bind_some, decide_eq_true (by omega)]
    · rw [if_neg h]
  have hno : xs.length ≤ 512 → ys.length ≤ 512 → 0 < trimE ys → Ev (fun k => recouplaw02_PolyDivides.j0 k (nI xs) (nI ys) (nI (dmQ xs ys)) (nI (dmR xs ys)) (dmE xs ys) false) true := by
    intro h1 h2 h3
    have hq := dmQ_len xs ys
    have hr := dmR_len xs ys
    have hd := dm_ok (P := xs) (Q := ys) (by omega) (by omega) h3
    have hml := dm_mul_len xs ys h3 (by omega) (by omega)
    have hrl := dm_rem xs ys h3
    have tq := trimE_le (trimL (dmL xs ys).1)
    have tr := trimE_le (dmL xs ys).2
    have hql := dm_len xs ys
    have tq2 := trimE_le (dmL xs ys).1
    rw [trimL_length] at tq
    have m1 : mulE (trimL (dmL xs ys).1) ys = 0 := by
      unfold mulE
      rw [show longB (trimL (dmL xs ys).1) = false from decide_eq_false (by rw [trimE_trimL]; omega), show longB ys = false from decide_eq_false (by omega), show longB (mulL (trimL (dmL xs ys).1) ys) = false from decide_eq_false (by omega)]
      rfl
    have m2 : mulP (trimL (dmL xs ys).1) ys = mulL (trimL (dmL xs ys).1) ys := by
      unfold mulP
      rw [show longB (trimL (dmL xs ys).1) = false from decide_eq_false (by rw [trimE_trimL]; omega), show longB ys = false from decide_eq_false (by omega), show longB (mulL (trimL (dmL xs ys).1) ys) = false from decide_eq_false (by omega)]
      rfl
    have a1 : addE (mulL (trimL (dmL xs ys).1) ys) (dmL xs ys).2 = 0 := by
      unfold addE
      rw [show longB (mulL (trimL (dmL xs ys).1) ys) = false from decide_eq_false (by omega), show longB (dmL xs ys).2 = false from decide_eq_false (by omega)]
      rfl
    have a2 : addP (mulL (trimL (dmL xs ys).1) ys) (dmL xs ys).2 = trimL xs := by
      unfold addP
      rw [show longB (mulL (trimL (dmL xs ys).1) ys) = false from decide_eq_false (by omega), show longB (dmL xs ys).2 = false from decide_eq_false (by omega)]
      rw [if_neg (by simp)]
      exact dm_add xs ys h3
    have hmm := mulL_len (trimL (dmL xs ys).1) ys
    rw [trimL_length] at hmm
    refine Ev.step (f := fun _ => some true) (fun k => ?_) (Ev.now _)
    rw [recouplaw02_PolyDivides.j0, if_neg (by simp), hd.1, hd.2.1, hd.2.2, g_mul _ ys (by rw [trimL_length]; omega) (by omega), Option.bind_some, m1, m2, g_add _ _ (by omega) (by omega), Option.bind_some, a1, a2, ha, Option.bind_some, if_pos rfl, if_pos rfl, if_pos rfl, if_pos rfl,
      g_degree _ (by omega), Option.bind_some, g_degree ys (by omega), Option.bind_some, if_pos (by omega), g_trim xs (by omega), Option.bind_some, pu_same, Option.bind_some]
  unfold recouplaw02_PolyDivides.f
  simp only [g_dm xs ys (by omega) (by omega), Option.bind_some, nI_length]
  by_cases h1 : (xs.length : Int) > 512
  · simp only [if_pos h1]; exact hyes
  · simp only [if_neg h1]
    by_cases h2 : (ys.length : Int) > 512
    · simp only [if_pos h2]; exact hyes
    · simp only [if_neg h2, g_degree ys (show ys.length ≤ 140737488355328 by omega), Option.bind_some]
      by_cases h3 : 0 < trimE ys
      · rw [decide_eq_false (by omega)]; exact hno (by omega) (by omega) h3
      · rw [decide_eq_true (by omega)]; exact hyes
theorem mulE_zero {xs ys : List UInt8} (h : mulE xs ys = 0) : longB xs = false ∧ longB ys = false ∧ longB (mulL xs ys) = false := by
  unfold mulE at h
  cases h1 : longB xs
  · cases h2 : longB ys
    · cases h3 : longB (mulL xs ys)
      · exact ⟨rfl, rfl, rfl⟩
      · rw [h1, h2, h3] at h; simp at h
    · rw [h1, h2] at h; simp at h
  · rw [h1] at h; simp at h
theorem mulE_ne {xs ys : List UInt8} (h : ¬ mulE xs ys = 0) : 512 < xs.length + ys.length := by
  rcases Nat.lt_or_ge 512 (xs.length + ys.length) with h1 | h1
  · exact h1
  · exfalso
    apply h
    have tx := trimE_le xs
    have ty := trimE_le ys
    have hm := mulL_len2 xs ys
    have tm := trimE_le (mulL xs ys)
    unfold mulE
    rw [show longB xs = false from decide_eq_false (by omega), show longB ys = false from decide_eq_false (by omega), show longB (mulL xs ys) = false from decide_eq_false (by omega)]
    rfl
theorem anch2_bind (g : Bool → Option Bool) : (recouplaw02_anchored.f).bind g = g true := by rw [anch2_true]; rfl
theorem gcP_ok {a b : List UInt8} (h1 : longB a = false) (h2 : longB b = false) : gcP a b = normL (gcdL a b) ∧ gcE a b = 0 := by
  unfold gcP gcE
  rw [h1, h2]
  exact ⟨rfl, rfl⟩
/-- the greatest common divisor, normed: what it is good for -/
theorem gc_facts {a b : List UInt8} : Dv (normL (gcdL a b)) a ∧ Dv (normL (gcdL a b)) b ∧ (∀ c, Dv c a → Dv c b → Dv c (normL (gcdL a b))) ∧ trimE (normL (gcdL a b)) = (normL (gcdL a b)).length ∧ ((normL (gcdL a b)).length ≠ 0 → (normL (gcdL a b)).getD ((normL (gcdL a b)).length - 1) 0 = 1) := by
  have h := gcdL_dv a b
  generalize gcdL a b = g at h ⊢
  have ht := h.2.2
  refine ⟨(of_normL ht).trans h.1.1, (of_normL ht).trans h.1.2, fun c h1 h2 => (h.2.1 c h1 h2).trans normL_of, ?_, fun h0 => normL_top ht (by rw [← normL_len]; exact h0)⟩
  rw [normL_trimE ht, normL_len]
theorem nil_of_trim {l : List UInt8} (h : trimE l = 0) (ht : trimL l = l) : l.length = 0 := by rw [← ht, trimL_length]; exact h
theorem dmR_of_dv {a d : List UInt8} (h1 : trimE a ≤ 512) (h2 : trimE d ≤ 512) (h3 : 0 < trimE d) (h : Dv d a) : dmE a d = 0 ∧ dmR a d = [] := by
  have hd := dm_ok h1 h2 h3
  exact ⟨hd.1, by rw [hd.2.2]; exact h.rem h3⟩
theorem common_pure (ps qs cs : List UInt8) (hp : ps.length < 140737488355320) (hq : qs.length < 140737488355320) (hc : cs.length < 140737488355320) : ∃ k, recouplaw02_PolyCommon.f k (nI ps) (nI qs) (nI cs) = some true := by
  refine Ev.rounds ?_
  unfold recouplaw02_PolyCommon.f
  simp only [g_mul ps cs (show ps.length ≤ 140737488355328 by omega) (show cs.length ≤ 140737488355328 by omega), g_mul qs cs (show qs.length ≤ 140737488355328 by omega) (show cs.length ≤ 140737488355328 by omega), Option.bind_some]
  obtain ⟨a, ha⟩ : ∃ a, a = mulP ps cs := ⟨_, rfl⟩
  obtain ⟨b, hb⟩ : ∃ b, b = mulP qs cs := ⟨_, rfl⟩
  rw [← ha, ← hb]
  by_cases h1 : mulE ps cs = 0
  · by_cases h2 : mulE qs cs = 0
    · rw [h1, h2]
      simp only [if_true, bne_self_eq_false]
      have z1 := mulE_zero h1
      have z2 := mulE_zero h2
      have ea : a = mulL ps cs := by rw [ha]; unfold mulP; rw [z1.1, z1.2.1, z1.2.2]; rfl
      have eb : b = mulL qs cs := by rw [hb]; unfold mulP; rw [z2.1, z2.2.1, z2.2.2]; rfl
      have dca : Dv cs a := ⟨ps, fun i => by rw [ea, mulL_getD]⟩
      have dcb : Dv cs b := ⟨qs, fun i => by rw [eb, mulL_getD]⟩
      have ta : trimL a = a := by rw [ea, mulL_trim]
      have tb : trimL b = b := by rw [eb, mulL_trim]
      have la : trimE a ≤ 512 := by have := of_decide_eq_false z1.2.2; rw [← ea] at this; omega
      have lb : trimE b ≤ 512 := by have := of_decide_eq_false z2.2.2; rw [← eb] at this; omega
      have lla : a.length ≤ 512 := by rw [← ta, trimL_length]; exact la
      have llb : b.length ≤ 512 := by rw [← tb, trimL_length]; exact lb
      have lc : trimE cs ≤ 512 := by have := of_decide_eq_false z1.2.1; omega
      have hg := gcP_ok (a := a) (b := b) (by rw [ea]; exact z1.2.2) (by rw [eb]; exact z2.2.2)
      have hf := gc_facts (a := a) (b := b)
      rw [← hg.1] at hf
      obtain ⟨d, hd⟩ : ∃ d, d = gcP a b := ⟨_, rfl⟩
      rw [← hd] at hf
      obtain ⟨f1, f2, f3, f4, f5⟩ := hf
      have ld : d.length ≤ 512 := by
        by_cases h0 : d.length = 0
        · omega
        · rcases Nat.eq_zero_or_pos (trimE a) with h3 | h3
          · rcases Nat.eq_zero_or_pos (trimE b) with h4 | h4
            · have na := List.eq_nil_of_length_eq_zero (nil_of_trim h3 ta)
              have nb := List.eq_nil_of_length_eq_zero (nil_of_trim h4 tb)
              rw [hd, hg.1, na, nb]
              decide
            · obtain ⟨h, hh⟩ := f2
              have e := trimE_congr (xs := b) (ys := mulL h d) (fun i => by rw [hh, mulL_getD])
              by_cases h5 : trimE h = 0
              · rw [trimE_mul0 _ _ (.inl h5)] at e; omega
              · rw [trimE_mul _ _ h5 (by omega)] at e; omega
          · obtain ⟨h, hh⟩ := f1
            have e := trimE_congr (xs := a) (ys := mulL h d) (fun i => by rw [hh, mulL_getD])
            by_cases h5 : trimE h = 0
            · rw [trimE_mul0 _ _ (.inl h5)] at e; omega
            · rw [trimE_mul _ _ h5 (by omega)] at e; omega
      have hj2 : 0 < trimE d → Ev (fun k => recouplaw02_PolyCommon.j2 k (nI cs) (nI d) true) true := by
        intro hpos
        refine Ev.step (f := fun _ => some true) (fun k => ?_) (Ev.now _)
        rw [recouplaw02_PolyCommon.j2, g_degree cs (by omega), Option.bind_some]
        by_cases h3 : 0 < trimE cs
        · have hr := dmR_of_dv (by omega) lc h3 (f3 cs dca dcb)
          rw [if_neg (by omega), g_dm d cs (by omega) (by omega), Option.bind_some, if_pos rfl, hr.1, hr.2, if_pos rfl]
          rfl
        · rw [if_pos (by omega)]
      have hj1 : Ev (fun k => recouplaw02_PolyCommon.j1 k (nI cs) (nI a) (nI b) (nI d) false) true := by
        by_cases h3 : 0 < trimE d
        · have hra := dmR_of_dv la (by omega) h3 f1
          have hrb := dmR_of_dv lb (by omega) h3 f2
          refine Ev.step (fun k => ?_) (hj2 h3)
          rw [recouplaw02_PolyCommon.j1, if_neg (by simp), g_degree d (by omega), Option.bind_some, if_neg (by omega), g_dm a d (by omega) (by omega), Option.bind_some, g_dm b d (by omega) (by omega), Option.bind_some, anch2_bind, if_pos rfl, hra.1, hra.2, hrb.1, hrb.2, if_pos rfl, if_pos rfl]
          rfl
        · have h0 : d.length = 0 := by omega
          have na := nil_of_trim (f1.zero h0) ta
          have nb := nil_of_trim (f2.zero h0) tb
          refine Ev.step (f := fun _ => some true) (fun k => ?_) (Ev.now _)
          rw [recouplaw02_PolyCommon.j1, if_neg (by simp), g_degree d (by omega), Option.bind_some, if_pos (by omega), anch2_bind, if_pos rfl, nI_length, nI_length, na, nb]
          rfl
      refine Ev.step (fun k => ?_) hj1
      rw [recouplaw02_PolyCommon.j0, if_neg (by simp), g_gcd a b (by omega) (by omega), Option.bind_some, hg.2, if_pos rfl, ← hd]
      by_cases h0 : d.length = 0
      · rw [if_neg (by rw [nI_length]; omega)]
      · rw [if_pos (by rw [nI_length]; omega), nI_length, w64 (by omega) (by omega), show (d.length : Int) - 1 = ((d.length - 1 : Nat) : Int) by omega, if_pos (by omega), if_pos (by omega), rd_nI, f5 h0]
        rfl
    · rw [h1]
      simp only [if_true]
      have hl := mulE_ne h2
      refine Ev.step (f := fun _ => some true) (fun k => ?_) (Ev.now _)
      rw [show (mulE qs cs != 0) = true by rw [bne_iff_ne]; exact h2, recouplaw02_PolyCommon.j0, if_pos rfl, anch2_bind, if_pos rfl, nI_length, nI_length, nI_length, w64_add (by omega), w64_add (by omega), decide_eq_true (by omega)]
      split <;> rfl
  · simp only [if_neg h1]
    have hl := mulE_ne h1
    refine Ev.step (f := fun _ => some true) (fun k => ?_) (Ev.now _)
    rw [recouplaw02_PolyCommon.j0, if_pos rfl, anch2_bind, if_pos rfl, nI_length, nI_length, nI_length, w64_add (by omega), if_pos (by omega)]
theorem int_ok {xs ys : List UInt8} (h : intE xs ys = 0) : xs.length = ys.length ∧ dupB xs = false ∧ intP xs ys = intTo xs ys xs.length := by
  unfold intE at h
  by_cases h1 : xs.length = ys.length
  · rw [if_pos h1] at h
    cases h2 : dupB xs
    · refine ⟨h1, rfl, ?_⟩
      unfold intP
      rw [if_pos h1, h2, if_neg (by simp)]
    · rw [h2, if_pos rfl] at h; omega
  · rw [if_neg h1] at h; omega
theorem through_pure (xs ys : List UInt8) (hx : xs.length < 140737488355320) (hy : ys.length < 140737488355320) : ∃ k, recouplaw02_PolyThrough.f k (nI xs) (nI ys) = some true := by
  refine Ev.rounds ?_
  unfold recouplaw02_PolyThrough.f
  simp only [g_int xs ys (show xs.length ≤ 140737488355328 by omega) (show ys.length ≤ 140737488355328 by omega), Option.bind_some]
  by_cases h : intE xs ys = 0
  · simp only [if_pos h]
    have hk := int_ok h
    have hlen := intTo_len xs ys xs.length
    have htr := int_trimE xs ys xs.length (Nat.le_refl _)
    rw [hk.2.2]
    have hl : ∀ d i, i + d = xs.length → Ev (fun k => recouplaw02_PolyThrough.l0 k (nI xs) (nI ys) (nI (intTo xs ys xs.length)) (i : Int)) true := by
      intro d
      induction d with
      | zero =>
        intro i hi
        refine Ev.step (f := fun _ => some true) (fun k => ?_) (Ev.now _)
        have hmx : (trimE (intTo xs ys xs.length) : Int) - 1 < mx (xs.length : Int) 1 := by unfold mx; split <;> omega
        rw [recouplaw02_PolyThrough.l0, if_neg (by rw [nI_length]; omega), anch2_bind, if_pos rfl, g_degree _ (by omega), Option.bind_some, nI_length, nI_length, if_pos hmx, if_pos (by omega), g_twice xs (by omega), Option.bind_some, hk.2.1]
        rfl
      | succ d ih =>
        intro i hi
        refine Ev.step (fun k => ?_) (ih (i + 1) (by omega))
        have he := ev_int (ys := ys) hk.2.1 (j := i) (by omega) xs.length (Nat.le_refl _)
        rw [if_pos (show i < xs.length by omega)] at he
        rw [recouplaw02_PolyThrough.l0, if_pos (by rw [nI_length]; omega), if_pos (by omega), rd_nI, g_eval _ _ (by omega), Option.bind_some, if_pos (by rw [nI_length]; omega), rd_nI, he, if_pos rfl, w64_succ (by omega)]
    exact hl xs.length 0 (by omega)
  · simp only [if_neg h]
    refine Ev.step (f := fun _ => some true) (fun k => ?_) (Ev.now _)
    rw [anch2_bind, if_pos rfl, nI_length, nI_length]
    by_cases h1 : xs.length = ys.length
    · rw [if_pos (by omega), g_twice xs (by omega), Option.bind_some]
      cases h2 : dupB xs
      · exfalso
        apply h
        unfold intE
        rw [if_pos h1, h2, if_neg (by simp)]
      · rfl
    · rw [if_neg (by omega)]
theorem polyQuotients_calls (a0 : Option Addr) (n0 c0 : Nat) (x0 : List UInt8) (a1 : Option Addr) (n1 c1 : Nat) (x1 : List UInt8) (w : World)
    (r0 : Rd w w.heap.size a0 n0 (bVs x0)) (l0 : n0 ≤ c0) (m0 : c0 ≤ 140737488351232) (r1 : Rd w w.heap.size a1 n1 (bVs x1)) (l1 : n1 ≤ c1) (m1 : c1 ≤ 140737488351232) :
    Calls Try.prog 8 #[.slice a0 n0 c0, .slice a1 n1 c1] w fun e w' => e = .returned (.bool true) ∧ Below w.heap.size w w' := by
  obtain rfl : x0.length = n0 := by have := r0.len; rw [bVs_length] at this; exact this
  obtain rfl : x1.length = n1 := by have := r1.len; rw [bVs_length] at this; exact this
  obtain ⟨k, h⟩ := quotients_pure x0 x1 (by omega) (by omega)
  have hc := recouplaw02_PolyQuotients.calls k a0 c0 (nI x0) a1 c1 (nI x1) true w (C_of_rd r0 (by omega)) (by rw [nI_length]; exact l0) (C_of_rd r1 (by omega)) (by rw [nI_length]; exact l1) rfl h
  rw [nI_length, nI_length] at hc
  exact hc
theorem polyDivides_calls (a0 : Option Addr) (n0 c0 : Nat) (x0 : List UInt8) (a1 : Option Addr) (n1 c1 : Nat) (x1 : List UInt8) (w : World)
    (r0 : Rd w w.heap.size a0 n0 (bVs x0)) (l0 : n0 ≤ c0) (m0 : c0 ≤ 140737488351232) (r1 : Rd w w.heap.size a1 n1 (bVs x1)) (l1 : n1 ≤ c1) (m1 : c1 ≤ 140737488351232) :
    Calls Try.prog 9 #[.slice a0 n0 c0, .slice a1 n1 c1] w fun e w' => e = .returned (.bool true) ∧ Below w.heap.size w w' := by
  obtain rfl : x0.length = n0 := by have := r0.len; rw [bVs_length] at this; exact this
  obtain rfl : x1.length = n1 := by have := r1.len; rw [bVs_length] at this; exact this
  obtain ⟨k, h⟩ := divides_pure x0 x1 (by omega) (by omega)
  have hc := recouplaw02_PolyDivides.calls k a0 c0 (nI x0) a1 c1 (nI x1) true w (C_of_rd r0 (by omega)) (by rw [nI_length]; exact l0) (C_of_rd r1 (by omega)) (by rw [nI_length]; exact l1) rfl h
  rw [nI_length, nI_length] at hc
  exact hc
theorem polyThrough_calls (a0 : Option Addr) (n0 c0 : Nat) (x0 : List UInt8) (a1 : Option Addr) (n1 c1 : Nat) (x1 : List UInt8) (w : World)
    (r0 : Rd w w.heap.size a0 n0 (bVs x0)) (l0 : n0 ≤ c0) (m0 : c0 ≤ 140737488351232) (r1 : Rd w w.heap.size a1 n1 (bVs x1)) (l1 : n1 ≤ c1) (m1 : c1 ≤ 140737488351232) :
    Calls Try.prog 11 #[.slice a0 n0 c0, .slice a1 n1 c1] w fun e w' => e = .returned (.bool true) ∧ Below w.heap.size w w' := by
  obtain rfl : x0.length = n0 := by have := r0.len; rw [bVs_length] at this; exact this
  obtain rfl : x1.length = n1 := by have := r1.len; rw [bVs_length] at this; exact this
  obtain ⟨k, h⟩ := through_pure x0 x1 (by omega) (by omega)
  have hc := recouplaw02_PolyThrough.calls k a0 c0 (nI x0) a1 c1 (nI x1) true w (C_of_rd r0 (by omega)) (by rw [nI_length]; exact l0) (C_of_rd r1 (by omega)) (by rw [nI_length]; exact l1) rfl h
  rw [nI_length, nI_length] at hc
  exact hc
theorem polyCommon_calls (a0 : Option Addr) (n0 c0 : Nat) (x0 : List UInt8) (a1 : Option Addr) (n1 c1 : Nat) (x1 : List UInt8) (a2 : Option Addr) (n2 c2 : Nat) (x2 : List UInt8) (w : World)
    (r0 : Rd w w.heap.size a0 n0 (bVs x0)) (l0 : n0 ≤ c0) (m0 : c0 ≤ 140737488351232) (r1 : Rd w w.heap.size a1 n1 (bVs x1)) (l1 : n1 ≤ c1) (m1 : c1 ≤ 140737488351232) (r2 : Rd w w.heap.size a2 n2 (bVs x2)) (l2 : n2 ≤ c2) (m2 : c2 ≤ 140737488351232) :
    Calls Try.prog 10 #[.slice a0 n0 c0, .slice a1 n1 c1, .slice a2 n2 c2] w fun e w' => e = .returned (.bool true) ∧ Below w.heap.size w w' := by
  obtain rfl : x0.length = n0 := by have := r0.len; rw [bVs_length] at this; exact this
  obtain rfl : x1.length = n1 := by have := r1.len; rw [bVs_length] at this; exact this
  obtain rfl : x2.length = n2 := by have := r2.len; rw [bVs_length] at this; exact this
  obtain ⟨k, h⟩ := common_pure x0 x1 x2 (by omega) (by omega) (by omega)
  have hc := recouplaw02_PolyCommon.calls k a0 c0 (nI x0) a1 c1 (nI x1) a2 c2 (nI x2) true w (C_of_rd r0 (by omega)) (by rw [nI_length]; exact l0) (C_of_rd r1 (by omega)) (by rw [nI_length]; exact l1) (C_of_rd r2 (by omega)) (by rw [nI_length]; exact l2) rfl h
  rw [nI_length, nI_length, nI_length] at hc
  exact hc
end Go.Proofs.Ytaihgckcmcacfaa
namespace Go.Proofs.Ytaihgckcmcacfaa
open Go.RowKit Go.Proofs.YtaihgckcmcacfaaW.PrintWords Go.Proofs.Ytaihgckcmcacfaa.Pr
set_option linter.unusedVariables false
set_option linter.unusedSimpArgs false

/-- the elements below k that stand in the list -/
def inTo (rs : List UInt8) : Nat → List UInt8
  | 0 => []
  | k + 1 => if UInt8.ofNat k ∈ rs then inTo rs k ++ [UInt8.ofNat k] else inTo rs k
theorem inTo_len (rs : List UInt8) : ∀ k, (inTo rs k).length ≤ k
  | 0 => Nat.le_refl _
  | k + 1 => by
    have := inTo_len rs k
    unfold inTo
    split
    · rw [List.length_append, List.length_singleton]; omega
    · omega
theorem roots_in (rs : List UInt8) : ∀ k, rootsTo (prodTo rs rs.length) k = inTo rs k
  | 0 => rfl
  | k + 1 => by
    have h := ev_prod rs (UInt8.ofNat k) rs.length (Nat.le_refl _)
    rw [List.take_length] at h
    rw [rootsTo, inTo, roots_in rs k]
    by_cases h1 : UInt8.ofNat k ∈ rs
    · rw [if_pos h1, if_pos (h.2 h1)]
    · rw [if_neg h1, if_neg (fun h2 => h1 (h.1 h2))]
theorem rootsL_prod (rs : List UInt8) : rootsL (prodTo rs rs.length) = inTo rs 256 := by
  unfold rootsL
  rw [if_neg (by rw [prodTo_trimE]; omega), roots_in]
theorem inU_from (rs : List UInt8) : inU (nI (fromP rs)) = true := inU_nI _
theorem from_calls (A : Option Addr) (n cap : Nat) (rs : List UInt8) (w : World) (hr : Rd w w.heap.size A n (bVs rs)) (hcap : n ≤ cap) (hn : n ≤ 140737488355328) :
    Calls Try.prog 23 #[.slice A n cap] w fun e w' => ∃ A' k c', e = .returned (.tuple #[.slice A' k c', .int .i64 (fromE rs)]) ∧ OwnB w' w.heap.size A' k c' (fromP rs) ∧ k ≤ c' ∧ Below w.heap.size w w' := by
  obtain rfl : rs.length = n := by have := hr.len; rw [bVs_length] at this; exact this
  obtain ⟨k, h⟩ := (pu_from rs).rounds
  have hc := poly_FromRoots.calls k A cap (nI rs) _ _ w (C_of_rd hr (by omega)) (by rw [nI_length]; exact hcap) h
  rw [nI_length] at hc
  refine hc.mono ?_
  rintro e w' ⟨v, rfl, hv, hb⟩
  obtain ⟨A', c', rfl, hc', ho⟩ := own_of_R hv (inU_nI _)
  rw [nI_toU] at ho
  exact ⟨A', _, c', rfl, ho, hc', hb⟩
theorem same2_calls (A B : Option Addr) (n m c d : Nat) (xs : List UInt8) (w : World) (ha : Rd w w.heap.size A n (bVs xs)) (hb : Rd w w.heap.size B m (bVs xs)) (h1 : n ≤ c) (h2 : m ≤ d) (hn : n ≤ 140737488355328) :
    Calls Try.prog 13 #[.slice A n c, .slice B m d] w fun e w' => ∃ q, e = .returned (.bool true) ∧ w' = w.drewN q := by
  obtain rfl : xs.length = n := by have := ha.len; rw [bVs_length] at this; exact this
  obtain rfl : xs.length = m := by have := hb.len; rw [bVs_length] at this; exact this
  have hc := recoupref01_Same.calls A c (nI xs) B d (nI xs) true w (C_of_rd ha (by omega)) (by rw [nI_length]; exact h1) (C_of_rd hb (by omega)) (by rw [nI_length]; exact h2) (pu_same _)
  rw [nI_length] at hc
  refine hc.mono ?_
  rintro e w' ⟨rfl, q, rfl⟩
  exact ⟨q, rfl, rfl⟩
theorem anch2_calls (w : World) : Calls Try.prog 27 #[] w fun e w' => e = .returned (.bool true) ∧ Below w.heap.size w w' := recouplaw02_anchored.calls true w anch2_true
end Go.Proofs.Ytaihgckcmcacfaa
namespace Go.Proofs.Ytaihgckcmcacfaa
open Go.RowKit Go.Proofs.YtaihgckcmcacfaaW.PrintWords Go.Proofs.Ytaihgckcmcacfaa.Pr
set_option linter.unusedVariables false
set_option linter.unusedSimpArgs false

theorem rmul2_calls (A B : Option Addr) (n m c d : Nat) (xs ys : List UInt8) (w : World) (ha : Rd w w.heap.size A n (bVs xs)) (hb : Rd w w.heap.size B m (bVs ys)) (h1 : n ≤ c) (h2 : m ≤ d) (hn : n < 140737488355328) (hm : m < 140737488355328) :
    Calls Try.prog 22 #[.slice A n c, .slice B m d] w fun e w' => ∃ A' k cap, e = .returned (.tuple #[.slice A' k cap, .int .i64 (mulE xs ys)]) ∧ OwnB w' w.heap.size A' k cap (mulP xs ys) ∧ Below w.heap.size w w' := by
  obtain rfl : xs.length = n := by have := ha.len; rw [bVs_length] at this; exact this
  obtain rfl : ys.length = m := by have := hb.len; rw [bVs_length] at this; exact this
  obtain ⟨k, h⟩ := (pu_rmul xs ys hn hm).rounds
  have hc := recoupref02_Mul.calls k A c (nI xs) B d (nI ys) _ _ w (C_of_rd ha (by omega)) (by rw [nI_length]; exact h1) (C_of_rd hb (by omega)) (by rw [nI_length]; exact h2) h
  rw [nI_length, nI_length] at hc
  refine hc.mono ?_
  rintro e w' ⟨v, rfl, hv, hb⟩
  obtain ⟨A', c', rfl, hc', ho⟩ := own_of_R hv (inU_nI _)
  rw [nI_toU] at ho
  exact ⟨A', _, c', rfl, ho, hb⟩
theorem addP_len (xs ys : List UInt8) : (addP xs ys).length ≤ xs.length + ys.length := by
  unfold addP
  split
  · simp
  · have h := addL_len (trimL xs) (trimL ys)
    rw [trimL_length, trimL_length] at h
    have := trimE_le xs
    have := trimE_le ys
    omega
theorem mulP_len (xs ys : List UInt8) : (mulP xs ys).length ≤ 512 := by
  unfold mulP
  split
  · simp
  · rename_i h
    have h3 : longB (mulL xs ys) = false := by
      cases h : longB (mulL xs ys)
      · rfl
      · simp_all
    have := of_decide_eq_false h3
    rw [← mulL_trim, trimL_length]
    omega
theorem addP_len512 (xs ys : List UInt8) : (addP xs ys).length ≤ 512 := by
  unfold addP
  split
  · simp
  · rename_i h
    have h1 : longB xs = false := by cases h : longB xs <;> simp_all
    have h2 : longB ys = false := by cases h : longB ys <;> simp_all
    have a1 := of_decide_eq_false h1
    have a2 := of_decide_eq_false h2
    have h := addL_len (trimL xs) (trimL ys)
    rw [trimL_length, trimL_length] at h
    omega
theorem gcdG_len : ∀ k (p q : List UInt8), (gcdG k p q).length ≤ max p.length q.length
  | 0, p, q => Nat.le_max_left _ _
  | k + 1, p, q => by
    rw [gcdG]
    split
    · exact Nat.le_max_left _ _
    · refine Nat.le_trans (gcdG_len k q (dmL p q).2) ?_
      rcases Nat.eq_zero_or_pos (trimE q) with h | h
      · have hd : (dmL p q).2.length ≤ p.length := by
          rcases Nat.lt_or_ge p.length (dmL p q).2.length with h1 | h1
          · exfalso
            unfold dmL at h1
            have hz : ∀ k quo rem, rem.length ≤ p.length → (divG (trimL q) (Gf.inv (q.getD (trimE q - 1) 0)) k quo rem).2.length ≤ p.length := by
              intro k
              induction k with
              | zero => intro quo rem h; exact h
              | succ k ih =>
                intro quo rem h
                unfold divG
                split
                · exact h
                · refine ih _ _ ?_
                  unfold stepR
                  rw [trimL_length]
                  refine Nat.le_trans (trimE_le _) ?_
                  rw [offTo_length]
                  exact h
            have := hz (trimE p) (List.replicate (trimE p + 1 - trimE q) 0) (trimL p) (by rw [trimL_length]; exact trimE_le p)
            omega
          · exact h1
        omega
      · have := dm_rem p q h
        have := trimE_le q
        omega
theorem gcP_len (xs ys : List UInt8) : (gcP xs ys).length ≤ xs.length + ys.length := by
  unfold gcP
  split
  · simp
  · rw [normL_len]
    unfold gcdL
    have h := gcdG_len (trimL ys).length (trimL xs) (trimL ys)
    rw [trimL_length, trimL_length] at h
    have := trimE_le xs
    have := trimE_le ys
    rw [trimL_length]
    omega
theorem intP_len (xs ys : List UInt8) : (intP xs ys).length ≤ 257 := by
  unfold intP
  split
  · cases h : dupB xs
    · have h1 := dup_len h
      have h2 := intTo_len xs ys xs.length
      rw [if_neg (by simp)]
      omega
    · simp
  · simp
theorem rootsL_len (xs : List UInt8) : (rootsL xs).length ≤ 256 := by
  unfold rootsL
  split
  · simp
  · exact rootsTo_len xs 256
set_option maxRecDepth 100000 in
set_option maxHeartbeats 6400000 in
theorem polyFresh_calls (a0 : Option Addr) (n0 c0 : Nat) (x0 : List UInt8) (a1 : Option Addr) (n1 c1 : Nat) (x1 : List UInt8) (w : World)
    (r0 : Rd w w.heap.size a0 n0 (bVs x0)) (l0 : n0 ≤ c0) (m0 : c0 ≤ 140737488351232) (r1 : Rd w w.heap.size a1 n1 (bVs x1)) (l1 : n1 ≤ c1) (m1 : c1 ≤ 140737488351232) :
    Calls Try.prog 12 #[.slice a0 n0 c0, .slice a1 n1 c1] w fun e w' => e = .returned (.bool true) ∧ Below w.heap.size w w' := by
  have hn0 : n0 ≤ 140737488351232 := by omega
  have hn1 : n1 ≤ 140737488351232 := by omega
  have hx0 : x0.length = n0 := by have := r0.len; rw [bVs_length] at this; exact this
  have hx1 : x1.length = n1 := by have := r1.len; rw [bVs_length] at this; exact this
  have HX0 := Lib.hid hx0
  have HX1 := Lib.hid hx1
  have HR := Lib.hid (((Kp.start w).add r0).add r1)
  clear hx0 hx1 r0 r1 m0 m1
  go_enter Try.func12, Try.ntmps12
  go_wp2_with fail
  refine (copy_own a0 n0 c0 x0 w (HR.out.rd 1 rfl) (by omega)).mono ?_
  rintro e w1 ⟨Ap, cp, rfl, op, b1⟩
  have HR1 := Lib.hid ((HR.out.go b1).add op.rd)
  have lp := op.le
  clear op b1
  go_wp2_with fail
  refine (copy_own a1 n1 c1 x1 w1 (HR1.out.rd 1 rfl) (by omega)).mono ?_
  rintro e w2 ⟨Aq, cq, rfl, oq, b2⟩
  have HR2 := Lib.hid ((HR1.out.go b2).add oq.rd)
  have lq := oq.le
  clear oq b2 HR1
  have HB2 := Lib.hid (Below.refl w2.heap.size w2)
  have HO2 := Lib.hid (Owned.nil w2 w2.heap.size)
  go_wp2_with fail
  refine (trim_calls Ap n0 cp x0 w2 (HR2.out.rd 1 rfl) lp (by omega)).mono ?_
  rintro e w3 ⟨At, ct, rfl, o, b⟩
  have HO3 := Lib.hid (HO2.out.snoc b HB2.out.size o)
  have HB3 := Lib.hid (HB2.out.trans (b.mono HB2.out.size))
  have HN3 := Lib.hid (show trimE x0 ≤ 140737488351232 by have := trimE_le x0; have := HX0.out; omega)
  clear o b
  go_wp2_with fail
  refine (Padd_calls Ap Aq n0 n1 cp cq x0 x1 w3 ((HR2.out.go HB3.out).rd 1 rfl) ((HR2.out.go HB3.out).rd 0 rfl) lp lq (by omega) (by omega)).mono ?_
  rintro e w4 ⟨As, ks, cs, rfl, o, b⟩
  have HO4 := Lib.hid (HO3.out.snoc b HB3.out.size o)
  have HB4 := Lib.hid (HB3.out.trans (b.mono HB3.out.size))
  have HN4 := Lib.hid (show ks ≤ 512 by have := addP_len512 x0 x1; have := o.1; omega)
  clear o b HO3
  go_wp2_with fail
  refine (Pmul_calls Ap Aq n0 n1 cp cq x0 x1 w4 ((HR2.out.go HB4.out).rd 1 rfl) ((HR2.out.go HB4.out).rd 0 rfl) lp lq (by omega) (by omega)).mono ?_
  rintro e w5 ⟨Am, km, cm, rfl, o, b⟩
  have HO5 := Lib.hid (HO4.out.snoc b HB4.out.size o)
  have HB5 := Lib.hid (HB4.out.trans (b.mono HB4.out.size))
  have HN5 := Lib.hid (show km ≤ 512 by have := mulP_len x0 x1; have := o.1; omega)
  clear o b HO4
  go_wp2_with fail
  refine (DivMod_calls Ap Aq n0 n1 cp cq x0 x1 w5 ((HR2.out.go HB5.out).rd 1 rfl) ((HR2.out.go HB5.out).rd 0 rfl) lp lq (by omega) (by omega)).mono ?_
  rintro e w6 ⟨Au, ku, cu, Av, kv, cv, rfl, o, o2, b, hap⟩
  have HO6 := Lib.hid (HO5.out.snoc2 b HB5.out.size o o2 hap)
  have HB6 := Lib.hid (HB5.out.trans (b.mono HB5.out.size))
  have HN6 := Lib.hid (show ku ≤ 140737488351233 ∧ kv ≤ 140737488351232 by
    have h1 := dmQ_len x0 x1
    have h2 := dmR_len x0 x1
    have h3 := o.1
    have h4 := o2.1
    have := HX0.out
    have := HX1.out
    omega)
  clear o o2 b hap HO5
  go_wp2_with fail
  refine (gcd_calls Ap Aq n0 n1 cp cq x0 x1 w6 ((HR2.out.go HB6.out).rd 1 rfl) ((HR2.out.go HB6.out).rd 0 rfl) lp lq (by omega) (by omega)).mono ?_
  rintro e w7 ⟨Ag, kg, cg, rfl, o, b⟩
  have HO7 := Lib.hid (HO6.out.snoc b HB6.out.size o)
  have HB7 := Lib.hid (HB6.out.trans (b.mono HB6.out.size))
  have HN7 := Lib.hid (show kg ≤ 140737488355325 by
    have h1 := o.1
    have h2 := HX0.out
    have h3 := HX1.out
    have h4 : (gcP x0 x1).length ≤ max x0.length x1.length := by
      unfold gcP
      split
      · simp
      · rw [normL_len]
        unfold gcdL
        have h := gcdG_len (trimL x1).length (trimL x0) (trimL x1)
        rw [trimL_length, trimL_length] at h
        have := trimE_le x0
        have := trimE_le x1
        rw [trimL_length]
        omega
    omega)
  clear o b HO6
  go_wp2_with fail
  refine (inter_calls Ap Aq n0 n1 cp cq x0 x1 w7 ((HR2.out.go HB7.out).rd 1 rfl) ((HR2.out.go HB7.out).rd 0 rfl) lp lq (by omega) (by omega)).mono ?_
  rintro e w8 ⟨Ai, ki, ci, rfl, o, b⟩
  have HO8 := Lib.hid (HO7.out.snoc b HB7.out.size o)
  have HB8 := Lib.hid (HB7.out.trans (b.mono HB7.out.size))
  have HN8 := Lib.hid (show ki ≤ 257 by have := intP_len x0 x1; have := o.1; omega)
  clear o b HO7
  go_wp2_with fail
  refine (roots_calls Ap n0 cp x0 w8 ((HR2.out.go HB8.out).rd 1 rfl) lp (by omega)).mono ?_
  rintro e w9 ⟨vr, rfl, ho, b⟩
  obtain ⟨Ar, cr, rfl, o⟩ := ho.slice
  obtain ⟨kr, hkr⟩ : ∃ k, k = (rootsL x0).length := ⟨_, rfl⟩
  rw [← hkr] at o ⊢
  have HO9 := Lib.hid (HO8.out.snoc b HB8.out.size o)
  have HB9 := Lib.hid (HB8.out.trans (b.mono HB8.out.size))
  have HN9 := Lib.hid (show kr ≤ 256 by have := rootsL_len x0; omega)
  clear o b HO8 ho hkr
  obtain ⟨R, hR⟩ : ∃ R : List Res, R = [⟨At, trimE x0, ct, trimL x0⟩, ⟨As, ks, cs, addP x0 x1⟩, ⟨Am, km, cm, mulP x0 x1⟩, ⟨Au, ku, cu, dmQ x0 x1⟩, ⟨Av, kv, cv, dmR x0 x1⟩, ⟨Ag, kg, cg, gcP x0 x1⟩, ⟨Ai, ki, ci, intP x0 x1⟩, ⟨Ar, kr, cr, rootsL x0⟩] := ⟨_, rfl⟩
  have HOW := Lib.hid (show Owned w9 w2.heap.size R by rw [hR]; exact HO9.out)
  have HNS := Lib.hid (show ∀ r ∈ R, r.n + 3 ≤ 140737488355328 by
    have h3 := HN3.out
    have h4 := HN4.out
    have h5 := HN5.out
    have h6 := HN6.out
    have h7 := HN7.out
    have h8 := HN8.out
    have h9 := HN9.out
    rw [hR]
    intro r hr
    simp only [List.mem_cons, List.not_mem_nil, or_false] at hr
    rcases hr with rfl | rfl | rfl | rfl | rfl | rfl | rfl | rfl <;> dsimp only <;> omega)
  obtain ⟨W, hW⟩ : ∃ W, W = w9.alloc (.cells #[.slice At (trimE x0) ct, .slice As ks cs, .slice Am km cm, .slice Au ku cu, .slice Av kv cv, .slice Ag kg cg, .slice Ai ki ci, .slice Ar kr cr] 22) := ⟨_, rfl⟩
  have hbw : Below w9.heap.size w9 W := by rw [hW]; exact (Below.refl _ _).alloc (Nat.le_refl _) _
  have HRW := Lib.hid (show Row W w9.heap.size 22 (R.map Res.v) by rw [hW, hR]; exact Row.new w9 [.slice At (trimE x0) ct, .slice As ks cs, .slice Am km cm, .slice Au ku cu, .slice Av kv cv, .slice Ag kg cg, .slice Ai ki ci, .slice Ar kr cr] 22)
  have HNE := Lib.hid (show ∀ r ∈ R, r.A ≠ some ⟨w9.heap.size, 0, none⟩ from fun r hr e => by have := HOW.out.lt hr e; omega)
  have HLEN := Lib.hid (show R.length = 8 by rw [hR]; rfl)
  have HOW2 := Lib.hid (HOW.out.go hbw)
  have HBW := Lib.hid (HB9.out.trans (hbw.mono HB9.out.size))
  have HW := Lib.hid hW
  clear hW hbw hR HO9 HO2 HOW HN3 HN4 HN5 HN6 HN7 HN8 HN9 HB3 HB4 HB5 HB6 HB7 HB8
  go_wp2_with fail
  rw [← HW.out]
  obtain ⟨gl, hgl⟩ : ∃ g, g = w9.heap.size := ⟨_, rfl⟩
  have HGL := Lib.hid hgl
  rw [← hgl] at HRW HNE ⊢
  clear hgl
  go_loopw [20] (fun v20 wr => ∃ i : Nat, i ≤ 8 ∧ v20 = .int .i64 (i : Int) ∧ Owned wr w2.heap.size (R.drop i) ∧ Row wr gl 22 (R.map Res.v) ∧ Below w2.heap.size w2 wr) (fun v20 _ => 8 - (intOf v20).toNat)
  case atStart => exact ⟨0, by omega, rfl, HOW2.out, HRW.out, HBW.out⟩
  case round =>
    obtain ⟨i, hi, rfl, ho, hrow, hB⟩ := hrel
    have HB := Lib.hid hB
    by_cases hlt : i < 8
    · obtain ⟨r, hd, hr, hv⟩ := drop_head (R := R) (i := i) (by rw [HLEN.out]; exact hlt)
      have hcell : wr.cell? ⟨gl, i, none⟩ = some (.slice r.A r.n r.cap) := by rw [hrow.cell, hv]
      rw [hd] at ho
      obtain ⟨k, hk⟩ : ∃ k : UInt8, (k.toNat : Int) = (40 * (i : Int) + 3) % 256 := ⟨UInt8.ofNat (40 * i + 3), by rw [UInt8.toNat_ofNat']; omega⟩
      have HS := Lib.hid (spoil_calls r.A r.n r.cap w2.heap.size r.xs k wr ho.head hB.size (HNS.out r hr))
      rw [hk] at HS
      have HO := Lib.hid ho
      have HROW := Lib.hid hrow
      have HRN := Lib.hid (show ∀ s ∈ r :: R.drop (i + 1), s.A ≠ some ⟨gl, 0, none⟩ from fun s hs => HNE.out s (by rw [← hd] at hs; exact List.mem_of_mem_drop hs))
      clear ho hrow hB hd hr hv hk
      go_wp2_with fail
      refine HS.out.mono ?_
      rintro e w' ⟨rfl, hg⟩
      have HO' := Lib.hid (HO.out.spoilt hg)
      have HROW' := Lib.hid (HO.out.row_spoilt hg HROW.out HRN.out)
      have HB' := Lib.hid (HO.out.below_spoilt hg HB.out HB.out.size)
      clear hg
      go_wp2_with fail
      go_roundw
      case rel => exact ⟨i + 1, by omega, by go_num, HO'.out, HROW'.out, HB'.out⟩
      case measure => simp [intOf]; omega
    · obtain rfl : i = 8 := by omega
      clear ho hrow hB
      have HK := Lib.hid (HR2.out.go HB.out)
      obtain ⟨E, hE⟩ : ∃ E, E = mulE x0 x1 := ⟨_, rfl⟩
      have HE := Lib.hid hE
      clear hE
      go_wp2_with fail
      refine (rmul2_calls a0 a1 n0 n1 c0 c1 x0 x1 wr (HK.out.rd 3 rfl) (HK.out.rd 2 rfl) l0 l1 (by omega) (by omega)).mono ?_
      rintro e w11 ⟨An, kn, cn, rfl, o, b⟩
      have HK11 := Lib.hid ((HK.out.go b).add o.rd)
      have ln := o.le
      have hkn : kn ≤ 512 := by have := mulP_len x0 x1; have := o.1; omega
      rw [← HE.out]
      clear o b
      go_wp2_with fail
      refine (Pmul_calls Ap Aq n0 n1 cp cq x0 x1 w11 (HK11.out.rd 2 rfl) (HK11.out.rd 1 rfl) lp lq (by omega) (by omega)).mono ?_
      rintro e w12 ⟨Aw, kw, cw, rfl, o, b⟩
      have HK12 := Lib.hid ((HK11.out.go b).add o.rd)
      have lw := o.le
      rw [← HE.out]
      clear o b
      go_wp2_with fail
      refine (anch2_calls _).mono ?_
      rintro e w13 ⟨rfl, b⟩
      have HK13 := Lib.hid (HK12.out.go b)
      clear b
      go_wp2_with fail
      refine (same2_calls Ap a0 n0 n0 cp c0 x0 w13 (HK13.out.rd 3 rfl) (HK13.out.rd 5 rfl) lp l0 (by omega)).mono ?_
      rintro e w14 ⟨q1, rfl, hw14⟩
      have HK14 := Lib.hid (HK13.out.drewN q1)
      rw [← hw14] at HK14
      clear hw14
      go_wp2_with fail
      refine (same2_calls Aq a1 n1 n1 cq c1 x1 _ (HK14.out.rd 2 rfl) (HK14.out.rd 4 rfl) lq l1 (by omega)).mono ?_
      rintro e w15 ⟨q2, rfl, hw15⟩
      have HK15 := Lib.hid (HK14.out.drewN q2)
      rw [← hw15] at HK15
      clear hw15
      go_wp2_with fail
      refine (same2_calls An Aw kn kw cn cw (mulP x0 x1) _ (HK15.out.rd 1 rfl) (HK15.out.rd 0 rfl) ln lw (by omega)).mono ?_
      rintro e w16 ⟨q3, rfl, hw16⟩
      have HK16 := Lib.hid (HK15.out.drewN q3)
      rw [← hw16] at HK16
      clear hw16
      have hEE : (E == E) = true := beq_self_eq_true _
      go_wp2_with fail
      refine (trim_calls Ap n0 cp x0 _ (HK16.out.rd 3 rfl) lp (by omega)).mono ?_
      rintro e w17 ⟨At2, ct2, rfl, o, b⟩
      have HK17 := Lib.hid ((HK16.out.go b).add o.rd)
      have lt2 := o.le
      clear o b
      go_wp2_with fail
      refine (rtrim_calls a0 n0 c0 x0 _ (HK17.out.rd 6 rfl) l0 (by omega)).mono ?_
      rintro e w18 ⟨At3, ct3, rfl, o, b⟩
      have HK18 := Lib.hid ((HK17.out.go b).add o.rd)
      have lt3 := o.le
      have htl : trimE x0 ≤ 140737488355328 := by have := trimE_le x0; have := HX0.out; omega
      clear o b
      go_wp2_with fail
      refine (same2_calls At2 At3 (trimE x0) (trimE x0) ct2 ct3 (trimL x0) _ (HK18.out.rd 1 rfl) (HK18.out.rd 0 rfl) lt2 lt3 htl).mono ?_
      rintro e w19 ⟨q4, rfl, hw19⟩
      have HK19 := Lib.hid (HK18.out.drewN q4)
      rw [← hw19] at HK19
      clear hw19
      go_wp2_with fail
      go_ret
      exact ⟨rfl, HK19.out.below⟩
end Go.Proofs.Ytaihgckcmcacfaa
namespace Go.Proofs.Ytaihgckcmcacfaa.polyFresh
open Go.ChangeShapes Go.WideShapes Go.ChangeAt Go.RowKit

set_option linter.unusedVariables false

set_option maxRecDepth 100000 in
theorem lifted (os : Os) (started : os.Started) (H : Type) (enc : TypeId × Value → H) :
    ReturnsInHanded {} Try.checked os 12 .any (Rows.polyFreshSpec.pre6 enc Try.prog Try.f12 Rows.polyFreshRow.domain false) (Rows.polyFreshSpec.post enc Try.prog Try.f12 false true false false) := by
  refine returnsInHanded_of_change_sized (C := Try.checked) own_knob started (by kernel_rfl) Try.func12
    (ChangeSpec.witness6 (enc := enc) (C := Try.checked) false ⟨#[], #[.slice none 0 0, .slice none 0 0], []⟩ 8 (by kernel_rfl) (by kernel_rfl) (by kernel_rfl) (by kernel_rfl)) ?_
  intro W base args ds gs before hval0 hW hcnd hsz0 _
  have hsz : (DataW.weightsEach Try.prog (Try.f12.params.toList ++ Rows.polyFreshSpec.plain.varTypes Try.prog) (ds ++ gs)).all (· ≤ reachBytes) = true := hsz0
  have hval : ∀ (j : Nat) t v, Try.f12.params[j]? = some t → args[j]? = some v → Value.okWide Try.prog W .any base t v := hval0
  have hW' := hW
  obtain ⟨p, q, hA0, hV, rfl, hfz, hnd⟩ := hW
  have hA : DataW.TrodAll enc Try.prog W 0 (fun _ => true) true Try.f12.params.toList args.toList ds p := hA0
  rw [Try.params12] at hA hval hsz
  obtain ⟨v0, vs0, d0, ds0, p0, q0, hargs, rfl, rfl, h0, r0⟩ := trodAll_cons hA
  obtain ⟨v1, vs1, d1, ds1, p1, q1, rfl, rfl, rfl, h1, r1⟩ := trodAll_cons r0
  obtain ⟨rfl, rfl, rfl⟩ := trodAll_nil r1
  obtain rfl : args = #[v0, v1] := by cases args; simp_all
  obtain ⟨rfl, rfl⟩ := trodVars_none hV
  have k0 := h0
  have lt0 : ∀ x ∈ p0, x.block < W.heap.size := by obtain ⟨m, hm⟩ := k0; exact DataW.trod_lt m _ _ _ hm
  have k1 := h1
  have lt1 : ∀ x ∈ p1, x.block < W.heap.size := by obtain ⟨m, hm⟩ := k1; exact DataW.trod_lt m _ _ _ hm
  obtain ⟨a0, n0, c0, rfl⟩ := okWide_slice Try.underlying22 (hval 0 22 v0 rfl rfl)
  obtain ⟨x0, rd0, lc0, cm0, dd0⟩ := open_bytes h0
  have cr0 : c0 ≤ 140737488351232 := by
    rcases dd0 with ⟨_, h⟩ | ⟨es, rs, rfl, hl⟩
    · omega
    · have h := sized_slice hsz (j := 0) rfl rfl Try.underlying22
      rw [bytes_of_u8] at h
      simp only [reachBytes] at h
      omega
  obtain ⟨a1, n1, c1, rfl⟩ := okWide_slice Try.underlying22 (hval 1 22 v1 rfl rfl)
  obtain ⟨x1, rd1, lc1, cm1, dd1⟩ := open_bytes h1
  have cr1 : c1 ≤ 140737488351232 := by
    rcases dd1 with ⟨_, h⟩ | ⟨es, rs, rfl, hl⟩
    · omega
    · have h := sized_slice hsz (j := 1) rfl rfl Try.underlying22
      rw [bytes_of_u8] at h
      simp only [reachBytes] at h
      omega
  clear hA0 hval0 hsz0
  refine (polyFresh_calls a0 n0 c0 x0 a1 n1 c1 x1 W rd0 lc0 cr0 rd1 lc1 cr1).mono fun e W' ⟨he, bel⟩ => ?_
  subst he
  exact ⟨_, rfl, _, _, _, [], _, [], hW', trodAll_mk1 (shut_bool Try.underlying4 _), (trodAll_cons_mk (Below.trod laid_out (by kernel_rfl) (of_decide_eq_true (by kernel_rfl)) k0 bel lt0) (trodAll_cons_mk (Below.trod laid_out (by kernel_rfl) (of_decide_eq_true (by kernel_rfl)) k1 bel lt1) trodAll_mk0)), rfl, bel.frame _, fun h => by cases h⟩

theorem over : Rows.polyFreshRow.holds Try.pinned (OpenSpec.ofChange Rows.polyFreshSpec) :=
  OpenClaim.holds_of_wide 12 Try.f12 rfl rfl rfl rfl rfl rfl rfl ⟨rfl, rfl, rfl, rfl, rfl⟩ rfl rfl rfl rfl rfl (by kernel_rfl) Try.func12 (by kernel_rfl)
    (of_decide_eq_true (by kernel_rfl)) (by unfold Func.isWrapper; first | (rw [if_pos (by decide +kernel)]; kernel_rfl) | (rw [if_neg (by decide +kernel)]; exact ⟨rfl, rfl⟩))
    (fun os started H enc _ => lifted os started H enc)

theorem proved : Rows.PolyFreshSaid := over
#print axioms proved
end Go.Proofs.Ytaihgckcmcacfaa.polyFresh
