/- The law PolyFactors, proved: for every input the call returns true and each argument reads as before. -/
import Derived.Deep.WholeRow
import Derived.Laws.NewBlocks
import Derived.WalkKit
import Derived.ProofKit
import Derived.OpenShut
import Derived.ChangeOld
import Derived.Below
import Derived.SizedLaws
import Derived.Test.YtaihgckcmcacfaaCPolyFactorsx1
import Derived.Test.YtaihgckcmcacfaaCPolyFactorsA1
import Derived.Test.YtaihgckcmcacfaaCPolyFactorsx2
import Derived.Test.YtaihgckcmcacfaaCPolyFactorsx3
import Derived.Test.YtaihgckcmcacfaaRows
namespace Go.Proofs.Ytaihgckcmcacfaa
open Go.RowKit Go.Proofs.YtaihgckcmcacfaaW.PrintWords Go.Proofs.Ytaihgckcmcacfaa.Pr
set_option linter.unusedVariables false
set_option linter.unusedSimpArgs false

theorem pu_rmul8 (a b : UInt8) : recoupref01_Mul.f (a.toNat : Int) (b.toNat : Int) = some ((Gf.mul a b).toNat : Int) := by
  unfold recoupref01_Mul.f
  rw [byteB_nat, byteB_nat, toU_nat, toU_nat]
  rfl
theorem pu_copy (xs : List UInt8) (h : xs.length < 140737488355328) : recoupref01_Copy.f (nI xs) = some (nI xs) := by
  unfold recoupref01_Copy.f
  rw [Option.bind_some, if_pos (by rw [nI_length]; simpa using h), List.nil_append]
theorem pu_same (l : List Int) : recoupref01_Same.f l l = some true := by
  unfold recoupref01_Same.f
  rw [beq_self_eq_true]
theorem nat_zero_iff (a : UInt8) : ((a.toNat : Int) = 0) ↔ a = 0 := by
  have := u8_eq_zero a
  rw [Bool.eq_iff_iff, beq_iff_eq, decide_eq_true_eq] at this
  exact this
/-- the document's Trim -/
theorem pu_rtrim (xs : List UInt8) (h : xs.length < 140737488355328) : Ev (fun k => recoupref02_Trim.f k (nI xs)) (nI (trimL xs)) := by
  have hl : ∀ n, n ≤ xs.length → trimE xs = trimN xs n → Ev (fun k => recoupref02_Trim.l0 k (nI xs) (n : Int)) (nI (trimL xs)) := by
    intro n
    induction n with
    | zero =>
      intro _ he
      refine Ev.step (f := fun _ => some (nI (trimL xs))) (fun k => ?_) (Ev.now _)
      have e : trimL xs = [] := by unfold trimL; rw [he]; rfl
      rw [recoupref02_Trim.l0, if_neg (by omega), if_pos (by omega), if_pos (by rw [nI_length]; omega), e]
      show (recoupref01_Copy.f (nI [])).bind _ = _
      rw [pu_copy [] (by simp)]
      rfl
    | succ n ih =>
      intro hn he
      have e0 : wrap64 (((n + 1 : Nat) : Int) - 1) = (n : Int) := by rw [w64 (by omega) (by omega)]; omega
      by_cases hz : xs.getD n 0 = 0
      · refine Ev.step (fun k => ?_) (ih (by omega) (by rw [he, trimN_step hz]))
        rw [recoupref02_Trim.l0, if_pos (by omega), e0, if_pos (by omega), if_pos (by rw [nI_length]; omega), rd_nI, if_pos ((nat_zero_iff _).2 hz)]
      · refine Ev.step (f := fun _ => some (nI (trimL xs))) (fun k => ?_) (Ev.now _)
        have e1 : (nI xs).take (n + 1) = nI (trimL xs) := by rw [nI_take]; unfold trimL; rw [he, trimN_stop hz]
        have e2 := trimE_le xs
        rw [recoupref02_Trim.l0, if_pos (by omega), e0, if_pos (by omega), if_pos (by rw [nI_length]; omega), rd_nI, if_neg (fun h2 => hz ((nat_zero_iff _).1 h2)), if_pos (by omega), if_pos (by rw [nI_length]; omega), Int.toNat_natCast, e1, pu_copy _ (by rw [trimL_length]; omega)]
        rfl
  unfold recoupref02_Trim.f
  rw [nI_length]
  exact hl xs.length (Nat.le_refl _) rfl
/-- the document's Eval -/
theorem pu_reval (xs : List UInt8) (x : UInt8) (h : xs.length ≤ 140737488355328) : Ev (fun k => recoupref02_Eval.f k (nI xs) (x.toNat : Int)) ((ev xs x).toNat : Int) := by
  have hl : ∀ m d, d + m = xs.length → Ev (fun k => recoupref02_Eval.l0 k (nI xs) (x.toNat : Int) ((evN (fun i => xs.getD i 0) x d).toNat : Int) ((pwN x d).toNat : Int) (d : Int)) ((ev xs x).toNat : Int) := by
    intro m
    induction m with
    | zero =>
      intro d hd
      obtain rfl : d = xs.length := by omega
      refine Ev.step (fun k => ?_) (Ev.now _)
      rw [recoupref02_Eval.l0, if_neg (by rw [nI_length]; omega)]
      rfl
    | succ m ih =>
      intro d hd
      refine Ev.step (fun k => ?_) (ih (d + 1) (by omega))
      rw [recoupref02_Eval.l0, if_pos (by rw [nI_length]; omega), if_pos (by omega), rd_nI, pu_rmul8, Option.bind_some, pu_rmul8, Option.bind_some, add_xor, w64_succ (by omega)]
      rfl
  unfold recoupref02_Eval.f
  exact hl xs.length 0 (by omega)
theorem g_trim (xs : List UInt8) (h : xs.length ≤ 140737488355328) : poly_Trim.f (nI xs) = some (nI (trimL xs)) := by
  unfold poly_Trim.f
  rw [inU_nI, nI_length, decide_eq_true h, nI_toU]
  rfl
theorem g_degree (xs : List UInt8) (h : xs.length ≤ 140737488355328) : poly_Degree.f (nI xs) = some ((trimE xs : Int) - 1) := by
  unfold poly_Degree.f
  rw [inU_nI, nI_length, decide_eq_true h, nI_toU]
  rfl
theorem g_eval (xs : List UInt8) (x : UInt8) (h : xs.length ≤ 140737488355328) : poly_Eval.f (nI xs) (x.toNat : Int) = some ((ev xs x).toNat : Int) := by
  unfold poly_Eval.f
  rw [inU_nI, byteB_nat, nI_length, decide_eq_true h, nI_toU, toU_nat]
  rfl
theorem values_pure (xs : List UInt8) (x : UInt8) (h : xs.length < 140737488355328) : ∃ k, recouplaw02_PolyValues.f k (nI xs) (x.toNat : Int) = some true := by
  refine Ev.rounds ?_
  unfold recouplaw02_PolyValues.f
  have hle := trimE_le xs
  simp only [g_trim xs (by omega), g_degree xs (by omega), Option.bind_some]
  refine Ev.bind (pu_rtrim xs h) ?_
  simp only [pu_same, Option.bind_some, if_true]
  refine Ev.bind (pu_rtrim xs h) ?_
  rw [nI_length, trimL_length, w64 (by omega) (by omega)]
  simp only [if_true]
  simp only [g_eval xs x (by omega), Option.bind_some]
  refine Ev.bind (pu_reval xs x (by omega)) ?_
  simp only [beq_self_eq_true]
  exact Ev.now _
theorem polyValues_calls (a0 : Option Addr) (n0 c0 : Nat) (x0 : List UInt8) (c : UInt8) (w : World) (r0 : Rd w w.heap.size a0 n0 (bVs x0)) (l0 : n0 ≤ c0) (m0 : c0 ≤ 140737488351232) :
    Calls Try.prog 3 #[.slice a0 n0 c0, .int .u8 (c.toNat : Int)] w fun e w' => e = .returned (.bool true) ∧ Below w.heap.size w w' := by
  obtain rfl : x0.length = n0 := by have := r0.len; rw [bVs_length] at this; exact this
  obtain ⟨k, h⟩ := values_pure x0 c (by omega)
  have hc := recouplaw02_PolyValues.calls k a0 c0 (nI x0) (c.toNat : Int) true w (C_of_rd r0 (by omega)) (by rw [nI_length]; exact l0) rfl h
  rw [nI_length] at hc
  exact hc
end Go.Proofs.Ytaihgckcmcacfaa
namespace Go.Proofs.Ytaihgckcmcacfaa
open Go.RowKit Go.Proofs.YtaihgckcmcacfaaW.PrintWords Go.Proofs.Ytaihgckcmcacfaa.Pr
set_option linter.unusedVariables false
set_option linter.unusedSimpArgs false

theorem pu_rlong (xs : List UInt8) (h : xs.length < 140737488355328) : Ev (fun k => recoupref02_long.f k (nI xs)) (longB xs) := by
  unfold recoupref02_long.f
  refine Ev.bind (pu_rtrim xs h) ?_
  rw [nI_length, trimL_length]
  exact Ev.now _
theorem pu_rat (xs : List UInt8) (i : Nat) : recoupref02_at.f (nI xs) (i : Int) = some ((xs.getD i 0).toNat : Int) := by
  unfold recoupref02_at.f
  rw [if_neg (by omega), nI_length]
  rcases Nat.lt_or_ge i xs.length with h | h
  · rw [if_neg (by omega), if_pos (by omega), if_pos (by omega), rd_nI]
  · rw [if_pos (by omega), getD_out xs i h]; rfl
theorem pu_rat_neg (xs : List UInt8) (z : Int) (h : z < 0) : recoupref02_at.f (nI xs) z = some 0 := by
  unfold recoupref02_at.f
  rw [if_pos h]
def sum512 (xs ys : List UInt8) (n : Nat) : List UInt8 := (List.range n).map fun i => Gf.add (xs.getD i 0) (ys.getD i 0)
theorem sum512_len (xs ys : List UInt8) (n : Nat) : (sum512 xs ys n).length = n := by simp [sum512]
theorem sum512_succ (xs ys : List UInt8) (n : Nat) : sum512 xs ys n ++ [Gf.add (xs.getD n 0) (ys.getD n 0)] = sum512 xs ys (n + 1) := by
  unfold sum512
  rw [List.range_succ, List.map_append]
  rfl
theorem sum512_trim (xs ys : List UInt8) (hx : trimE xs ≤ 512) (hy : trimE ys ≤ 512) : trimL (sum512 xs ys 512) = addL (trimL xs) (trimL ys) := by
  unfold addL
  refine trimL_congr fun i => ?_
  have e2 : (sumTo (max (trimL xs).length (trimL ys).length) (trimL xs) (trimL ys) (trimL ys).length).getD i 0 = Gf.add (xs.getD i 0) (ys.getD i 0) := by
    have := addL_getD (trimL xs) (trimL ys) i
    unfold addL at this
    rw [trimL_getD] at this
    rw [this, trimL_getD, trimL_getD]
  rw [e2]
  rcases Nat.lt_or_ge i 512 with h | h
  · unfold sum512
    rw [List.getD_eq_getElem?_getD, List.getElem?_map, List.getElem?_range h]
    rfl
  · rw [getD_out _ i (by rw [sum512_len]; exact h), trimE_high xs i (by omega), trimE_high ys i (by omega)]
    rfl
theorem pu_radd (xs ys : List UInt8) (hx : xs.length < 140737488355328) (hy : ys.length < 140737488355328) : Ev (fun k => recoupref02_Add.f k (nI xs) (nI ys)) (nI (addP xs ys), addE xs ys) := by
  have hl : ∀ d i, i + d = 512 → trimE xs ≤ 512 → trimE ys ≤ 512 → Ev (fun k => recoupref02_Add.l0 k (nI xs) (nI ys) (nI (sum512 xs ys i)) (i : Int)) (nI (addL (trimL xs) (trimL ys)), 0) := by
    intro d
    induction d with
    | zero =>
      intro i hi h1 h2
      obtain rfl : i = 512 := by omega
      refine Ev.step (f := fun k => (recoupref02_Trim.f k (nI (sum512 xs ys 512))).bind fun t => some (t, 0)) (fun k => ?_) ?_
      · rw [recoupref02_Add.l0, if_neg (by omega)]
      · refine Ev.bind (pu_rtrim _ (by rw [sum512_len]; omega)) ?_
        rw [sum512_trim xs ys h1 h2]
        exact Ev.now _
    | succ d ih =>
      intro i hi h1 h2
      refine Ev.step (fun k => ?_) (ih (i + 1) (by omega) h1 h2)
      rw [recoupref02_Add.l0, if_pos (by omega), pu_rat, Option.bind_some, pu_rat, Option.bind_some, if_pos (by rw [nI_length, sum512_len]; omega), add_xor, nI_snoc, sum512_succ, w64_succ (by omega)]
  unfold recoupref02_Add.f addP addE
  cases h1 : longB xs
  · have hL1 := pu_rlong xs hx
    rw [h1] at hL1
    refine Ev.bind hL1 ?_
    simp only [Bool.false_eq_true, if_false, Bool.false_or]
    refine Ev.bind (pu_rlong ys hy) ?_
    cases h2 : longB ys
    · have a1 := of_decide_eq_false h1
      have a2 := of_decide_eq_false h2
      simp only [Bool.false_eq_true, if_false]
      refine Ev.step (fun k => ?_) (hl 512 0 (by omega) (by omega) (by omega))
      rw [recoupref02_Add.j0, if_neg (by simp)]
      rfl
    · simp only [if_true]
      refine Ev.step (fun k => ?_) (Ev.now _)
      rw [recoupref02_Add.j0, if_pos rfl]
      rfl
  · have hL1 := pu_rlong xs hx
    rw [h1] at hL1
    refine Ev.bind hL1 ?_
    simp only [if_true, Bool.true_or]
    refine Ev.step (fun k => ?_) (Ev.now _)
    rw [recoupref02_Add.j0, if_pos rfl]
    rfl
def convL (xs ys : List UInt8) (n : Nat) : List UInt8 := (List.range n).map (convF xs ys)
theorem convL_len (xs ys : List UInt8) (n : Nat) : (convL xs ys n).length = n := by simp [convL]
theorem convL_succ (xs ys : List UInt8) (n : Nat) : convL xs ys n ++ [convF xs ys n] = convL xs ys (n + 1) := by
  unfold convL
  rw [List.range_succ, List.map_append]
  rfl
theorem convL_trim (xs ys : List UInt8) : trimL (convL (trimL xs) (trimL ys) (trimE xs + trimE ys)) = mulL xs ys := by
  rw [← mulL_trim xs ys]
  refine trimL_congr fun i => ?_
  have e : convF xs ys i = convF (trimL xs) (trimL ys) i := convF_congr (fun i => (trimL_getD xs i).symm) (fun i => (trimL_getD ys i).symm) i
  rw [mulL_getD, e]
  rcases Nat.lt_or_ge i (trimE xs + trimE ys) with h | h
  · unfold convL
    rw [List.getD_eq_getElem?_getD, List.getElem?_map, List.getElem?_range h]
    rfl
  · rw [getD_out _ i (by rw [convL_len]; exact h), convF_high _ _ i (by rw [trimL_length, trimL_length]; omega)]
/-- the inner sum of the document's product -/
def inF (xs ys : List UInt8) (i q : Nat) : UInt8 := sumF q (fun k => if k ≤ i then Gf.mul (xs.getD k 0) (ys.getD (i - k) 0) else 0)
theorem pu_rmul_core (P Q : List UInt8) (hP : P.length ≤ 1024) (hQ : Q.length ≤ 1024) : Ev (fun k => recoupref02_Mul.l0 k (nI P) (nI Q) [] 0) (nI (trimL (convL P Q (P.length + Q.length))), 0) := by
  have hin : ∀ i, i < P.length + Q.length → Ev (fun k => recoupref02_Mul.l0 k (nI P) (nI Q) (nI (convL P Q (i + 1))) ((i + 1 : Nat) : Int)) (nI (trimL (convL P Q (P.length + Q.length))), 0) →
      ∀ d q, q + d = P.length → Ev (fun k => recoupref02_Mul.l1 k (nI P) (nI Q) (nI (convL P Q i)) (i : Int) ((inF P Q i q).toNat : Int) (q : Int)) (nI (trimL (convL P Q (P.length + Q.length))), 0) := by
    intro i hi hr d
    induction d with
    | zero =>
      intro q hq
      obtain rfl : q = P.length := by omega
      refine Ev.step (fun k => ?_) hr
      have e : inF P Q i P.length = convF P Q i := convF_wide P Q i P.length (Nat.le_refl _)
      rw [recoupref02_Mul.l1, if_neg (by rw [nI_length]; omega), if_pos (by rw [nI_length, convL_len]; omega), nI_snoc, e, convL_succ, w64_succ (by omega)]
    | succ d ih =>
      intro q hq
      refine Ev.step (fun k => ?_) (ih (q + 1) (by omega))
      have e : inF P Q i (q + 1) = Gf.add (inF P Q i q) (if q ≤ i then Gf.mul (P.getD q 0) (Q.getD (i - q) 0) else 0) := rfl
      rw [recoupref02_Mul.l1, if_pos (by rw [nI_length]; omega), if_pos (by omega), w64 (by omega) (by omega), rd_nI, w64_succ (by omega), e]
      by_cases h : q ≤ i
      · rw [if_pos h, show (i : Int) - (q : Int) = ((i - q : Nat) : Int) by omega, pu_rat, Option.bind_some, pu_rmul8, Option.bind_some, add_xor]
      · rw [if_neg h, pu_rat_neg _ _ (by omega), Option.bind_some, show (0 : Int) = ((0 : UInt8).toNat : Int) from rfl, pu_rmul8, Option.bind_some, add_xor, Gf.mul_zero]
  have hout : ∀ d i, i + d = P.length + Q.length → Ev (fun k => recoupref02_Mul.l0 k (nI P) (nI Q) (nI (convL P Q i)) (i : Int)) (nI (trimL (convL P Q (P.length + Q.length))), 0) := by
    intro d
    induction d with
    | zero =>
      intro i hi
      obtain rfl : i = P.length + Q.length := by omega
      refine Ev.step (f := fun k => (recoupref02_Trim.f k (nI (convL P Q (P.length + Q.length)))).bind fun t => some (t, 0)) (fun k => ?_) ?_
      · rw [recoupref02_Mul.l0, nI_length, nI_length, w64_add (by omega), if_neg (by omega)]
      · refine Ev.bind (pu_rtrim _ (by rw [convL_len]; omega)) ?_
        exact Ev.now _
    | succ d ih =>
      intro i hi
      have h0 := hin i (by omega) (ih (i + 1) (by omega)) P.length 0 (by omega)
      refine Ev.step (fun k => ?_) h0
      rw [recoupref02_Mul.l0, nI_length, nI_length, w64_add (by omega), if_pos (by omega)]
      rfl
  exact hout (P.length + Q.length) 0 (by omega)
theorem pu_rmul (xs ys : List UInt8) (hx : xs.length < 140737488355328) (hy : ys.length < 140737488355328) : Ev (fun k => recoupref02_Mul.f k (nI xs) (nI ys)) (nI (mulP xs ys), mulE xs ys) := by
  have t1 := trimE_le xs
  have t2 := trimE_le ys
  have lx : longB (trimL xs) = longB xs := by unfold longB; rw [trimE_trimL]
  have ly : longB (trimL ys) = longB ys := by unfold longB; rw [trimE_trimL]
  unfold recoupref02_Mul.f mulP mulE
  refine Ev.bind (pu_rtrim xs hx) ?_
  refine Ev.bind (pu_rtrim ys hy) ?_
  have hL1 := pu_rlong (trimL xs) (by rw [trimL_length]; omega)
  have hL2 := pu_rlong (trimL ys) (by rw [trimL_length]; omega)
  rw [lx] at hL1
  rw [ly] at hL2
  have herr : Ev (fun k => recoupref02_Mul.j0 k (nI (trimL xs)) (nI (trimL ys)) true) (([] : List Int), (4 : Int)) := by
    refine Ev.step (f := fun _ => some (([] : List Int), (4 : Int))) (fun k => ?_) (Ev.now _)
    rw [recoupref02_Mul.j0, if_pos rfl]
  refine Ev.bind hL1 ?_
  cases h1 : longB xs
  · simp only [Bool.false_eq_true, if_false, Bool.false_or]
    refine Ev.bind hL2 ?_
    cases h2 : longB ys
    · have a1 := of_decide_eq_false h1
      have a2 := of_decide_eq_false h2
      simp only [Bool.false_eq_true, if_false, Bool.false_or]
      have hok : Ev (fun k => recoupref02_Mul.j0 k (nI (trimL xs)) (nI (trimL ys)) false) (nI (mulL xs ys), (0 : Int)) := by
        have h0 := pu_rmul_core (trimL xs) (trimL ys) (by rw [trimL_length]; omega) (by rw [trimL_length]; omega)
        rw [trimL_length, trimL_length, convL_trim] at h0
        refine Ev.step (fun k => ?_) h0
        rw [recoupref02_Mul.j0, if_neg (by simp)]
      rw [nI_length, nI_length, trimL_length, trimL_length]
      by_cases h3 : (trimE xs : Int) > 0
      · by_cases h4 : (trimE ys : Int) > 0
        · simp only [if_pos h3, if_pos h4]
          have hE : longB (mulL xs ys) = decide ((wrap64 ((wrap64 ((trimE xs : Int) + (trimE ys : Int))) - 1)) > 512) := by
            unfold longB
            rw [trimE_mul xs ys (by omega) (by omega), w64_add (by omega), w64 (by omega) (by omega)]
            congr 1
            rw [eq_iff_iff]
            omega
          rw [← hE]
          cases h5 : longB (mulL xs ys)
          · simp only [Bool.false_eq_true, if_false]; exact hok
          · simp only [if_true]; exact herr
        · simp only [if_pos h3, if_neg h4]
          rw [show longB (mulL xs ys) = false by unfold longB; rw [trimE_mul0 xs ys (by omega)]; rfl]
          simp only [Bool.false_eq_true, if_false]; exact hok
      · simp only [if_neg h3]
        rw [show longB (mulL xs ys) = false by unfold longB; rw [trimE_mul0 xs ys (by omega)]; rfl]
        simp only [Bool.false_eq_true, if_false]; exact hok
    · simp only [if_true, Bool.true_or]
      exact herr
  · simp only [if_true, Bool.true_or]
    exact herr
theorem g_add (xs ys : List UInt8) (hx : xs.length ≤ 140737488355328) (hy : ys.length ≤ 140737488355328) : poly_Add.f (nI xs) (nI ys) = some (nI (addP xs ys), addE xs ys) := by
  unfold poly_Add.f
  rw [inU_nI, inU_nI, nI_length, nI_length, decide_eq_true hx, decide_eq_true hy, nI_toU, nI_toU]
  rfl
theorem g_mul (xs ys : List UInt8) (hx : xs.length ≤ 140737488355328) (hy : ys.length ≤ 140737488355328) : poly_Mul.f (nI xs) (nI ys) = some (nI (mulP xs ys), mulE xs ys) := by
  unfold poly_Mul.f
  rw [inU_nI, inU_nI, nI_length, nI_length, decide_eq_true hx, decide_eq_true hy, nI_toU, nI_toU]
  rfl
theorem sums_pure (xs ys : List UInt8) (hx : xs.length < 140737488355328) (hy : ys.length < 140737488355328) : ∃ k, recouplaw02_PolySums.f k (nI xs) (nI ys) = some true := by
  refine Ev.rounds ?_
  unfold recouplaw02_PolySums.f
  simp only [g_add xs ys (by omega) (by omega), g_mul xs ys (by omega) (by omega), Option.bind_some]
  refine Ev.bind (pu_radd xs ys hx hy) ?_
  refine Ev.bind (pu_rmul xs ys hx hy) ?_
  simp only [pu_same, Option.bind_some, if_true]
  exact Ev.now _
theorem polySums_calls (a0 : Option Addr) (n0 c0 : Nat) (x0 : List UInt8) (a1 : Option Addr) (n1 c1 : Nat) (x1 : List UInt8) (w : World)
    (r0 : Rd w w.heap.size a0 n0 (bVs x0)) (l0 : n0 ≤ c0) (m0 : c0 ≤ 140737488351232) (r1 : Rd w w.heap.size a1 n1 (bVs x1)) (l1 : n1 ≤ c1) (m1 : c1 ≤ 140737488351232) :
    Calls Try.prog 4 #[.slice a0 n0 c0, .slice a1 n1 c1] w fun e w' => e = .returned (.bool true) ∧ Below w.heap.size w w' := by
  obtain rfl : x0.length = n0 := by have := r0.len; rw [bVs_length] at this; exact this
  obtain rfl : x1.length = n1 := by have := r1.len; rw [bVs_length] at this; exact this
  obtain ⟨k, h⟩ := sums_pure x0 x1 (by omega) (by omega)
  have hc := recouplaw02_PolySums.calls k a0 c0 (nI x0) a1 c1 (nI x1) true w (C_of_rd r0 (by omega)) (by rw [nI_length]; exact l0) (C_of_rd r1 (by omega)) (by rw [nI_length]; exact l1) rfl h
  rw [nI_length, nI_length] at hc
  exact hc
end Go.Proofs.Ytaihgckcmcacfaa
namespace Go.Proofs.Ytaihgckcmcacfaa
open Go.RowKit Go.Proofs.YtaihgckcmcacfaaW.PrintWords Go.Proofs.Ytaihgckcmcacfaa.Pr
set_option linter.unusedVariables false
set_option linter.unusedSimpArgs false

theorem anch2_mul : mulL [1, 1] [1, 1] = [1, 0, 1] := by decide
theorem anch2_long : longB [1, 1] = false := by decide
theorem anch2_long3 : longB [1, 0, 1] = false := by decide
theorem anch2_ev : ev [3, 0, 1] 2 = 7 := by decide
theorem anch2_true : recouplaw02_anchored.f = some true := by
  unfold recouplaw02_anchored.f
  rw [show ([1, 1] : List Int) = nI [1, 1] from rfl, g_mul [1, 1] [1, 1] (by decide) (by decide), Option.bind_some]
  unfold mulP mulE
  rw [anch2_long, anch2_mul, anch2_long3]
  simp only [Bool.or_self, Bool.false_eq_true, if_false, if_true]
  rw [show ([1, 0, 1] : List Int) = nI [1, 0, 1] from rfl, pu_same, Option.bind_some, if_pos rfl, show ([3, 0, 1] : List Int) = nI [3, 0, 1] from rfl,
    show (2 : Int) = ((2 : UInt8).toNat : Int) from rfl, g_eval [3, 0, 1] 2 (by decide), anch2_ev]
  rfl
theorem evals_pure (xs ys : List UInt8) (x : UInt8) (hx : xs.length < 140737488355328) (hy : ys.length < 140737488355328) : recouplaw02_PolyEvals.f (nI xs) (nI ys) (x.toNat : Int) = some true := by
  have t1 := trimE_le xs
  have t2 := trimE_le ys
  unfold recouplaw02_PolyEvals.f
  have ha := anch2_true
  generalize recouplaw02_anchored.f = q at ha ⊢
  subst ha
  rw [g_add xs ys (by omega) (by omega), Option.bind_some, g_mul xs ys (by omega) (by omega), Option.bind_some, g_eval xs x (by omega), Option.bind_some, g_eval ys x (by omega), Option.bind_some]
  simp only [Option.bind_some, if_true]
  rw [nI_length, nI_length, w64_add (by omega)]
  by_cases h : ((xs.length + ys.length : Nat) : Int) > 512
  · rw [if_pos h]
  · rw [if_neg h]
    have l1 : longB xs = false := decide_eq_false (by omega)
    have l2 : longB ys = false := decide_eq_false (by omega)
    have lm : (mulL xs ys).length ≤ 512 := Nat.le_trans (mulL_len xs ys) (by omega)
    have l3 : longB (mulL xs ys) = false := decide_eq_false (by have := trimE_le (mulL xs ys); omega)
    have la : (addL (trimL xs) (trimL ys)).length ≤ 512 := Nat.le_trans (addL_len _ _) (by rw [trimL_length, trimL_length]; omega)
    have e1 : ev (addL (trimL xs) (trimL ys)) x = Gf.add (ev xs x) (ev ys x) := by
      rw [← ev_trim xs, ← ev_trim ys]
      exact ev_add _ _ _ x (addL_getD _ _)
    have a1 : addE xs ys = 0 := by unfold addE; rw [l1, l2]; rfl
    have a2 : addP xs ys = addL (trimL xs) (trimL ys) := by unfold addP; rw [l1, l2]; rfl
    have a3 : mulE xs ys = 0 := by unfold mulE; rw [l1, l2, l3]; rfl
    have a4 : mulP xs ys = mulL xs ys := by unfold mulP; rw [l1, l2, l3]; rfl
    rw [a1, a2, a3, a4, if_pos rfl, if_pos rfl, g_eval _ x (by omega), Option.bind_some, e1, add_xor, if_pos rfl, g_eval _ x (by omega), Option.bind_some, pu_rmul8, Option.bind_some, ev_mul, beq_self_eq_true]
theorem polyEvals_calls (a0 : Option Addr) (n0 c0 : Nat) (x0 : List UInt8) (a1 : Option Addr) (n1 c1 : Nat) (x1 : List UInt8) (c : UInt8) (w : World)
    (r0 : Rd w w.heap.size a0 n0 (bVs x0)) (l0 : n0 ≤ c0) (m0 : c0 ≤ 140737488351232) (r1 : Rd w w.heap.size a1 n1 (bVs x1)) (l1 : n1 ≤ c1) (m1 : c1 ≤ 140737488351232) :
    Calls Try.prog 6 #[.slice a0 n0 c0, .slice a1 n1 c1, .int .u8 (c.toNat : Int)] w fun e w' => e = .returned (.bool true) ∧ Below w.heap.size w w' := by
  obtain rfl : x0.length = n0 := by have := r0.len; rw [bVs_length] at this; exact this
  obtain rfl : x1.length = n1 := by have := r1.len; rw [bVs_length] at this; exact this
  have h := evals_pure x0 x1 c (by omega) (by omega)
  have hc := recouplaw02_PolyEvals.calls a0 c0 (nI x0) a1 c1 (nI x1) (c.toNat : Int) true w (C_of_rd r0 (by omega)) (by rw [nI_length]; exact l0) (C_of_rd r1 (by omega)) (by rw [nI_length]; exact l1) rfl h
  rw [nI_length, nI_length] at hc
  exact hc
/-- the product of the first k linear factors -/
def prodTo (rs : List UInt8) : Nat → List UInt8
  | 0 => [1]
  | k + 1 => mulL (prodTo rs k) [rs.getD k 0, 1]
theorem trimE_lin (r : UInt8) : trimE [r, 1] = 2 := trimE_of (fun i hi => getD_out _ i hi) (fun _ => by show (1 : UInt8) ≠ 0; decide)
theorem prodTo_trimE (rs : List UInt8) : ∀ k, trimE (prodTo rs k) = k + 1
  | 0 => by show trimE [1] = 1; decide
  | k + 1 => by
    have ih := prodTo_trimE rs k
    rw [prodTo, trimE_mul _ _ (by omega) (by rw [trimE_lin]; omega), ih, trimE_lin]
    omega
theorem prodTo_len (rs : List UInt8) (k : Nat) : (prodTo rs k).length = k + 1 := by
  have h : trimL (prodTo rs k) = prodTo rs k := by
    cases k with
    | zero => show trimL [1] = [1]; decide
    | succ k => exact mulL_trim _ _
  rw [← h, trimL_length, prodTo_trimE]
theorem nI_lin (r : UInt8) : ([(r.toNat : Int), 1] : List Int) = nI [r, 1] := rfl
theorem g_pmul (xs ys : List UInt8) (hx : xs.length ≤ 140737488355328) (hy : ys.length ≤ 140737488355328) : poly_mul.f (nI xs) (nI ys) = some (nI (mulL xs ys)) := by
  unfold poly_mul.f
  rw [inU_nI, inU_nI, nI_length, nI_length, decide_eq_true hx, decide_eq_true hy, nI_toU, nI_toU]
  rfl
theorem g_roots (xs : List UInt8) (h : xs.length ≤ 140737488355328) : poly_Roots.f (nI xs) = some (nI (rootsL xs)) := by
  unfold poly_Roots.f
  rw [inU_nI, nI_length, decide_eq_true h, nI_toU]
  rfl
def fromE (rs : List UInt8) : Int := if (rs.length : Int) > 511 then 4 else 0
def fromP (rs : List UInt8) : List UInt8 := if (rs.length : Int) > 511 then [] else prodTo rs rs.length
theorem pu_from (rs : List UInt8) : Ev (fun k => poly_FromRoots.f k (nI rs)) (nI (fromP rs), fromE rs) := by
  have hl : rs.length ≤ 511 → ∀ d i, i + d = rs.length → Ev (fun k => poly_product.l0 k (nI (prodTo rs i)) (nI rs) (rs.length : Int) (i : Int)) (nI (prodTo rs rs.length)) := by
    intro hn d
    induction d with
    | zero =>
      intro i hi
      obtain rfl : i = rs.length := by omega
      refine Ev.step (fun k => ?_) (Ev.now _)
      rw [poly_product.l0, if_neg (by omega)]
    | succ d ih =>
      intro i hi
      refine Ev.step (fun k => ?_) (ih (i + 1) (by omega))
      rw [poly_product.l0, if_pos (by omega), if_pos (by omega), if_pos (by rw [nI_length]; omega), rd_nI, nI_lin, g_pmul _ _ (by rw [prodTo_len]; omega) (by simp), Option.bind_some, w64_succ (by omega)]
      rfl
  unfold poly_FromRoots.f fromP fromE
  rw [nI_length]
  by_cases h : (rs.length : Int) > 511
  · simp only [if_pos h]; exact Ev.now _
  · simp only [if_neg h]
    refine Ev.bind (a := nI (prodTo rs rs.length)) ?_ (Ev.now _)
    unfold poly_product.f
    rw [nI_length]
    exact hl (by omega) rs.length 0 (by omega)
theorem pu_rfrom (rs : List UInt8) : Ev (fun k => recoupref02_FromRoots.f k (nI rs)) (nI (fromP rs), fromE rs) := by
  have hl : rs.length ≤ 511 → ∀ d i, i + d = rs.length → Ev (fun k => recoupref02_FromRoots.l0 k (nI rs) (nI (prodTo rs i)) (i : Int)) (nI (prodTo rs rs.length), (0 : Int)) := by
    intro hn d
    induction d with
    | zero =>
      intro i hi
      obtain rfl : i = rs.length := by omega
      refine Ev.step (f := fun _ => some (nI (prodTo rs rs.length), (0 : Int))) (fun k => ?_) (Ev.now _)
      rw [recoupref02_FromRoots.l0, if_neg (by rw [nI_length]; omega)]
    | succ d ih =>
      intro i hi
      have hm := pu_rmul (prodTo rs i) [rs.getD i 0, 1] (by rw [prodTo_len]; omega) (by simp)
      have a4 : mulP (prodTo rs i) [rs.getD i 0, 1] = prodTo rs (i + 1) := by
        have q1 : longB (prodTo rs i) = false := decide_eq_false (by rw [prodTo_trimE]; omega)
        have q2 : longB [rs.getD i 0, 1] = false := decide_eq_false (by rw [trimE_lin]; omega)
        have q3 : longB (mulL (prodTo rs i) [rs.getD i 0, 1]) = false := decide_eq_false (by
          have := prodTo_trimE rs (i + 1)
          rw [prodTo] at this
          rw [this]; omega)
        unfold mulP
        rw [q1, q2, q3]
        rfl
      refine Ev.step (f := fun k => (recoupref02_Mul.f k (nI (prodTo rs i)) (nI [rs.getD i 0, 1])).bind fun bt => recoupref02_FromRoots.l0 k (nI rs) bt.1 ((i + 1 : Nat) : Int)) (fun k => ?_) ?_
      · rw [recoupref02_FromRoots.l0, if_pos (by rw [nI_length]; omega), if_pos (by omega), rd_nI, nI_lin, w64_succ (by omega)]
      · refine Ev.bind hm ?_
        show Ev (fun k => recoupref02_FromRoots.l0 k (nI rs) (nI (mulP (prodTo rs i) [rs.getD i 0, 1])) ((i + 1 : Nat) : Int)) _
        rw [a4]
        exact ih (i + 1) (by omega)
  unfold recoupref02_FromRoots.f fromP fromE
  rw [nI_length]
  by_cases h : (rs.length : Int) > 511
  · simp only [if_pos h]; exact Ev.now _
  · simp only [if_neg h]
    exact hl (by omega) rs.length 0 (by omega)
theorem pu_rroots (xs : List UInt8) (h : xs.length < 140737488355328) : Ev (fun k => recoupref02_Roots.f k (nI xs)) (nI (rootsL xs)) := by
  have hl : ∀ d i, i + d = 256 → Ev (fun k => recoupref02_Roots.l0 k (nI xs) (nI (rootsTo xs i)) (i : Int)) (nI (rootsTo xs 256)) := by
    intro d
    induction d with
    | zero =>
      intro i hi
      obtain rfl : i = 256 := by omega
      refine Ev.step (fun k => ?_) (Ev.now _)
      rw [recoupref02_Roots.l0, if_neg (by omega)]
    | succ d ih =>
      intro i hi
      have hb : ((i : Int)) % 256 = ((UInt8.ofNat i).toNat : Int) := by
        rw [UInt8.toNat_ofNat']
        omega
      have hle := rootsTo_len xs i
      have he := pu_reval xs (UInt8.ofNat i) (by omega)
      refine Ev.step (f := fun k => (recoupref02_Eval.f k (nI xs) ((UInt8.ofNat i).toNat : Int)).bind fun t => if t = 0 then recoupref02_Roots.l0 k (nI xs) (nI (rootsTo xs i) ++ [((UInt8.ofNat i).toNat : Int)]) ((i + 1 : Nat) : Int) else recoupref02_Roots.l0 k (nI xs) (nI (rootsTo xs i)) ((i + 1 : Nat) : Int)) (fun k => ?_) ?_
      · rw [recoupref02_Roots.l0, if_pos (by omega), hb, w64_succ (by omega), if_pos (by rw [nI_length]; omega)]
      · refine Ev.bind he ?_
        have hr := ih (i + 1) (by omega)
        rw [rootsTo] at hr
        by_cases h0 : ev xs (UInt8.ofNat i) = 0
        · rw [if_pos h0, ← nI_snoc] at hr
          simp only [if_pos ((nat_zero_iff _).2 h0)]
          exact hr
        · rw [if_neg h0] at hr
          simp only [if_neg (fun h2 => h0 ((nat_zero_iff _).1 h2))]
          exact hr
  unfold recoupref02_Roots.f rootsL
  refine Ev.bind (pu_rtrim xs h) ?_
  rw [nI_length, trimL_length]
  by_cases h0 : trimE xs = 0
  · simp only [if_pos h0, if_pos (show (trimE xs : Int) = 0 by omega)]; exact Ev.now _
  · simp only [if_neg h0, if_neg (show ¬ (trimE xs : Int) = 0 by omega)]
    exact hl 256 0 (by omega)
theorem roots_pure (rs : List UInt8) (h : rs.length < 140737488355328) : ∃ k, recouplaw02_PolyRoots.f k (nI rs) = some true := by
  refine Ev.rounds ?_
  unfold recouplaw02_PolyRoots.f
  refine Ev.bind (pu_from rs) ?_
  refine Ev.bind (pu_rfrom rs) ?_
  simp only [g_roots rs (by omega), Option.bind_some]
  refine Ev.bind (pu_rroots rs h) ?_
  simp only [pu_same, Option.bind_some, if_true]
  exact Ev.now _
theorem polyRoots_calls (a0 : Option Addr) (n0 c0 : Nat) (x0 : List UInt8) (w : World) (r0 : Rd w w.heap.size a0 n0 (bVs x0)) (l0 : n0 ≤ c0) (m0 : c0 ≤ 140737488351232) :
    Calls Try.prog 5 #[.slice a0 n0 c0] w fun e w' => e = .returned (.bool true) ∧ Below w.heap.size w w' := by
  obtain rfl : x0.length = n0 := by have := r0.len; rw [bVs_length] at this; exact this
  obtain ⟨k, h⟩ := roots_pure x0 (by omega)
  have hc := recouplaw02_PolyRoots.calls k a0 c0 (nI x0) true w (C_of_rd r0 (by omega)) (by rw [nI_length]; exact l0) rfl h
  rw [nI_length] at hc
  exact hc
end Go.Proofs.Ytaihgckcmcacfaa
namespace Go.Proofs.Ytaihgckcmcacfaa
open Go.RowKit Go.Proofs.YtaihgckcmcacfaaW.PrintWords Go.Proofs.Ytaihgckcmcacfaa.Pr
set_option linter.unusedVariables false
set_option linter.unusedSimpArgs false

theorem ev_lin (r x : UInt8) : ev [r, 1] x = Gf.add r x := by
  show Gf.add (Gf.add 0 (Gf.mul r 1)) (Gf.mul 1 (Gf.mul 1 x)) = _
  rw [Gf.zero_add, Gf.mul_one, Gf.one_mul, Gf.one_mul]
theorem ev_one (x : UInt8) : ev [1] x = 1 := by
  show Gf.add 0 (Gf.mul 1 1) = _
  rw [Gf.zero_add, Gf.mul_one]
theorem take_next (rs : List UInt8) (k : Nat) (h : k < rs.length) : rs.take (k + 1) = rs.take k ++ [rs.getD k 0] := by
  rw [List.take_succ_eq_append_getElem h]
  simp [List.getD, h]
theorem ev_prod (rs : List UInt8) (x : UInt8) : ∀ k, k ≤ rs.length → (ev (prodTo rs k) x = 0 ↔ x ∈ rs.take k)
  | 0, _ => by
    rw [prodTo, ev_one]
    exact ⟨fun h => absurd h (by decide), fun h => absurd h (by simp)⟩
  | k + 1, hk => by
    have ih := ev_prod rs x k (by omega)
    rw [prodTo, ev_mul, ev_lin, take_next rs k (by omega), List.mem_append, List.mem_singleton, ← ih]
    constructor
    · intro h
      by_cases h1 : ev (prodTo rs k) x = 0
      · exact .inl h1
      · by_cases h2 : Gf.add (rs.getD k 0) x = 0
        · exact .inr ((Gf.add_eq_zero _ _).1 h2).symm
        · exact absurd h (Gf.mul_ne h1 h2)
    · rintro (h | h)
      · rw [h, Gf.mul_comm, Gf.mul_zero]
      · rw [h, Gf.add_self, Gf.mul_zero]
/-- the elements below k that stand in the list -/
def inTo (rs : List UInt8) : Nat → List UInt8
  | 0 => []
  | k + 1 => if UInt8.ofNat k ∈ rs then inTo rs k ++ [UInt8.ofNat k] else inTo rs k
theorem inTo_len (rs : List UInt8) : ∀ k, (inTo rs k).length ≤ k
  | 0 => Nat.le_refl _
  | k + 1 => by
    have := inTo_len rs k
    unfold inTo
    split
    · rw [List.length_append, List.length_singleton]; omega
    · omega
theorem roots_in (rs : List UInt8) : ∀ k, rootsTo (prodTo rs rs.length) k = inTo rs k
  | 0 => rfl
  | k + 1 => by
    have h := ev_prod rs (UInt8.ofNat k) rs.length (Nat.le_refl _)
    rw [List.take_length] at h
    rw [rootsTo, inTo, roots_in rs k]
    by_cases h1 : UInt8.ofNat k ∈ rs
    · rw [if_pos h1, if_pos (h.2 h1)]
    · rw [if_neg h1, if_neg (fun h2 => h1 (h.1 h2))]
theorem rootsL_prod (rs : List UInt8) : rootsL (prodTo rs rs.length) = inTo rs 256 := by
  unfold rootsL
  rw [if_neg (by rw [prodTo_trimE]; omega), roots_in]
/-- the marks behind i elements -/
def mkL (rs : List UInt8) (i : Nat) : List Value := (List.range 256).map fun x => Value.bool (decide (UInt8.ofNat x ∈ rs.take i))
theorem mkL_len (rs : List UInt8) (i : Nat) : (mkL rs i).length = 256 := by simp [mkL]
theorem mkL_get (rs : List UInt8) (i x : Nat) (hx : x < 256) : (mkL rs i)[x]? = some (.bool (decide (UInt8.ofNat x ∈ rs.take i))) := by
  unfold mkL
  rw [List.getElem?_map, List.getElem?_range hx]
  rfl
theorem mkL_zero (rs : List UInt8) : mkL rs 0 = List.replicate 256 (.bool false) := by
  apply List.ext_getElem?
  intro x
  rcases Nat.lt_or_ge x 256 with h | h
  · rw [mkL_get _ _ _ h, List.getElem?_replicate, if_pos h]
    simp
  · rw [List.getElem?_eq_none (by rw [mkL_len]; exact h), List.getElem?_eq_none (by rw [List.length_replicate]; exact h)]
theorem mkL_set (rs : List UInt8) (i : Nat) (h : i < rs.length) : (mkL rs i).set (rs.getD i 0).toNat (.bool true) = mkL rs (i + 1) := by
  apply List.ext_getElem?
  intro x
  have hr := (rs.getD i 0).toNat_lt
  rcases Nat.lt_or_ge x 256 with hx | hx
  · rw [mkL_get _ _ _ hx, List.getElem?_set, mkL_len, take_next rs i h]
    by_cases e : (rs.getD i 0).toNat = x
    · have e2 : UInt8.ofNat x = rs.getD i 0 := by rw [← e]; simp
      rw [if_pos e, if_pos (by omega), e2]
      simp
    · have e2 : ¬ UInt8.ofNat x = rs.getD i 0 := fun h2 => e (by rw [← h2, UInt8.toNat_ofNat']; omega)
      rw [if_neg e, mkL_get _ _ _ hx]
      simp only [List.mem_append, List.mem_singleton, e2, or_false]
  · rw [List.getElem?_eq_none (by rw [List.length_set, mkL_len]; exact hx), List.getElem?_eq_none (by rw [mkL_len]; exact hx)]
theorem mkA_set (rs : List UInt8) (i : Nat) (h : i < rs.length) : (mkL rs i).toArray.setIfInBounds (rs.getD i 0).toNat (.bool true) = (mkL rs (i + 1)).toArray := by
  rw [← mkL_set rs i h]
  simp
theorem zero_marks : (Try.prog.info? 39).map (fun i => (i.zero, i.size)) = some (some (.agg (List.replicate 256 (.bool false)).toArray), 256) := by kernel_rfl
theorem inU_from (rs : List UInt8) : inU (nI (fromP rs)) = true := inU_nI _
theorem from_calls (A : Option Addr) (n cap : Nat) (rs : List UInt8) (w : World) (hr : Rd w w.heap.size A n (bVs rs)) (hcap : n ≤ cap) (hn : n ≤ 140737488355328) :
    Calls Try.prog 23 #[.slice A n cap] w fun e w' => ∃ A' k c', e = .returned (.tuple #[.slice A' k c', .int .i64 (fromE rs)]) ∧ OwnB w' w.heap.size A' k c' (fromP rs) ∧ k ≤ c' ∧ Below w.heap.size w w' := by
  obtain rfl : rs.length = n := by have := hr.len; rw [bVs_length] at this; exact this
  obtain ⟨k, h⟩ := (pu_from rs).rounds
  have hc := poly_FromRoots.calls k A cap (nI rs) _ _ w (C_of_rd hr (by omega)) (by rw [nI_length]; exact hcap) h
  rw [nI_length] at hc
  refine hc.mono ?_
  rintro e w' ⟨v, rfl, hv, hb⟩
  obtain ⟨A', c', rfl, hc', ho⟩ := own_of_R hv (inU_nI _)
  rw [nI_toU] at ho
  exact ⟨A', _, c', rfl, ho, hc', hb⟩
theorem same2_calls (A B : Option Addr) (n m c d : Nat) (xs : List UInt8) (w : World) (ha : Rd w w.heap.size A n (bVs xs)) (hb : Rd w w.heap.size B m (bVs xs)) (h1 : n ≤ c) (h2 : m ≤ d) (hn : n ≤ 140737488355328) :
    Calls Try.prog 13 #[.slice A n c, .slice B m d] w fun e w' => ∃ q, e = .returned (.bool true) ∧ w' = w.drewN q := by
  obtain rfl : xs.length = n := by have := ha.len; rw [bVs_length] at this; exact this
  obtain rfl : xs.length = m := by have := hb.len; rw [bVs_length] at this; exact this
  have hc := recoupref01_Same.calls A c (nI xs) B d (nI xs) true w (C_of_rd ha (by omega)) (by rw [nI_length]; exact h1) (C_of_rd hb (by omega)) (by rw [nI_length]; exact h2) (pu_same _)
  rw [nI_length] at hc
  refine hc.mono ?_
  rintro e w' ⟨rfl, q, rfl⟩
  exact ⟨q, rfl, rfl⟩
theorem anch2_calls (w : World) : Calls Try.prog 27 #[] w fun e w' => e = .returned (.bool true) ∧ Below w.heap.size w w' := recouplaw02_anchored.calls true w anch2_true
end Go.Proofs.Ytaihgckcmcacfaa
namespace Go.Proofs.Ytaihgckcmcacfaa
open Go.RowKit
set_option linter.unusedVariables false
set_option linter.unusedSimpArgs false

set_option maxRecDepth 100000 in
set_option maxHeartbeats 1600000 in
theorem polyFactors_calls (a0 : Option Addr) (n0 c0 : Nat) (x0 : List UInt8) (w : World) (r0 : Rd w w.heap.size a0 n0 (bVs x0)) (l0 : n0 ≤ c0) (m0 : c0 ≤ 140737488351232) :
    Calls Try.prog 7 #[.slice a0 n0 c0] w fun e w' => e = .returned (.bool true) ∧ Below w.heap.size w w' := by
  have hl : x0.length = n0 := by have := r0.len; rw [bVs_length] at this; exact this
  have HF := Lib.hid (from_calls a0 n0 c0 x0 w r0 l0 (by omega))
  by_cases h : 511 < n0
  · have c1 : decide (511 < (n0 : Int)) = true := decide_eq_true (by omega)
    rw [show fromE x0 = 4 by unfold fromE; rw [if_pos (by omega)]] at HF
    clear r0 hl l0 m0 h
    go_enter Try.func7, Try.ntmps7
    go_wp2_with fail
    refine HF.out.mono ?_
    rintro e w1 ⟨A1, k1, d1, rfl, ho, hk, hb⟩
    have HB := Lib.hid hb
    clear ho hk hb
    go_wp2_with fail
    refine (anch2_calls _).mono ?_
    rintro e w2 ⟨rfl, hb2⟩
    have HB2 := Lib.hid hb2
    clear hb2
    go_wp2_with fail
    go_ret
    exact ⟨rfl, HB.out.trans (HB2.out.mono HB.out.size)⟩
  · have c1 : decide (511 < (n0 : Int)) = false := decide_eq_false (by omega)
    have e1 : fromP x0 = prodTo x0 x0.length := by unfold fromP; rw [if_neg (by omega)]
    rw [show fromE x0 = 0 by unfold fromE; rw [if_neg (by omega)]] at HF
    have hd : ((trimE (fromP x0) : Int) - 1) = (n0 : Int) := by rw [e1, prodTo_trimE]; omega
    have hlenP : (fromP x0).length = n0 + 1 := by rw [e1, prodTo_len, hl]
    have hro : rootsL (fromP x0) = inTo x0 256 := by rw [e1, rootsL_prod]
    obtain ⟨P, hP⟩ : ∃ P, P = fromP x0 := ⟨_, rfl⟩
    rw [← hP] at HF hd hlenP hro
    have HDG := Lib.hid hd
    have HRO := Lib.hid hro
    have HPL := Lib.hid hlenP
    have HL := Lib.hid hl
    have HR := Lib.hid r0
    have hn5 : n0 ≤ 511 := by omega
    obtain ⟨hzv, hsz⟩ := zero_of_info zero_marks
    obtain ⟨Z, hZ⟩ : ∃ Z, Z = (List.replicate 256 (Value.bool false)).toArray := ⟨_, rfl⟩
    rw [← hZ] at hzv
    have HZ := Lib.hid (show Z = (mkL x0 0).toArray by rw [hZ, mkL_zero])
    clear hZ hsz hd hlenP hro e1 hP hl r0 l0 m0 h
    go_enter Try.func7, Try.ntmps7
    go_wp2_with fail
    refine HF.out.mono ?_
    rintro e w1 ⟨A1, k1, d1, rfl, ho, hk, hb⟩
    have HR1 := Lib.hid (HR.out.go hb)
    have HO := Lib.hid ho
    have HB := Lib.hid hb
    have HK := Lib.hid hk
    clear ho hb hk HF
    go_wp2_with fail
    go_loopw [6] (fun v6 wr => ∃ (i : Nat) (C : Array Value), i ≤ n0 ∧ v6 = .int .i64 (i : Int) ∧ wr = w1.alloc (Obj.cells C 39) ∧ Hid (C = (mkL x0 i).toArray)) (fun v6 _ => n0 - (intOf v6).toNat)
    case atStart => exact ⟨0, Z, by omega, rfl, rfl, HZ⟩
    case round =>
      obtain ⟨i, C, hi, rfl, rfl, HC⟩ := hrel
      clear HZ hzv
      by_cases hlt : i < n0
      · obtain ⟨g, o, rfl, hg, hcell⟩ := rd_get HR1.out hlt
        have hne : g ≠ w1.heap.size := by omega
        have hx := (x0.getD i 0).toNat_lt
        have HS := Lib.hid (mkA_set x0 i (by rw [HL.out]; exact hlt))
        generalize x0.getD i 0 = x at *
        obtain ⟨v, hv⟩ := some_of_lt (C := C) (i := x.toNat) (by rw [HC.out]; simp [mkL_len]; omega)
        go_wp2_with fail
        go_roundw
        case rel => exact ⟨i + 1, _, by omega, by go_num, rfl, Lib.hid (by rw [HC.out]; exact HS.out)⟩
        case measure => simp [intOf]; omega
      · obtain rfl : i = n0 := by omega
        obtain ⟨G, hG⟩ : ∃ G, G = w1.heap.size := ⟨_, rfl⟩
        obtain ⟨W2, hW2⟩ : ∃ W2, W2 = w1.alloc (Obj.cells C 39) := ⟨_, rfl⟩
        have HRow := Lib.hid (show Row W2 G 39 (mkL x0 i) by rw [hW2, HC.out, hG]; exact Row.new w1 (mkL x0 i) 39)
        have HB1 := Lib.hid (show Below w1.heap.size w1 W2 by rw [hW2]; exact (Below.refl _ _).alloc (Nat.le_refl _) _)
        have hg2 : G < W2.heap.size := by rw [hW2, hG]; simp
        have hw2 : w.heap.size ≤ W2.heap.size := Nat.le_trans HB.out.size HB1.out.size
        have hqq : ((i : Int) == (i : Int)) = true := beq_self_eq_true _
        rw [← hG, ← hW2]
        have HO2 := Lib.hid (HO.out.rd.go HB1.out)
        have HBX := Lib.hid (HB.out.trans (HB1.out.mono HB.out.size))
        clear HC HB1 hG hW2
        go_wp2_with fail
        go_loopw [7, 8] (fun v7 v8 wr => ∃ k : Nat, k ≤ 256 ∧ v8 = .int .i64 (k : Int) ∧ OwnV wr W2.heap.size v7 (inTo x0 k) ∧ Below W2.heap.size W2 wr) (fun _ v8 _ => 256 - (intOf v8).toNat)
        case atStart => exact ⟨0, by omega, rfl, OwnV.nil _ _, Below.refl _ _⟩
        case round =>
          obtain ⟨k, hk, rfl, ho, hB⟩ := hrel
          by_cases hlt2 : k < 256
          · obtain ⟨x, rfl⟩ : ∃ x : UInt8, k = x.toNat := ⟨UInt8.ofNat k, by rw [UInt8.toNat_ofNat']; omega⟩
            have hx : UInt8.ofNat x.toNat = x := by simp
            have hcell : wr.cell? ⟨G, x.toNat, none⟩ = some (.bool (decide (x ∈ x0))) := by
              rw [(HRow.out.below hB hg2).cell, mkL_get _ _ _ hlt2, hx, ← HL.out, List.take_length]
            have hlen := inTo_len x0 x.toNat
            have hbs := Lib.hid hB.size
            have HOV := Lib.hid ho
            have HBW := Lib.hid hB
            by_cases hm : x ∈ x0
            · have HS := Lib.hid (show inTo x0 (x.toNat + 1) = inTo x0 x.toNat ++ [x] by rw [inTo, hx, if_pos hm])
              rw [decide_eq_true hm] at hcell
              clear hm hx ho hB
              generalize inTo x0 x.toNat = l at *
              go_wp2_with (at_builtin; refine wpList_append_byte (.tmp 40) (.tmp 43) rfl rfl W2.heap.size _ l x rfl HOV.out rfl (by omega) hbs.out ?_; intro v1 w3 ho1 hb1 hg1)
              go_roundw
              case rel => exact ⟨x.toNat + 1, by omega, by go_num, by rw [HS.out]; exact ho1, HBW.out.trans hb1⟩
              case measure => simp [intOf]; omega
            · have HS := Lib.hid (show inTo x0 (x.toNat + 1) = inTo x0 x.toNat by rw [inTo, hx, if_neg hm])
              rw [decide_eq_false hm] at hcell
              clear hm hx ho hB
              go_wp2_with fail
              go_roundw
              case rel => exact ⟨x.toNat + 1, by omega, by go_num, by rw [HS.out]; exact HOV.out, HBW.out⟩
              case measure => simp [intOf]; omega
          · obtain rfl : k = 256 := by omega
            obtain ⟨A7, d7, rfl, ho7⟩ := ho.slice
            have HB3 := Lib.hid hB
            have HO7 := Lib.hid ho7
            have HP3 := Lib.hid (HO2.out.go hB)
            clear hB ho ho7
            go_wp2_with fail
            refine (anch2_calls _).mono ?_
            rintro e w4 ⟨rfl, hb4⟩
            have HB4 := Lib.hid hb4
            have HP4 := Lib.hid (HP3.out.go hb4)
            obtain rfl : k1 = i + 1 := by rw [← HPL.out, HO.out.len]
            have HD4 := Lib.hid (degree_calls A1 (i + 1) d1 P w4 HP4.out HK.out (by omega))
            rw [HDG.out] at HD4
            clear hb4
            go_wp2_with fail
            refine HD4.out.mono ?_
            rintro e w5 ⟨rfl, rfl⟩
            have HR4 := Lib.hid (roots_calls A1 (i + 1) d1 P w4 HP4.out HK.out (by omega))
            go_wp2_with fail
            refine HR4.out.mono ?_
            rintro e w6 ⟨v6, rfl, ho6, hb6⟩
            rw [HRO.out] at ho6
            obtain ⟨A6, d6, rfl, hob6⟩ := ho6.slice
            have HB6 := Lib.hid hb6
            have HO6 := Lib.hid hob6
            have hlen := inTo_len x0 256
            have HS6 := Lib.hid (same2_calls A6 A7 _ _ d6 d7 (inTo x0 256) w6 hob6.rd ((HO7.out.rd.go HB4.out).go hb6) hob6.le HO7.out.le (by omega))
            clear hb6 ho6 hob6
            go_wp2_with fail
            refine HS6.out.mono ?_
            rintro e w7 ⟨q, rfl, rfl⟩
            go_wp2_with fail
            go_ret
            have b3 := HBX.out.trans (HB3.out.mono HBX.out.size)
            have b4 := b3.trans (HB4.out.mono b3.size)
            exact ⟨rfl, below_drewN (b4.trans (HB6.out.mono b4.size)) q⟩
end Go.Proofs.Ytaihgckcmcacfaa
namespace Go.Proofs.Ytaihgckcmcacfaa.polyFactors
open Go.ChangeShapes Go.WideShapes Go.ChangeAt Go.RowKit

set_option linter.unusedVariables false

set_option maxRecDepth 100000 in
theorem lifted (os : Os) (started : os.Started) (H : Type) (enc : TypeId × Value → H) :
    ReturnsInHanded {} Try.checked os 7 .any (Rows.polyFactorsSpec.pre6 enc Try.prog Try.f7 Rows.polyFactorsRow.domain false) (Rows.polyFactorsSpec.post enc Try.prog Try.f7 false true false false) := by
  refine returnsInHanded_of_change_sized (C := Try.checked) own_knob started (by kernel_rfl) Try.func7
    (ChangeSpec.witness6 (enc := enc) (C := Try.checked) false ⟨#[], #[.slice none 0 0], []⟩ 8 (by kernel_rfl) (by kernel_rfl) (by kernel_rfl) (by kernel_rfl)) ?_
  intro W base args ds gs before hval0 hW hcnd hsz0 _
  have hsz : (DataW.weightsEach Try.prog (Try.f7.params.toList ++ Rows.polyFactorsSpec.plain.varTypes Try.prog) (ds ++ gs)).all (· ≤ reachBytes) = true := hsz0
  have hval : ∀ (j : Nat) t v, Try.f7.params[j]? = some t → args[j]? = some v → Value.okWide Try.prog W .any base t v := hval0
  have hW' := hW
  obtain ⟨p, q, hA0, hV, rfl, hfz, hnd⟩ := hW
  have hA : DataW.TrodAll enc Try.prog W 0 (fun _ => true) true Try.f7.params.toList args.toList ds p := hA0
  rw [Try.params7] at hA hval hsz
  obtain ⟨v0, vs0, d0, ds0, p0, q0, hargs, rfl, rfl, h0, r0⟩ := trodAll_cons hA
  obtain ⟨rfl, rfl, rfl⟩ := trodAll_nil r0
  obtain rfl : args = #[v0] := by cases args; simp_all
  obtain ⟨rfl, rfl⟩ := trodVars_none hV
  have k0 := h0
  have lt0 : ∀ x ∈ p0, x.block < W.heap.size := by obtain ⟨m, hm⟩ := k0; exact DataW.trod_lt m _ _ _ hm
  obtain ⟨a0, n0, c0, rfl⟩ := okWide_slice Try.underlying22 (hval 0 22 v0 rfl rfl)
  obtain ⟨x0, rd0, lc0, cm0, dd0⟩ := open_bytes h0
  have cr0 : c0 ≤ 140737488351232 := by
    rcases dd0 with ⟨_, h⟩ | ⟨es, rs, rfl, hl⟩
    · omega
    · have h := sized_slice hsz (j := 0) rfl rfl Try.underlying22
      rw [bytes_of_u8] at h
      simp only [reachBytes] at h
      omega
  clear hA0 hval0 hsz0
  refine (polyFactors_calls a0 n0 c0 x0 W rd0 lc0 cr0).mono fun e W' ⟨he, bel⟩ => ?_
  subst he
  exact ⟨_, rfl, _, _, _, [], _, [], hW', trodAll_mk1 (shut_bool Try.underlying4 _), (trodAll_cons_mk (Below.trod laid_out (by kernel_rfl) (of_decide_eq_true (by kernel_rfl)) k0 bel lt0) trodAll_mk0), rfl, bel.frame _, fun h => by cases h⟩

theorem over : Rows.polyFactorsRow.holds Try.pinned (OpenSpec.ofChange Rows.polyFactorsSpec) :=
  OpenClaim.holds_of_wide 7 Try.f7 rfl rfl rfl rfl rfl rfl rfl ⟨rfl, rfl, rfl, rfl, rfl⟩ rfl rfl rfl rfl rfl (by kernel_rfl) Try.func7 (by kernel_rfl)
    (of_decide_eq_true (by kernel_rfl)) (by unfold Func.isWrapper; first | (rw [if_pos (by decide +kernel)]; kernel_rfl) | (rw [if_neg (by decide +kernel)]; exact ⟨rfl, rfl⟩))
    (fun os started H enc _ => lifted os started H enc)

theorem proved : Rows.PolyFactorsSaid := over
#print axioms proved
end Go.Proofs.Ytaihgckcmcacfaa.polyFactors
