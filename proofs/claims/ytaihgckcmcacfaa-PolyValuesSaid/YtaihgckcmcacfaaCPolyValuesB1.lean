/- The law PolyValues, proved: for every input the call returns true and each argument reads as before. -/
import Derived.WalkKit
import Derived.ProofKit
import Derived.OpenShut
import Derived.ChangeOld
import Derived.Below
import Derived.SizedLaws
import Derived.Test.YtaihgckcmcacfaaCPolyValuesx1
import Derived.Test.YtaihgckcmcacfaaCPolyValuesA1
import Derived.Test.YtaihgckcmcacfaaRows
namespace Go.Proofs.Ytaihgckcmcacfaa
open Go.RowKit Go.Proofs.YtaihgckcmcacfaaW.PrintWords Go.Proofs.Ytaihgckcmcacfaa.Pr
set_option linter.unusedVariables false
set_option linter.unusedSimpArgs false

theorem pu_rmul8 (a b : UInt8) : recoupref01_Mul.f (a.toNat : Int) (b.toNat : Int) = some ((Gf.mul a b).toNat : Int) := by
  unfold recoupref01_Mul.f
  rw [byteB_nat, byteB_nat, toU_nat, toU_nat]
  rfl
theorem pu_fmul8 (a b : UInt8) : field_Mul.f (a.toNat : Int) (b.toNat : Int) = some ((Gf.mul a b).toNat : Int) := by
  unfold field_Mul.f
  rw [byteB_nat, byteB_nat, toU_nat, toU_nat]
  rfl
theorem pu_copy (xs : List UInt8) (h : xs.length < 140737488355328) : recoupref01_Copy.f (nI xs) = some (nI xs) := by
  unfold recoupref01_Copy.f
  rw [Option.bind_some, if_pos (by rw [nI_length]; simpa using h), List.nil_append]
theorem pu_same (l : List Int) : recoupref01_Same.f l l = some true := by
  unfold recoupref01_Same.f
  rw [beq_self_eq_true]
theorem nat_zero_iff (a : UInt8) : ((a.toNat : Int) = 0) ↔ a = 0 := by
  have := u8_eq_zero a
  rw [Bool.eq_iff_iff, beq_iff_eq, decide_eq_true_eq] at this
  exact this
/-- the document's Trim -/
theorem pu_rtrim (xs : List UInt8) (h : xs.length < 140737488355328) : Ev (fun k => recoupref02_Trim.f k (nI xs)) (nI (trimL xs)) := by
  have hl : ∀ n, n ≤ xs.length → trimE xs = trimN xs n → Ev (fun k => recoupref02_Trim.l0 k (nI xs) (n : Int)) (nI (trimL xs)) := by
    intro n
    induction n with
    | zero =>
      intro _ he
      refine Ev.step (f := fun _ => some (nI (trimL xs))) (fun k => ?_) (Ev.now _)
      have e : trimL xs = [] := by unfold trimL; rw [he]; rfl
      rw [recoupref02_Trim.l0, if_neg (by omega), if_pos (by omega), if_pos (by rw [nI_length]; omega), e]
      show (recoupref01_Copy.f (nI [])).bind _ = _
      rw [pu_copy [] (by simp)]
      rfl
    | succ n ih =>
      intro hn he
      have e0 : wrap64 (((n + 1 : Nat) : Int) - 1) = (n : Int) := by rw [w64 (by omega) (by omega)]; omega
      by_cases hz : xs.getD n 0 = 0
      · refine Ev.step (fun k => ?_) (ih (by omega) (by rw [he, trimN_step hz]))
        rw [recoupref02_Trim.l0, if_pos (by omega), e0, if_pos (by omega), if_pos (by rw [nI_length]; omega), rd_nI, if_pos ((nat_zero_iff _).2 hz)]
      · refine Ev.step (f := fun _ => some (nI (trimL xs))) (fun k => ?_) (Ev.now _)
        have e1 : (nI xs).take (n + 1) = nI (trimL xs) := by rw [nI_take]; unfold trimL; rw [he, trimN_stop hz]
        have e2 := trimE_le xs
        rw [recoupref02_Trim.l0, if_pos (by omega), e0, if_pos (by omega), if_pos (by rw [nI_length]; omega), rd_nI, if_neg (fun h2 => hz ((nat_zero_iff _).1 h2)), if_pos (by omega), if_pos (by rw [nI_length]; omega), Int.toNat_natCast, e1, pu_copy _ (by rw [trimL_length]; omega)]
        rfl
  unfold recoupref02_Trim.f
  rw [nI_length]
  exact hl xs.length (Nat.le_refl _) rfl
/-- Eval -/
theorem pu_eval (xs : List UInt8) (x : UInt8) (h : xs.length ≤ 140737488355328) : Ev (fun k => poly_Eval.f k (nI xs) (x.toNat : Int)) ((ev xs x).toNat : Int) := by
  have hl : ∀ m d, d + m = xs.length → Ev (fun k => poly_Eval.l0 k (nI xs) (x.toNat : Int) ((hor xs x d).toNat : Int) ((m : Int) - 1)) ((ev xs x).toNat : Int) := by
    intro m
    induction m with
    | zero =>
      intro d hd
      obtain rfl : d = xs.length := by omega
      refine Ev.step (fun k => ?_) (Ev.now _)
      rw [poly_Eval.l0, if_neg (by omega), hor_ev]
    | succ m ih =>
      intro d hd
      refine Ev.step (fun k => ?_) (ih (d + 1) (by omega))
      have e0 : (((m + 1 : Nat) : Int) - 1) = (m : Int) := by omega
      rw [poly_Eval.l0, e0, if_pos (by omega), pu_fmul8, Option.bind_some, if_pos (by omega), if_pos (by rw [nI_length]; omega), rd_nI, add_xor, w64 (by omega) (by omega), hor, show xs.length - (d + 1) = m by omega]
  unfold poly_Eval.f
  rw [nI_length, w64 (by omega) (by omega)]
  exact hl xs.length 0 (by omega)
/-- the document's Eval -/
theorem pu_reval (xs : List UInt8) (x : UInt8) (h : xs.length ≤ 140737488355328) : Ev (fun k => recoupref02_Eval.f k (nI xs) (x.toNat : Int)) ((ev xs x).toNat : Int) := by
  have hl : ∀ m d, d + m = xs.length → Ev (fun k => recoupref02_Eval.l0 k (nI xs) (x.toNat : Int) ((evN (fun i => xs.getD i 0) x d).toNat : Int) ((pwN x d).toNat : Int) (d : Int)) ((ev xs x).toNat : Int) := by
    intro m
    induction m with
    | zero =>
      intro d hd
      obtain rfl : d = xs.length := by omega
      refine Ev.step (fun k => ?_) (Ev.now _)
      rw [recoupref02_Eval.l0, if_neg (by rw [nI_length]; omega)]
      rfl
    | succ m ih =>
      intro d hd
      refine Ev.step (fun k => ?_) (ih (d + 1) (by omega))
      rw [recoupref02_Eval.l0, if_pos (by rw [nI_length]; omega), if_pos (by omega), rd_nI, pu_rmul8, Option.bind_some, pu_rmul8, Option.bind_some, add_xor, w64_succ (by omega)]
      rfl
  unfold recoupref02_Eval.f
  exact hl xs.length 0 (by omega)
theorem g_trim (xs : List UInt8) (h : xs.length ≤ 140737488355328) : poly_Trim.f (nI xs) = some (nI (trimL xs)) := by
  unfold poly_Trim.f
  rw [inU_nI, nI_length, decide_eq_true h, nI_toU]
  rfl
theorem g_degree (xs : List UInt8) (h : xs.length ≤ 140737488355328) : poly_Degree.f (nI xs) = some ((trimE xs : Int) - 1) := by
  unfold poly_Degree.f
  rw [inU_nI, nI_length, decide_eq_true h, nI_toU]
  rfl
theorem values_pure (xs : List UInt8) (x : UInt8) (h : xs.length < 140737488355328) : ∃ k, recouplaw02_PolyValues.f k (nI xs) (x.toNat : Int) = some true := by
  refine Ev.rounds ?_
  unfold recouplaw02_PolyValues.f
  have hle := trimE_le xs
  simp only [g_trim xs (by omega), g_degree xs (by omega), Option.bind_some]
  refine Ev.bind (pu_rtrim xs h) ?_
  simp only [pu_same, Option.bind_some, if_true]
  refine Ev.bind (pu_rtrim xs h) ?_
  rw [nI_length, trimL_length, w64 (by omega) (by omega)]
  simp only [if_true]
  refine Ev.bind (pu_eval xs x (by omega)) ?_
  refine Ev.bind (pu_reval xs x (by omega)) ?_
  simp only [beq_self_eq_true]
  exact Ev.now _
theorem polyValues_calls (a0 : Option Addr) (n0 c0 : Nat) (x0 : List UInt8) (c : UInt8) (w : World) (r0 : Rd w w.heap.size a0 n0 (bVs x0)) (l0 : n0 ≤ c0) (m0 : c0 ≤ 140737488351232) :
    Calls Try.prog 3 #[.slice a0 n0 c0, .int .u8 (c.toNat : Int)] w fun e w' => e = .returned (.bool true) ∧ Below w.heap.size w w' := by
  obtain rfl : x0.length = n0 := by have := r0.len; rw [bVs_length] at this; exact this
  obtain ⟨k, h⟩ := values_pure x0 c (by omega)
  have hc := recouplaw02_PolyValues.calls k a0 c0 (nI x0) (c.toNat : Int) true w (C_of_rd r0 (by omega)) (by rw [nI_length]; exact l0) rfl h
  rw [nI_length] at hc
  exact hc
end Go.Proofs.Ytaihgckcmcacfaa
namespace Go.Proofs.Ytaihgckcmcacfaa.polyValues
open Go.ChangeShapes Go.WideShapes Go.ChangeAt Go.RowKit

set_option linter.unusedVariables false

set_option maxRecDepth 100000 in
theorem lifted (os : Os) (started : os.Started) (H : Type) (enc : TypeId × Value → H) :
    ReturnsInHanded {} Try.checked os 3 .any (Rows.polyValuesSpec.pre6 enc Try.prog Try.f3 Rows.polyValuesRow.domain false) (Rows.polyValuesSpec.post enc Try.prog Try.f3 false true false false) := by
  refine returnsInHanded_of_change_sized (C := Try.checked) own_knob started (by kernel_rfl) Try.func3
    (ChangeSpec.witness6 (enc := enc) (C := Try.checked) false ⟨#[], #[.slice none 0 0, .int .u8 0], []⟩ 8 (by kernel_rfl) (by kernel_rfl) (by kernel_rfl) (by kernel_rfl)) ?_
  intro W base args ds gs before hval0 hW hcnd hsz0 _
  have hsz : (DataW.weightsEach Try.prog (Try.f3.params.toList ++ Rows.polyValuesSpec.plain.varTypes Try.prog) (ds ++ gs)).all (· ≤ reachBytes) = true := hsz0
  have hval : ∀ (j : Nat) t v, Try.f3.params[j]? = some t → args[j]? = some v → Value.okWide Try.prog W .any base t v := hval0
  have hW' := hW
  obtain ⟨p, q, hA0, hV, rfl, hfz, hnd⟩ := hW
  have hA : DataW.TrodAll enc Try.prog W 0 (fun _ => true) true Try.f3.params.toList args.toList ds p := hA0
  rw [Try.params3] at hA hval hsz
  obtain ⟨v0, vs0, d0, ds0, p0, q0, hargs, rfl, rfl, h0, r0⟩ := trodAll_cons hA
  obtain ⟨v1, vs1, d1, ds1, p1, q1, rfl, rfl, rfl, h1, r1⟩ := trodAll_cons r0
  obtain ⟨rfl, rfl, rfl⟩ := trodAll_nil r1
  obtain rfl : args = #[v0, v1] := by cases args; simp_all
  obtain ⟨rfl, rfl⟩ := trodVars_none hV
  have k0 := h0
  have lt0 : ∀ x ∈ p0, x.block < W.heap.size := by obtain ⟨m, hm⟩ := k0; exact DataW.trod_lt m _ _ _ hm
  have k1 := h1
  have lt1 : ∀ x ∈ p1, x.block < W.heap.size := by obtain ⟨m, hm⟩ := k1; exact DataW.trod_lt m _ _ _ hm
  obtain ⟨a0, n0, c0, rfl⟩ := okWide_slice Try.underlying22 (hval 0 22 v0 rfl rfl)
  obtain ⟨x0, rd0, lc0, cm0, dd0⟩ := open_bytes h0
  have cr0 : c0 ≤ 140737488351232 := by
    rcases dd0 with ⟨_, h⟩ | ⟨es, rs, rfl, hl⟩
    · omega
    · have h := sized_slice hsz (j := 0) rfl rfl Try.underlying22
      rw [bytes_of_u8] at h
      simp only [reachBytes] at h
      omega
  obtain ⟨a1, rfl, rfl, rfl, w1⟩ := open_int Try.underlying5 (hval 1 5 v1 rfl rfl) h1
  obtain ⟨x1, rfl⟩ := u8_of w1
  clear hA0 hval0 hsz0
  refine (polyValues_calls a0 n0 c0 x0 x1 W rd0 lc0 cr0).mono fun e W' ⟨he, bel⟩ => ?_
  subst he
  exact ⟨_, rfl, _, _, _, [], _, [], hW', trodAll_mk1 (shut_bool Try.underlying4 _), (trodAll_cons_mk (Below.trod laid_out (by kernel_rfl) (of_decide_eq_true (by kernel_rfl)) k0 bel lt0) (trodAll_cons_mk (shut_int Try.underlying5 w1) trodAll_mk0)), rfl, bel.frame _, fun h => by cases h⟩

theorem over : Rows.polyValuesRow.holds Try.pinned (OpenSpec.ofChange Rows.polyValuesSpec) :=
  OpenClaim.holds_of_wide 3 Try.f3 rfl rfl rfl rfl rfl rfl rfl ⟨rfl, rfl, rfl, rfl, rfl⟩ rfl rfl rfl rfl rfl (by kernel_rfl) Try.func3 (by kernel_rfl)
    (of_decide_eq_true (by kernel_rfl)) (by unfold Func.isWrapper; first | (rw [if_pos (by decide +kernel)]; kernel_rfl) | (rw [if_neg (by decide +kernel)]; exact ⟨rfl, rfl⟩))
    (fun os started H enc _ => lifted os started H enc)

theorem proved : Rows.PolyValuesSaid := over
#print axioms proved
end Go.Proofs.Ytaihgckcmcacfaa.polyValues
