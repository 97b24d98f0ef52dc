/- The law BuildCauchy, proved: for every input the call returns true and each argument reads as before. -/
import Derived.WalkKit
import Derived.ProofKit
import Derived.OpenShut
import Derived.ChangeOld
import Derived.Below
import Derived.SizedLaws
import Derived.Test.YteofcbkjhdadpaaCBuildCauchyx1
import Derived.Test.YteofcbkjhdadpaaCBuildCauchyx2
import Derived.Test.YteofcbkjhdadpaaCBuildCauchyx3
import Derived.Test.YteofcbkjhdadpaaCBuildCauchyA1
import Derived.Test.YteofcbkjhdadpaaRows
namespace Go.Proofs.Yteofcbkjhdadpaa
open Go.RowKit Go.Proofs.YteofcbkjhdadpaaW.PrintWords Go.Proofs.Yteofcbkjhdadpaa.Pr
set_option linter.unusedVariables false
set_option linter.unusedSimpArgs false

theorem g_rinv (a : UInt8) : recoupref01_Inv.f (a.toNat : Int) = some (((Gf.inv a).toNat : Int), Gf.invE a) := by
  unfold recoupref01_Inv.f
  rw [byteB_nat, toU_nat]
  rfl
theorem pu_zero5 {r c : Nat} (h : r * c ≤ 281474976710656) : recoupref03_Zero.f (r : Int) (c : Int) = some ((r : Int), (c : Int), nI (List.replicate (r * c) 0)) := by
  unfold recoupref03_Zero.f
  rw [w64_mul (by omega), if_pos (by omega), Int.toNat_natCast, if_pos h, nI_rep]
theorem pu_copy5 (xs : List UInt8) (h : xs.length < 140737488355328) : recoupref01_Copy.f (nI xs) = some (nI xs) := by
  unfold recoupref01_Copy.f
  rw [Option.bind_some, if_pos (by rw [nI_length]; simpa using h), List.nil_append]
theorem pu_eq5 (l : List Int) : recoupref01_Same.f l l = some true := by
  unfold recoupref01_Same.f
  rw [beq_self_eq_true]
theorem pu_like5 (r c : Int) (l : List Int) (e : Int) : recouplaw05_like.f r c l e r c l e = some true := by
  unfold recouplaw05_like.f recoupref03_Like.f
  rw [if_pos rfl, if_pos rfl, if_pos rfl, pu_eq5]
  rfl
theorem mem_take_iff {xs : List UInt8} {n : Nat} {x : UInt8} (h : x ∈ xs.take n) : ∃ k, k < n ∧ k < xs.length ∧ xs.getD k 0 = x := by
  obtain ⟨k, hk, e⟩ := List.mem_iff_getElem.1 h
  rw [List.length_take] at hk
  refine ⟨k, by omega, by omega, ?_⟩
  rw [List.getElem_take] at e
  rw [← e]
  simp [List.getD, show k < xs.length by omega]
def cauR (xs ys : List UInt8) : Int := if cauE xs ys = 0 then (xs.length : Int) else 0
def cauK (xs ys : List UInt8) : Int := if cauE xs ys = 0 then (ys.length : Int) else 0
def cauD (xs ys : List UInt8) : List UInt8 := if cauE xs ys = 0 then cauG xs ys else []
theorem g_cauchy (xs ys : List UInt8) (hx : xs.length ≤ 140737488355328) (hy : ys.length ≤ 140737488355328) : build_Cauchy.f (nI xs) (nI ys) = some (cauR xs ys, cauK xs ys, nI (cauD xs ys), cauE xs ys) := by
  unfold build_Cauchy.f
  rw [inU_nI, inU_nI, nI_length, nI_length, decide_eq_true hx, decide_eq_true hy, nI_toU, nI_toU]
  rfl
theorem pu_rcauchy (xs ys : List UInt8) : Ev (fun k => recoupref05_Cauchy.f k (nI xs) (nI ys)) (cauR xs ys, cauK xs ys, nI (cauD xs ys), cauE xs ys) := by
  have herr : ∀ E : Int, cauE xs ys = E → E ≠ 0 → (cauR xs ys, cauK xs ys, nI (cauD xs ys), cauE xs ys) = ((0 : Int), (0 : Int), nI [], E) := by
    intro E h hE
    unfold cauR cauK cauD
    rw [h, if_neg hE, if_neg hE, if_neg hE]
  have hbig : 64 < xs.length ∨ 64 < ys.length → Ev (fun k => recoupref05_Cauchy.j0 k (nI xs) (nI ys) true) (cauR xs ys, cauK xs ys, nI (cauD xs ys), cauE xs ys) := by
    intro h
    rw [herr 4 (by unfold cauE; rw [if_pos h]) (by omega)]
    refine Ev.step (f := fun _ => some ((0 : Int), (0 : Int), nI [], (4 : Int))) (fun k => ?_) (Ev.now _)
    rw [recoupref05_Cauchy.j0, if_pos rfl]
    rfl
  unfold recoupref05_Cauchy.f
  rw [nI_length, nI_length]
  by_cases h1 : (xs.length : Int) > 64
  · simp only [if_pos h1]; exact hbig (.inl (by omega))
  · simp only [if_neg h1]
    by_cases h2 : (ys.length : Int) > 64
    · rw [decide_eq_true h2]; exact hbig (.inr (by omega))
    · rw [decide_eq_false h2]
      obtain ⟨n, hn⟩ : ∃ n, n = xs.length := ⟨_, rfl⟩
      obtain ⟨m, hm⟩ : ∃ m, m = ys.length := ⟨_, rfl⟩
      obtain ⟨al, hal⟩ : ∃ al, al = xs ++ ys := ⟨_, rfl⟩
      have hall : al.length = n + m := by rw [hal, List.length_append, ← hn, ← hm]
      have hnm : n * m ≤ 4096 := Nat.le_trans (Nat.mul_le_mul (show n ≤ 64 by omega) (show m ≤ 64 by omega)) (by omega)
      have hE : cauE xs ys = if dupB al = true then 2 else 0 := by unfold cauE; rw [if_neg (by omega), hal]
      have hfill : cauE xs ys = 0 → Ev (fun k => recoupref05_Cauchy.l2 k (nI xs) (nI ys) 0 (n : Int) (m : Int) (nI (fillT n m (cauF xs ys) 0 0))) (cauR xs ys, cauK xs ys, nI (cauD xs ys), cauE xs ys) := by
        intro h0
        have hres : (cauR xs ys, cauK xs ys, nI (cauD xs ys), cauE xs ys) = ((n : Int), (m : Int), nI (fillT n m (cauF xs ys) n 0), (0 : Int)) := by
          unfold cauR cauK cauD
          rw [h0, if_pos rfl, if_pos rfl, if_pos rfl, fillT_end, hn, hm]
          rfl
        rw [hres]
        have hin : ∀ i, i < n → Ev (fun k => recoupref05_Cauchy.l2 k (nI xs) (nI ys) ((i + 1 : Nat) : Int) (n : Int) (m : Int) (nI (fillT n m (cauF xs ys) (i + 1) 0))) ((n : Int), (m : Int), nI (fillT n m (cauF xs ys) n 0), (0 : Int)) →
            ∀ d j, j + d = m → Ev (fun k => recoupref05_Cauchy.l3 k (nI xs) (nI ys) (i : Int) (j : Int) (n : Int) (m : Int) (nI (fillT n m (cauF xs ys) i j))) ((n : Int), (m : Int), nI (fillT n m (cauF xs ys) n 0), (0 : Int)) := by
          intro i hi hr d
          induction d with
          | zero =>
            intro j hj
            obtain rfl : j = m := by omega
            refine Ev.step (fun k => ?_) hr
            rw [recoupref05_Cauchy.l3, if_neg (by rw [nI_length]; omega), w64_succ (by omega), fillT_next]
          | succ d ih =>
            intro j hj
            have hp := place_lt (show i < n from hi) (show j < m by omega)
            refine Ev.step (fun k => ?_) (ih (j + 1) (by omega))
            rw [recoupref05_Cauchy.l3, if_pos (by rw [nI_length]; omega), if_pos (by omega), if_pos (by rw [nI_length]; omega), if_pos (by omega), rd_nI, rd_nI, add_xor, g_rinv, Option.bind_some, w64_place (by omega), if_pos (by omega), if_pos (by rw [nI_length, fillT_length]; omega), Int.toNat_natCast, nI_set, w64_succ (by omega)]
            have e := fillT_set (cauF xs ys) hi (show j < m by omega)
            rw [← e]
            rfl
        have hout : ∀ d i, i + d = n → Ev (fun k => recoupref05_Cauchy.l2 k (nI xs) (nI ys) (i : Int) (n : Int) (m : Int) (nI (fillT n m (cauF xs ys) i 0))) ((n : Int), (m : Int), nI (fillT n m (cauF xs ys) n 0), (0 : Int)) := by
          intro d
          induction d with
          | zero =>
            intro i hi
            obtain rfl : i = n := by omega
            refine Ev.step (f := fun _ => some ((i : Int), (m : Int), nI (fillT i m (cauF xs ys) i 0), (0 : Int))) (fun k => ?_) (Ev.now _)
            rw [recoupref05_Cauchy.l2, if_neg (by rw [nI_length]; omega)]
          | succ d ih =>
            intro i hi
            refine Ev.step (fun k => ?_) (hin i (by omega) (ih (i + 1) (by omega)) m 0 (by omega))
            rw [recoupref05_Cauchy.l2, if_pos (by rw [nI_length]; omega)]
            rfl
        exact hout n 0 (by omega)
      have hseen : ∀ i, i < al.length → al.getD i 0 ∈ al.take i → cauE xs ys = 2 := by
        intro i hi h
        rw [hE, show dupB al = true from dupTo_seen h _ hi]
        rfl
      have hone : ∀ i, i < al.length → dupTo al i = false → (dupTo al (i + 1) = false → Ev (fun k => recoupref05_Cauchy.l0 k (nI xs) (nI ys) (nI al) ((i + 1 : Nat) : Int)) (cauR xs ys, cauK xs ys, nI (cauD xs ys), cauE xs ys)) →
          ∀ d j, j + d = i → (∀ k, k < j → al.getD i 0 ≠ al.getD k 0) → Ev (fun k => recoupref05_Cauchy.l1 k (nI xs) (nI ys) (nI al) (i : Int) (j : Int)) (cauR xs ys, cauK xs ys, nI (cauD xs ys), cauE xs ys) := by
        intro i hi hd hr d
        induction d with
        | zero =>
          intro j hj hne
          obtain rfl : j = i := by omega
          refine Ev.step (fun k => ?_) (hr ?_)
          · rw [recoupref05_Cauchy.l1, if_neg (by omega), w64_succ (by omega)]
          · rw [dupTo, hd, Bool.false_or, decide_eq_false_iff_not]
            intro h
            obtain ⟨k, hk, _, e⟩ := mem_take_iff h
            exact hne k hk e.symm
        | succ d ih =>
          intro j hj hne
          by_cases e : al.getD i 0 = al.getD j 0
          · rw [herr 2 (hseen i hi (by rw [e]; exact mem_take_getD (by omega) (by omega))) (by omega)]
            refine Ev.step (f := fun _ => some ((0 : Int), (0 : Int), nI [], (2 : Int))) (fun k => ?_) (Ev.now _)
            rw [recoupref05_Cauchy.l1, if_pos (by omega), if_pos (by omega), if_pos (by rw [nI_length]; omega), if_pos (by omega), if_pos (by rw [nI_length]; omega), rd_nI, rd_nI, if_pos (by rw [e])]
            rfl
          · refine Ev.step (fun k => ?_) (ih (j + 1) (by omega) (fun k hk => ?_))
            · rw [recoupref05_Cauchy.l1, if_pos (by omega), if_pos (by omega), if_pos (by rw [nI_length]; omega), if_pos (by omega), if_pos (by rw [nI_length]; omega), rd_nI, rd_nI, if_neg (fun h => e (UInt8.toNat_inj.1 (by omega))), w64_succ (by omega)]
            · rcases Nat.lt_or_ge k j with h | h
              · exact hne k h
              · obtain rfl : k = j := by omega
                exact e
      have hall0 : ∀ d i, i + d = al.length → dupTo al i = false → Ev (fun k => recoupref05_Cauchy.l0 k (nI xs) (nI ys) (nI al) (i : Int)) (cauR xs ys, cauK xs ys, nI (cauD xs ys), cauE xs ys) := by
        intro d
        induction d with
        | zero =>
          intro i hi hd
          obtain rfl : i = al.length := by omega
          have h0 : cauE xs ys = 0 := by rw [hE, show dupB al = false from hd]; rfl
          refine Ev.step (fun k => ?_) (hfill h0)
          rw [recoupref05_Cauchy.l0, if_neg (by rw [nI_length]; omega), nI_length, nI_length, ← hn, ← hm, pu_zero5 (by omega), Option.bind_some, fillT_start n m (cauF xs ys)]
        | succ d ih =>
          intro i hi hd
          refine Ev.step (fun k => ?_) (hone i (by omega) hd (fun h => ih (i + 1) (by omega) h) i 0 (by omega) (fun k hk => by omega))
          rw [recoupref05_Cauchy.l0, if_pos (by rw [nI_length]; omega)]
          rfl
      refine Ev.step (fun k => ?_) (hall0 al.length 0 (by omega) rfl)
      rw [recoupref05_Cauchy.j0, if_neg (by simp), pu_copy5 xs (by omega), Option.bind_some, if_pos (by rw [nI_length, nI_length]; omega), nI_app, ← hal]
      rfl
theorem cauchy_pure (xs ys : List UInt8) (hx : xs.length ≤ 140737488355328) (hy : ys.length ≤ 140737488355328) : ∃ k, recouplaw05_BuildCauchy.f k (nI xs) (nI ys) = some true := by
  refine Ev.rounds ?_
  unfold recouplaw05_BuildCauchy.f
  simp only [g_cauchy xs ys hx hy, Option.bind_some]
  refine Ev.bind (pu_rcauchy xs ys) ?_
  simp only [pu_like5, Option.bind_some]
  exact Ev.now _
theorem buildCauchy_calls (a0 : Option Addr) (n0 c0 : Nat) (x0 : List UInt8) (a1 : Option Addr) (n1 c1 : Nat) (x1 : List UInt8) (w : World)
    (r0 : Rd w w.heap.size a0 n0 (bVs x0)) (l0 : n0 ≤ c0) (m0 : c0 ≤ 140737488351232) (r1 : Rd w w.heap.size a1 n1 (bVs x1)) (l1 : n1 ≤ c1) (m1 : c1 ≤ 140737488351232) :
    Calls Try.prog 3 #[.slice a0 n0 c0, .slice a1 n1 c1] w fun e w' => e = .returned (.bool true) ∧ Below w.heap.size w w' := by
  obtain rfl : x0.length = n0 := by have := r0.len; rw [bVs_length] at this; exact this
  obtain rfl : x1.length = n1 := by have := r1.len; rw [bVs_length] at this; exact this
  obtain ⟨k, h⟩ := cauchy_pure x0 x1 (by omega) (by omega)
  have hc := recouplaw05_BuildCauchy.calls k a0 c0 (nI x0) a1 c1 (nI x1) true w (C_of_rd r0 (by omega)) (by rw [nI_length]; exact l0) (C_of_rd r1 (by omega)) (by rw [nI_length]; exact l1) rfl h
  rw [nI_length, nI_length] at hc
  exact hc
end Go.Proofs.Yteofcbkjhdadpaa
namespace Go.Proofs.Yteofcbkjhdadpaa.buildCauchy
open Go.ChangeShapes Go.WideShapes Go.ChangeAt Go.RowKit

set_option linter.unusedVariables false

set_option maxRecDepth 100000 in
theorem lifted (os : Os) (started : os.Started) (H : Type) (enc : TypeId × Value → H) :
    ReturnsInHanded {} Try.checked os 3 .any (Rows.buildCauchySpec.pre6 enc Try.prog Try.f3 Rows.buildCauchyRow.domain false) (Rows.buildCauchySpec.post enc Try.prog Try.f3 false true false false) := by
  refine returnsInHanded_of_change_sized (C := Try.checked) own_knob started (by kernel_rfl) Try.func3
    (ChangeSpec.witness6 (enc := enc) (C := Try.checked) false ⟨#[], #[.slice none 0 0, .slice none 0 0], []⟩ 8 (by kernel_rfl) (by kernel_rfl) (by kernel_rfl) (by kernel_rfl)) ?_
  intro W base args ds gs before hval0 hW hcnd hsz0 _
  have hsz : (DataW.weightsEach Try.prog (Try.f3.params.toList ++ Rows.buildCauchySpec.plain.varTypes Try.prog) (ds ++ gs)).all (· ≤ reachBytes) = true := hsz0
  have hval : ∀ (j : Nat) t v, Try.f3.params[j]? = some t → args[j]? = some v → Value.okWide Try.prog W .any base t v := hval0
  have hW' := hW
  obtain ⟨p, q, hA0, hV, rfl, hfz, hnd⟩ := hW
  have hA : DataW.TrodAll enc Try.prog W 0 (fun _ => true) true Try.f3.params.toList args.toList ds p := hA0
  rw [Try.params3] at hA hval hsz
  obtain ⟨v0, vs0, d0, ds0, p0, q0, hargs, rfl, rfl, h0, r0⟩ := trodAll_cons hA
  obtain ⟨v1, vs1, d1, ds1, p1, q1, rfl, rfl, rfl, h1, r1⟩ := trodAll_cons r0
  obtain ⟨rfl, rfl, rfl⟩ := trodAll_nil r1
  obtain rfl : args = #[v0, v1] := by cases args; simp_all
  obtain ⟨rfl, rfl⟩ := trodVars_none hV
  have k0 := h0
  have lt0 : ∀ x ∈ p0, x.block < W.heap.size := by obtain ⟨m, hm⟩ := k0; exact DataW.trod_lt m _ _ _ hm
  have k1 := h1
  have lt1 : ∀ x ∈ p1, x.block < W.heap.size := by obtain ⟨m, hm⟩ := k1; exact DataW.trod_lt m _ _ _ hm
  obtain ⟨a0, n0, c0, rfl⟩ := okWide_slice Try.underlying22 (hval 0 22 v0 rfl rfl)
  obtain ⟨x0, rd0, lc0, cm0, dd0⟩ := open_bytes h0
  have cr0 : c0 ≤ 140737488351232 := by
    rcases dd0 with ⟨_, h⟩ | ⟨es, rs, rfl, hl⟩
    · omega
    · have h := sized_slice hsz (j := 0) rfl rfl Try.underlying22
      rw [bytes_of_u8] at h
      simp only [reachBytes] at h
      omega
  obtain ⟨a1, n1, c1, rfl⟩ := okWide_slice Try.underlying22 (hval 1 22 v1 rfl rfl)
  obtain ⟨x1, rd1, lc1, cm1, dd1⟩ := open_bytes h1
  have cr1 : c1 ≤ 140737488351232 := by
    rcases dd1 with ⟨_, h⟩ | ⟨es, rs, rfl, hl⟩
    · omega
    · have h := sized_slice hsz (j := 1) rfl rfl Try.underlying22
      rw [bytes_of_u8] at h
      simp only [reachBytes] at h
      omega
  clear hA0 hval0 hsz0
  refine (buildCauchy_calls a0 n0 c0 x0 a1 n1 c1 x1 W rd0 lc0 cr0 rd1 lc1 cr1).mono fun e W' ⟨he, bel⟩ => ?_
  subst he
  exact ⟨_, rfl, _, _, _, [], _, [], hW', trodAll_mk1 (shut_bool Try.underlying4 _), (trodAll_cons_mk (Below.trod laid_out (by kernel_rfl) (of_decide_eq_true (by kernel_rfl)) k0 bel lt0) (trodAll_cons_mk (Below.trod laid_out (by kernel_rfl) (of_decide_eq_true (by kernel_rfl)) k1 bel lt1) trodAll_mk0)), rfl, bel.frame _, fun h => by cases h⟩

theorem over : Rows.buildCauchyRow.holds Try.pinned (OpenSpec.ofChange Rows.buildCauchySpec) :=
  OpenClaim.holds_of_wide 3 Try.f3 rfl rfl rfl rfl rfl rfl rfl ⟨rfl, rfl, rfl, rfl, rfl⟩ rfl rfl rfl rfl rfl (by kernel_rfl) Try.func3 (by kernel_rfl)
    (of_decide_eq_true (by kernel_rfl)) (by unfold Func.isWrapper; first | (rw [if_pos (by decide +kernel)]; kernel_rfl) | (rw [if_neg (by decide +kernel)]; exact ⟨rfl, rfl⟩))
    (fun os started H enc _ => lifted os started H enc)

theorem proved : Rows.BuildCauchySaid := over
#print axioms proved
end Go.Proofs.Yteofcbkjhdadpaa.buildCauchy
