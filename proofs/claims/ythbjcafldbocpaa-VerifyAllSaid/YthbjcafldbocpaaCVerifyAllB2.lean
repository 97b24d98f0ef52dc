/- The law VerifyAll, proved: for every input the call returns true and each argument reads as before. -/
import Derived.Lib.SmallJoins
import Derived.Deep.Slices
import Derived.WalkKit
import Derived.ProofKit
import Derived.OpenShut
import Derived.ChangeOld
import Derived.Below
import Derived.SizedLaws
import Derived.Test.YthbjcafldbocpaaCVerifyAllA3
import Derived.Test.YthbjcafldbocpaaCVerifyAllB1
import Derived.Test.YthbjcafldbocpaaRows
namespace Go.Proofs.Ythbjcafldbocpaa
open Go.ChangeShapes Go.WideShapes Go.ChangeAt Go.RowKit Go.Joins Go.Proofs.YthbjcafldbocpaaW.PrintWords Go.Proofs.Ythbjcafldbocpaa.P0
set_option linter.unusedVariables false
set_option linter.unusedSimpArgs false
theorem cells_step : Try.prog.cellsOf 59 = 4 := by kernel_rfl
theorem cells_k57 : Try.prog.cellsOf 57 = 1 := by kernel_rfl
theorem cells_int : Try.prog.cellsOf 3 = 1 := by kernel_rfl
theorem cells_u8 : Try.prog.cellsOf 5 = 1 := by kernel_rfl
theorem cells_prog : Try.prog.cellsOf 26 = 4 := by kernel_rfl
theorem byteB_wf {a : Int} (h : (Lit.int .u8 a).wf = true) : byteB a = true := by
  obtain ⟨x, rfl⟩ := u8_of h
  exact byteB_nat x
set_option maxRecDepth 100000 in
theorem step_cells {H : Type} {enc : TypeId × Value → H} {W : World} {n : Nat} {cs : List Value} {x : DataW H × List MemPlace} (h : DataW.trod enc Try.prog W 0 (fun _ => true) true n 59 cs = some x) : ∃ s : S59, cs = cs59 s ∧ byteB s.f3 = true := by
  obtain ⟨y0, y1, y2, y3, m, _, hl, h0, h1, h2, h3⟩ := Go.Joins.trod_struct4 Try.underlying59 h
  rw [cells_step] at hl
  match cs, hl with
  | [c0, c1, c2, c3], _ =>
    have e0 : [c0] = [c0] := rfl
    obtain ⟨a0, q0, _, _⟩ := DataW.trod_int Try.underlying57 h0
    obtain ⟨a1, q1, _, _⟩ := DataW.trod_int Try.underlying3 h1
    obtain ⟨a2, q2, _, _⟩ := DataW.trod_int Try.underlying3 h2
    obtain ⟨a3, q3, _, w3⟩ := DataW.trod_int Try.underlying5 h3
    simp [cells_k57, cells_int, cells_u8] at q0 q1 q2 q3
    subst q0 q1 q2 q3
    exact ⟨⟨a0, a1, a2, a3⟩, rfl, byteB_wf w3⟩
instance : Inhabited S59 := ⟨z59⟩
theorem steps_field {H : Type} {enc : TypeId × Value → H} {W : World} {fuel : Nat} {v : Value} {y : DataW H × List MemPlace}
    (hf : DataW.trod enc Try.prog W 0 (fun _ => true) true fuel 22 [v] = some y) :
    ∃ (a : Option Addr) (cap : Nat) (l : List S59), v = .slice a l.length cap ∧ Kd.C k59 W a l.length l ∧ l.length ≤ cap ∧ ∀ s ∈ l, byteB s.f3 = true := by
  rcases Go.Deep.open_slice Try.underlying22 hf with ⟨hcs, _⟩ | ⟨a, len, cap, m, n, D, Pl, hcs, _, hl, hm, hmm, _, hx⟩
  · simp at hcs
    exact ⟨none, 0, [], hcs, ⟨rfl, by simp, fun h => absurd h (by simp)⟩, Nat.le_refl _, fun s hs => by cases hs⟩
  · simp at hcs
    subst hcs
    have hlm : len ≤ m := by simp at hmm; omega
    obtain ⟨f, hf2⟩ := Go.Deep.choose_lt (α := S59) (n := len) (p := fun i s => (∀ j u, (cs59 s)[j]? = some u → W.cell? (a.add (i * 4 + j)) = some u) ∧ byteB s.f3 = true) (fun i hi => by
      obtain ⟨cs', h1, h2⟩ := hx i (by omega)
      obtain ⟨s, rfl, hb⟩ := step_cells h2
      rw [cells_step] at h1
      obtain ⟨_, _, h3⟩ := World.cells?_some h1
      refine ⟨s, fun j u hu => ?_, hb⟩
      have hj : j < 4 := by
        rcases Nat.lt_or_ge j 4 with h | h
        · exact h
        · rw [List.getElem?_eq_none (by simpa [cs59] using h)] at hu; cases hu
      rw [← Go.Deep.add_add, h3 j hj, hu])
    refine ⟨some a, cap, (List.range len).map f, by simp, ⟨rfl, by simp; have : cap ≤ 9223372036854775807 := hm; omega, fun _ => ⟨a, rfl, fun j p hp => ?_⟩⟩, by simpa using hl, fun s hs => ?_⟩
    · rw [List.getElem?_map] at hp
      obtain ⟨j2, hj2, rfl⟩ := Option.map_eq_some_iff.1 hp
      obtain ⟨hjl, rfl⟩ := List.getElem?_eq_some_iff.1 hj2
      rw [List.length_range] at hjl
      simp only [List.getElem_range]
      exact ⟨cs59 (f j), rfl, k59_mk W (f j), fun i u hu => (hf2 j hjl).1 i u hu⟩
    · obtain ⟨j, hj, rfl⟩ := List.mem_map.1 hs
      exact (hf2 j (List.mem_range.1 hj)).2
set_option maxRecDepth 100000 in
theorem open_program {H : Type} {enc : TypeId × Value → H} {W : World} {r : Reach} {b0 : Nat} {v : Value} {d : DataW H} {p : List MemPlace}
    (hv : Value.okWide Try.prog W r b0 26 v) (h : DataW.Trod enc Try.prog W 0 (fun _ => true) true 26 v d p) :
    ∃ (a : Option Addr) (cap : Nat) (l : List S59) (rr oo qq : Int), v = progV a l.length cap rr oo qq ∧ Kd.C k59 W a l.length l ∧ l.length ≤ cap ∧ (∀ s ∈ l, byteB s.f3 = true) ∧ 0 ≤ qq ∧ qq < 2 ^ 64 := by
  obtain ⟨v0, v1, v2, v3, y0, y1, y2, y3, m, rfl, _, _, t0, t1, t2, t3⟩ := Go.Joins.open_agg4 Try.underlying26 (by kernel_rfl) cells_prog hv h
  obtain ⟨a, cap, l, rfl, hC, hl, hb⟩ := steps_field t0
  obtain ⟨rr, e1, _, _⟩ := DataW.trod_int Try.underlying3 t1
  obtain ⟨oo, e2, _, _⟩ := DataW.trod_int Try.underlying3 t2
  obtain ⟨qq, e3, _, w3⟩ := DataW.trod_int Try.underlying24 t3
  simp at e1 e2 e3
  subst e1 e2 e3
  have hq : 0 ≤ qq ∧ qq < 2 ^ 64 := by
    have := bounds_u64 w3
    omega
  exact ⟨a, cap, l, rr, oo, qq, rfl, hC, hl, hb, hq.1, hq.2⟩
end Go.Proofs.Ythbjcafldbocpaa
namespace Go.Proofs.Ythbjcafldbocpaa.verifyAll
open Go.ChangeShapes Go.WideShapes Go.ChangeAt Go.RowKit

set_option linter.unusedVariables false

set_option maxRecDepth 100000 in
theorem lifted (os : Os) (started : os.Started) (H : Type) (enc : TypeId × Value → H) :
    ReturnsInHanded {} Try.checked os 9 .any (Rows.verifyAllSpec.pre6 enc Try.prog Try.f9 Rows.verifyAllRow.domain false) (Rows.verifyAllSpec.post enc Try.prog Try.f9 false true false false) := by
  refine returnsInHanded_of_change_sized (C := Try.checked) own_knob started (by kernel_rfl) Try.func9
    (ChangeSpec.witness6 (enc := enc) (C := Try.checked) false ⟨#[], #[.agg #[.slice none 0 0, .int .i64 0, .int .i64 0, .int .u64 0], .agg #[.int .i64 0, .int .i64 0, .slice none 0 0], .slice none 0 0], []⟩ 8 (by kernel_rfl) (by kernel_rfl) (by kernel_rfl) (by kernel_rfl)) ?_
  intro W base args ds gs before hval0 hW hcnd hsz0 _
  have hsz : (DataW.weightsEach Try.prog (Try.f9.params.toList ++ Rows.verifyAllSpec.plain.varTypes Try.prog) (ds ++ gs)).all (· ≤ reachBytes) = true := hsz0
  have hval : ∀ (j : Nat) t v, Try.f9.params[j]? = some t → args[j]? = some v → Value.okWide Try.prog W .any base t v := hval0
  have hW' := hW
  obtain ⟨p, q, hA0, hV, rfl, hfz, hnd⟩ := hW
  have hA : DataW.TrodAll enc Try.prog W 0 (fun _ => true) true Try.f9.params.toList args.toList ds p := hA0
  rw [Try.params9] at hA hval hsz
  obtain ⟨v0, vs0, d0, ds0, p0, q0, hargs, rfl, rfl, h0, r0⟩ := trodAll_cons hA
  obtain ⟨v1, vs1, d1, ds1, p1, q1, rfl, rfl, rfl, h1, r1⟩ := trodAll_cons r0
  obtain ⟨v2, vs2, d2, ds2, p2, q2, rfl, rfl, rfl, h2, r2⟩ := trodAll_cons r1
  obtain ⟨rfl, rfl, rfl⟩ := trodAll_nil r2
  obtain rfl : args = #[v0, v1, v2] := by cases args; simp_all
  obtain ⟨rfl, rfl⟩ := trodVars_none hV
  have k0 := h0
  have lt0 : ∀ x ∈ p0, x.block < W.heap.size := by obtain ⟨m, hm⟩ := k0; exact DataW.trod_lt m _ _ _ hm
  have k1 := h1
  have lt1 : ∀ x ∈ p1, x.block < W.heap.size := by obtain ⟨m, hm⟩ := k1; exact DataW.trod_lt m _ _ _ hm
  have k2 := h2
  have lt2 : ∀ x ∈ p2, x.block < W.heap.size := by obtain ⟨m, hm⟩ := k2; exact DataW.trod_lt m _ _ _ hm
  obtain ⟨a0, c0, x0, rr0, oo0, qq0, rfl, rd0, lc0, by0, q00, q10⟩ := open_program (hval 0 26 v0 rfl rfl) h0
  obtain ⟨mr1, mc1, a1, n1, cap1, x1, dd1, rfl, wr1, wc1, rd1, lc1, cm1, rfl, sz1⟩ := open_matrix (hval 1 37 v1 rfl rfl) h1
  have cr1 := sized_matrix hsz (j := 1) rfl rfl sz1
  obtain ⟨a2, n2, c2, rfl⟩ := okWide_slice Try.underlying35 (hval 2 35 v2 rfl rfl)
  obtain ⟨x2, rd2, lc2, cm2, dd2⟩ := open_bytes h2
  have cr2 : c2 ≤ 140737488351232 := by
    rcases dd2 with ⟨_, h⟩ | ⟨es, rs, rfl, hl⟩
    · omega
    · have h := sized_slice hsz (j := 2) rfl rfl Try.underlying35
      rw [bytes_of_u8] at h
      simp only [reachBytes] at h
      omega
  clear hA0 hval0 hsz0
  refine (verifyAll_calls a0 c0 x0 rr0 oo0 qq0 mr1 mc1 a1 n1 cap1 x1 a2 n2 c2 x2 W rd0 lc0 by0 q00 q10 (bounds_i64 wr1) (bounds_i64 wc1) rd1 lc1 cr1 rd2 lc2 cr2).mono fun e W' ⟨he, bel⟩ => ?_
  subst he
  exact ⟨_, rfl, _, _, _, [], _, [], hW', trodAll_mk1 (shut_bool Try.underlying4 _), (trodAll_cons_mk (Below.trod laid_out (by kernel_rfl) (of_decide_eq_true (by kernel_rfl)) k0 bel lt0) (trodAll_cons_mk (Below.trod laid_out (by kernel_rfl) (of_decide_eq_true (by kernel_rfl)) k1 bel lt1) (trodAll_cons_mk (Below.trod laid_out (by kernel_rfl) (of_decide_eq_true (by kernel_rfl)) k2 bel lt2) trodAll_mk0))), rfl, bel.frame _, fun h => by cases h⟩

theorem over : Rows.verifyAllRow.holds Try.pinned (OpenSpec.ofChange Rows.verifyAllSpec) :=
  OpenClaim.holds_of_wide 9 Try.f9 rfl rfl rfl rfl rfl rfl rfl ⟨rfl, rfl, rfl, rfl, rfl⟩ rfl rfl rfl rfl rfl (by kernel_rfl) Try.func9 (by kernel_rfl)
    (of_decide_eq_true (by kernel_rfl)) (by unfold Func.isWrapper; first | (rw [if_pos (by decide +kernel)]; kernel_rfl) | (rw [if_neg (by decide +kernel)]; exact ⟨rfl, rfl⟩))
    (fun os started H enc _ => lifted os started H enc)

theorem proved : Rows.VerifyAllSaid := over
#print axioms proved
end Go.Proofs.Ythbjcafldbocpaa.verifyAll
