/- The law VerifyTurned, proved: for every input the call returns true and each argument reads as before. -/
import Derived.Stop.BytesEq
import Derived.Deep.CutBlock
import Derived.Lib.SliceRun
import Derived.Lib.SmallJoins
import Derived.Deep.Slices
import Derived.WalkKit
import Derived.ProofKit
import Derived.OpenShut
import Derived.ChangeOld
import Derived.Below
import Derived.SizedLaws
import Derived.Test.YthbjcafldbocpaaCVerifyTurnedA2
import Derived.Test.YthbjcafldbocpaaCVerifyTurnedx2
import Derived.Test.YthbjcafldbocpaaCVerifyTurnedx3
import Derived.Test.YthbjcafldbocpaaCVerifyTurnedx4
import Derived.Test.YthbjcafldbocpaaCVerifyTurnedA1
import Derived.Test.YthbjcafldbocpaaCVerifyTurnedx5
import Derived.Test.YthbjcafldbocpaaCVerifyTurnedx6
import Derived.Test.YthbjcafldbocpaaCVerifyTurnedx7
import Derived.Test.YthbjcafldbocpaaCVerifyTurnedx8
import Derived.Test.YthbjcafldbocpaaRows
namespace Go.Proofs.Ythbjcafldbocpaa
open Go.RowKit Go.Proofs.YthbjcafldbocpaaW.PrintWords Go.Proofs.Ythbjcafldbocpaa.P0
set_option linter.unusedVariables false
set_option linter.unusedSimpArgs false
def okS (s : S59) : Bool := decide (1 ≤ s.f0 ∧ s.f0 ≤ 4 ∧ 0 ≤ s.f1 ∧ s.f1 ≤ 255 ∧ 0 ≤ s.f2 ∧ s.f2 ≤ 255 ∧ (s.f0 = 1 → s.f2 = 0) ∧ (s.f0 ≠ 3 → s.f3 = 0))
def mayB (l : List S59) (r o : Int) : Bool := decide (0 ≤ r ∧ r ≤ 256 ∧ 0 ≤ o ∧ o ≤ 64 ∧ l.length ≤ 65536) && l.all okS
theorem rd_at {l : List S59} {i : Nat} (h : i < l.length) : rd_T59 l (i : Int) = l[i] := by
  simp [rd_T59, List.getD_eq_getElem?_getD, h]
theorem all_drop {l : List S59} {i : Nat} (h : i < l.length) : (l.drop i).all okS = (okS l[i] && (l.drop (i + 1)).all okS) := by
  rw [List.drop_eq_getElem_cons h, List.all_cons]
theorem okS_no {s : S59} (h : ¬ (1 ≤ s.f0 ∧ s.f0 ≤ 4 ∧ 0 ≤ s.f1 ∧ s.f1 ≤ 255 ∧ 0 ≤ s.f2 ∧ s.f2 ≤ 255 ∧ (s.f0 = 1 → s.f2 = 0) ∧ (s.f0 ≠ 3 → s.f3 = 0))) : okS s = false := decide_eq_false h
theorem wrap_next {i : Nat} (h : i < 65536) : wrap64 ((i : Int) + 1) = ((i + 1 : Nat) : Int) := by unfold wrap64; omega
theorem fields1 : emit_fields.f 1 = some ⟨#[68]⟩ := by simp [emit_fields.f]
theorem fields2 : emit_fields.f 2 = some ⟨#[68, 83]⟩ := by simp [emit_fields.f]
theorem fields3 : emit_fields.f 3 = some ⟨#[68, 83, 67]⟩ := by simp [emit_fields.f]
theorem fields4 : emit_fields.f 4 = some ⟨#[68, 83]⟩ := by simp [emit_fields.f]
theorem sz1 : ((⟨#[68]⟩ : ByteArray).size : Int) = 1 := rfl
theorem sz2 : ((⟨#[68, 83]⟩ : ByteArray).size : Int) = 2 := rfl
theorem sz3 : ((⟨#[68, 83, 67]⟩ : ByteArray).size : Int) = 3 := rfl
theorem may_j2 (k : Nat) (l : List S59) (n i : Int) (s : S59) (b : Bool) (h1 : 1 ≤ s.f0) (h4 : s.f0 ≤ 4) (a1 : 0 ≤ s.f1) (a2 : s.f1 ≤ 255) (a3 : 0 ≤ s.f2) (a4 : s.f2 ≤ 255) (hk : emit_may.l0 k l n (wrap64 (i + 1)) = some b) :
    emit_may.j2 (k + 1) l n i false s.f0 s.f1 s.f2 s.f3 = some (okS s && b) := by
  have h : s.f0 = 1 ∨ s.f0 = 2 ∨ s.f0 = 3 ∨ s.f0 = 4 := by omega
  obtain ⟨f0, f1, f2, f3⟩ := s
  simp only at h h1 h4 a1 a2 a3 a4 ⊢
  rcases h with h | h | h | h <;> subst h
  · simp only [emit_may.j2, fields1, Option.bind_some, sz1, Bool.false_eq_true, if_false]
    by_cases c2 : f2 = 0 <;> by_cases c3 : f3 = 0 <;> simp [okS, c2, c3, hk, a1, a2, a3, a4]
  · simp only [emit_may.j2, fields2, Option.bind_some, sz2, Bool.false_eq_true, if_false]
    by_cases c3 : f3 = 0 <;> simp [okS, c3, hk, a1, a2, a3, a4]
  · simp only [emit_may.j2, fields3, Option.bind_some, sz3, Bool.false_eq_true, if_false]
    simp [okS, hk, a1, a2, a3, a4]
  · simp only [emit_may.j2, fields4, Option.bind_some, sz2, Bool.false_eq_true, if_false]
    by_cases c3 : f3 = 0 <;> simp [okS, c3, hk, a1, a2, a3, a4]
theorem may_l0 (l : List S59) (hl : l.length ≤ 65536) : ∀ d i, i + d = l.length → ∃ k, emit_may.l0 k l (l.length : Int) (i : Int) = some ((l.drop i).all okS)
  | 0, i, h => ⟨1, by
      rw [List.drop_eq_nil_of_le (by omega)]
      simp only [emit_may.l0]
      rw [if_neg (by omega)]
      rfl⟩
  | d + 1, i, h => by
      obtain ⟨k, hk⟩ := may_l0 l hl d (i + 1) (by omega)
      have hi : i < l.length := by omega
      refine ⟨k + 2, ?_⟩
      rw [all_drop hi]
      simp only [emit_may.l0, rd_at hi]
      rw [if_pos (by omega), if_pos (by omega), if_pos (by omega)]
      generalize l[i] = s
      rw [← wrap_next (by omega)] at hk
      unfold emit_known.f
      by_cases h1 : 1 ≤ s.f0
      · rw [if_pos h1]
        by_cases h4 : s.f0 ≤ 4
        · simp only [Option.bind_some, decide_eq_true h4, if_true]
          by_cases a1 : 0 ≤ s.f1
          · rw [if_neg (by omega)]
            by_cases a2 : s.f1 ≤ 255
            · rw [if_neg (by omega)]
              by_cases a3 : 0 ≤ s.f2
              · rw [if_neg (by omega)]
                by_cases a4 : s.f2 ≤ 255
                · rw [show decide (s.f2 > 255) = false from decide_eq_false (by omega)]
                  exact may_j2 k l _ _ s _ h1 h4 a1 a2 a3 a4 hk
                · rw [show decide (s.f2 > 255) = true from decide_eq_true (by omega), okS_no (fun h => a4 h.2.2.2.2.2.1)]
                  simp [emit_may.j2]
              · rw [if_pos (by omega), okS_no (fun h => a3 h.2.2.2.2.1)]
                simp [emit_may.j2]
            · rw [if_pos (by omega), okS_no (fun h => a2 h.2.2.2.1)]
              simp [emit_may.j2]
          · rw [if_pos (by omega), okS_no (fun h => a1 h.2.2.1)]
            simp [emit_may.j2]
        · simp only [Option.bind_some, decide_eq_false h4, Bool.false_eq_true, if_false]
          rw [okS_no (fun h => h4 h.2.1)]
          simp [emit_may.j2]
      · rw [if_neg h1]
        simp only [Option.bind_some, Bool.false_eq_true, if_false]
        rw [okS_no (fun h => h1 h.1)]
        simp [emit_may.j2]
theorem may_f (l : List S59) (r o q : Int) : ∃ k, emit_may.f k l r o q = some (mayB l r o) := by
  have no : ∀ r o q, (¬ (0 ≤ r ∧ r ≤ 256 ∧ 0 ≤ o ∧ o ≤ 64 ∧ l.length ≤ 65536)) → emit_may.j0 1 true l r o q = some (mayB l r o) := by
    intro r o q h
    unfold mayB
    rw [decide_eq_false h]
    simp [emit_may.j0]
  by_cases h1 : r < 0
  · exact ⟨1, by unfold emit_may.f; rw [if_pos h1]; exact no _ _ _ (by omega)⟩
  by_cases h2 : r > 256
  · exact ⟨1, by unfold emit_may.f; rw [if_neg h1, if_pos h2]; exact no _ _ _ (by omega)⟩
  by_cases h3 : o < 0
  · exact ⟨1, by unfold emit_may.f; rw [if_neg h1, if_neg h2, if_pos h3]; exact no _ _ _ (by omega)⟩
  by_cases h4 : o > 64
  · exact ⟨1, by unfold emit_may.f; rw [if_neg h1, if_neg h2, if_neg h3, if_pos h4]; exact no _ _ _ (by omega)⟩
  by_cases h5 : (l.length : Int) > 65536
  · exact ⟨1, by unfold emit_may.f; rw [if_neg h1, if_neg h2, if_neg h3, if_neg h4, decide_eq_true h5]; exact no _ _ _ (by omega)⟩
  · obtain ⟨k, hk⟩ := may_l0 l (by omega) l.length 0 (by omega)
    refine ⟨k + 1, ?_⟩
    unfold emit_may.f mayB
    rw [if_neg h1, if_neg h2, if_neg h3, if_neg h4, decide_eq_false h5, decide_eq_true (by omega)]
    simp only [emit_may.j0, Bool.false_eq_true, if_false, Bool.true_and]
    exact hk
/-! the contracts -/
theorem may_ok {w : World} {A : Option Addr} {c : Nat} {l : List S59} (r o q : Int) (hC : Kd.C k59 w A l.length l) (hc : l.length ≤ c) : ∀ w1, Below w.heap.size w w1 → Calls Try.prog 59 #[.agg #[.slice A l.length c, .int .i64 r, .int .i64 o, .int .u64 q]] w1 fun e w' => e = .returned (.bool (mayB l r o)) ∧ Below w1.heap.size w1 w' := by
  intro w1 hb
  obtain ⟨k, hk⟩ := may_f l r o q
  exact emit_may.calls k A c l r o q _ w1 (Kd.C_below hC hb) hc hk
def psOf (s : S59) : PS := ⟨s.f0.toNat, s.f1.toNat, s.f2.toNat, toU s.f3⟩
theorem okS_spec {s : S59} (h : okS s = true) : 1 ≤ s.f0 ∧ s.f0 ≤ 4 ∧ 0 ≤ s.f1 ∧ s.f1 ≤ 255 ∧ 0 ≤ s.f2 ∧ s.f2 ≤ 255 ∧ (s.f0 = 1 → s.f2 = 0) ∧ (s.f0 ≠ 3 → s.f3 = 0) := of_decide_eq_true h
theorem psOf_ok {s : S59} (h : okS s = true) : (psOf s).Ok := by
  have := okS_spec h
  unfold PS.Ok psOf
  simp only
  omega
theorem steps_of {w : World} {A : Option Addr} {l : List S59} (hC : Kd.C k59 w A l.length l) (ho : ∀ s ∈ l, okS s = true) (hb : ∀ s ∈ l, byteB s.f3 = true) : StepsAt w w.heap.size A (l.map psOf) := by
  intro hn
  rw [List.length_map] at hn
  obtain ⟨ad, e, h0, h1, h2, h3⟩ := at_T59 hC 0 (by omega) (by omega)
  obtain ⟨g, o, sp⟩ := ad
  have hsp : sp = none := by
    have h9 : (⟨g, o, sp⟩ : Addr).add (Int.toNat 0 * 4) = ⟨g, o, sp⟩ := by unfold Addr.add; simp
    rw [h9] at h0
    exact spot_of_cell h0
  subst hsp
  refine ⟨g, o, e, ?_, fun i s hs => ?_⟩
  · rw [addr_add] at h0
    exact lt_of_cell h0
  · rw [List.getElem?_map] at hs
    obtain ⟨x, hx, rfl⟩ := Option.map_eq_some_iff.1 hs
    obtain ⟨hi, rfl⟩ := List.getElem?_eq_some_iff.1 hx
    obtain ⟨ad2, e2, g0, g1, g2, g3⟩ := at_T59 hC (i : Int) (by omega) (by omega)
    rw [e] at e2
    injection e2 with e2
    subst e2
    rw [rd_at hi] at g0 g1 g2 g3
    have hok := okS_spec (ho _ (List.getElem_mem hi))
    have hby := hb _ (List.getElem_mem hi)
    generalize l[i] = s at *
    rw [Int.toNat_natCast, addr_add] at g0 g1 g2 g3
    simp only at g0 g1 g2 g3
    unfold psOf
    simp only
    rw [toU_of hby, Int.toNat_of_nonneg (by omega), Int.toNat_of_nonneg (by omega), Int.toNat_of_nonneg (by omega)]
    exact ⟨g0, g1, g2, g3⟩
theorem all_f {s : S59} (h : okS s = true) : ∃ r : List Int, emit_all.f s.f0 s.f1 s.f2 s.f3 = some r ∧ r.length ≤ 3 := by
  have hk := okS_spec h
  have h4 : s.f0 = 1 ∨ s.f0 = 2 ∨ s.f0 = 3 ∨ s.f0 = 4 := by omega
  unfold emit_all.f
  rcases h4 with h4 | h4 | h4 | h4 <;> rw [h4]
  · refine ⟨_, by rw [fields1]; simp only [Option.bind_some, sz1]; rw [if_pos (by decide), if_pos (by simp)], by simp⟩
  · refine ⟨_, by rw [fields2]; simp only [Option.bind_some, sz2]; rw [if_pos (by decide), if_pos (by simp)], by simp⟩
  · refine ⟨_, by rw [fields3]; simp only [Option.bind_some, sz3]; rw [if_pos (by decide), if_pos (by simp)], by simp⟩
  · refine ⟨_, by rw [fields4]; simp only [Option.bind_some, sz2]; rw [if_pos (by decide), if_pos (by simp)], by simp⟩
theorem ints_of_R {w w' : World} {v : Value} {r : List Int} (h : Kd.R (Kd.int .i64) 3 w' w.heap.size (fun _ => True) v r) (hl : r.length ≤ 3) : ∃ A m c, v = .slice A m c ∧ Ints3 w w' A m := by
  obtain ⟨_, inner, ho, hr⟩ := h
  rcases ho.2 with ⟨rfl, h0⟩ | ⟨g, c, cur, rfl, hg, hh, _⟩
  · exact ⟨none, 0, 0, rfl, by omega, fun h => absurd h (by omega)⟩
  · refine ⟨_, r.length, c, rfl, hl, fun _ => ⟨g, rfl, hg, ?_, fun j hj => ?_⟩⟩
    · rcases Nat.lt_or_ge g w'.heap.size with hlt | hge
      · exact hlt
      · rw [Array.getElem?_eq_none hge] at hh; cases hh
    · have hlen : inner.length = r.length := by have h1 := hr.1; have e5 : (Kd.int .i64).sz = 1 := rfl; rw [e5] at h1; omega
      have hp := hr.2 j r[j] (List.getElem?_eq_getElem hj)
      have e5 : (Kd.int .i64).sz = 1 := rfl
      rw [e5, Nat.mul_one, one_drop _ _ (by omega)] at hp
      have hp' : [inner[j]'(by omega)] = [.int .i64 r[j]] := hp
      refine ⟨r[j], ?_⟩
      have hj2 : j < inner.length := by omega
      have e6 : inner[j]? = some (.int .i64 r[j]) := by
        rw [List.getElem?_eq_getElem hj2]
        simpa using hp'
      exact (ho.cellAt j (by have e5 : (Kd.int .i64).sz = 1 := rfl; rw [e5]; omega)).trans e6
theorem all_ok {l : List S59} (ho : ∀ s ∈ l, okS s = true) (hb : ∀ s ∈ l, byteB s.f3 = true) : ∀ s ∈ l.map psOf, ∀ w1, Calls Try.prog 62 #[.agg #[.int .u8 (s.k : Int), .int .i64 (s.D : Int), .int .i64 (s.S : Int), .int .u8 (s.C.toNat : Int)]] w1 fun e w' => ∃ A m c, e = .returned (.slice A m c) ∧ Ints3 w1 w' A m ∧ Below w1.heap.size w1 w' := by
  intro s hs w1
  obtain ⟨x, hx, rfl⟩ := List.mem_map.1 hs
  have hk := okS_spec (ho x hx)
  obtain ⟨r, hr, hl⟩ := all_f (ho x hx)
  have hc := emit_all.calls x.f0 x.f1 x.f2 x.f3 r w1 hr
  unfold psOf
  simp only
  rw [toU_of (hb x hx), Int.toNat_of_nonneg (by omega), Int.toNat_of_nonneg (by omega), Int.toNat_of_nonneg (by omega)]
  refine hc.mono ?_
  rintro e w' ⟨v, rfl, hR, hbl⟩
  obtain ⟨A, m, c, rfl, hI⟩ := ints_of_R hR hl
  exact ⟨A, m, c, rfl, hI, hbl⟩
end Go.Proofs.Ythbjcafldbocpaa
namespace Go.Proofs.Ythbjcafldbocpaa
open Go.RowKit Go.Proofs.YthbjcafldbocpaaW.PrintWords Go.Proofs.Ythbjcafldbocpaa.P0
set_option linter.unusedVariables false
set_option linter.unusedSimpArgs false
def progV (AS : Option Addr) (nS cS : Nat) (regs outs reads : Int) : Value := .agg #[.slice AS nS cS, .int .i64 regs, .int .i64 outs, .int .u64 reads]
theorem look_far (AS : Option Addr) (nS cS : Nat) (regs outs reads n : Int) (hn : n < 0 ∨ 64 < n) (w : World) :
    Calls Try.prog 30 #[progV AS nS cS regs outs reads, .int .i64 n] w fun e w' => e = .returned (.tuple #[.pointer none, .int .i64 2]) ∧ Below w.heap.size w w' := by
  unfold progV
  by_cases h0 : n < 0
  · have h1 : decide (n < 0) = true := decide_eq_true h0
    go_enter Try.func30, Try.ntmps30
    go_wp2_with fail
    go_ret2
    exact ⟨rfl, (Below.refl _ _).alloc (Nat.le_refl _) _⟩
  · have h1 : decide (n < 0) = false := decide_eq_false h0
    have h2 : decide (64 < n) = true := decide_eq_true (by omega)
    go_enter Try.func30, Try.ntmps30
    go_wp2_with fail
    go_ret2
    exact ⟨rfl, (Below.refl _ _).alloc (Nat.le_refl _) _⟩
theorem look_no (AS : Option Addr) (nS cS : Nat) (regs outs reads n : Int) (h0 : 0 ≤ n) (h1 : n ≤ 64) (w : World)
    (hwr : ∀ w1, Below w.heap.size w w1 → Calls Try.prog 48 #[.agg #[.slice AS nS cS, .int .i64 regs, .int .i64 outs, .int .u64 reads]] w1 fun e w' => e = .returned (.tuple #[.slice none 0 0, .int .i64 2]) ∧ Below w1.heap.size w1 w') :
    Calls Try.prog 30 #[progV AS nS cS regs outs reads, .int .i64 n] w fun e w' => e = .returned (.tuple #[.pointer none, .int .i64 2]) ∧ Below w.heap.size w w' := by
  unfold progV
  have h2 : decide (n < 0) = false := decide_eq_false (by omega)
  have h3 : decide (64 < n) = false := decide_eq_false (by omega)
  go_enter Try.func30, Try.ntmps30
  go_wp2_with fail
  have q : Below w.heap.size w (w.alloc (.cells #[.slice AS nS cS, .int .i64 regs, .int .i64 outs, .int .u64 reads] 26)) := (Below.refl _ _).alloc (Nat.le_refl _) _
  refine (hwr _ q).mono ?_
  rintro e w1 ⟨rfl, hb⟩
  go_wp2_with fail
  go_ret2
  exact ⟨rfl, q.trans (hb.mono (by simp))⟩
def checkV (l : List S59) (r o q n : Int) : Int × Int :=
  if n < 0 ∨ 64 < n ∨ mayB l r o = false then (0, 2)
  else match vAll r.toNat o.toNat q.toNat n.toNat (l.map psOf) with
    | (i, some _) => ((i : Int), 0)
    | (i, none) => ((i : Int), 250)
set_option maxRecDepth 100000 in
theorem look_all {w : World} {A : Option Addr} {c : Nat} {l : List S59} {r o q n : Int} (hC : Kd.C k59 w A l.length l) (hc : l.length ≤ c) (hb : ∀ s ∈ l, byteB s.f3 = true) (hq : 0 ≤ q) (hq2 : q < 2 ^ 64) (hn : 0 ≤ n) (hn2 : n ≤ 64) (hm : mayB l r o = true) :
    Calls Try.prog 30 #[progV A l.length c r o q, .int .i64 n] w fun e w' => LookPost w A (l.map psOf) c r.toNat o.toNat q.toNat n.toNat e w' := by
  have h1 := hm
  unfold mayB at h1
  rw [Bool.and_eq_true, decide_eq_true_eq, List.all_eq_true] at h1
  obtain ⟨⟨r1, r2, o1, o2, hl⟩, ho⟩ := h1
  have hst := steps_of hC ho hb
  have er : ((r.toNat : Nat) : Int) = r := Int.toNat_of_nonneg r1
  have eo : ((o.toNat : Nat) : Int) = o := Int.toNat_of_nonneg o1
  have eq : ((q.toNat : Nat) : Int) = q := Int.toNat_of_nonneg hq
  have en : ((n.toNat : Nat) : Int) = n := Int.toNat_of_nonneg hn
  have el : (l.map psOf).length = l.length := List.length_map _
  have hok : ∀ s ∈ l.map psOf, s.Ok := by
    intro s hs
    obtain ⟨x, hx, rfl⟩ := List.mem_map.1 hs
    exact psOf_ok (ho x hx)
  have hrange : ∀ s ∈ l.map psOf, s.k < 256 := by
    intro s hs
    have := hok s hs
    unfold PS.Ok at this
    omega
  have hmay := may_ok (w := w) r o q hC hc
  rw [hm] at hmay
  have H := look_yes A (l.map psOf) c r.toNat o.toNat q.toNat n.toNat w hst (by omega) (by omega) (by rw [el]; exact hl) (by omega) (by omega) hok (fun w1 hb1 => by
    have hst1 := steps_of (Kd.C_below hC hb1) ho hb
    refine write_yes A (l.map psOf) c r.toNat o.toNat q.toNat w1 hst1 (by omega) (by omega) (by rw [el]; exact hl) ?_ hrange (all_ok ho hb)
    intro w2 hb2
    rw [el, er, eo, eq]
    exact hmay w2 (hb1.trans (hb2.mono hb1.size)))
  rw [el, er, eo, eq, en] at H
  exact H
theorem look_bad {w : World} {A : Option Addr} {c : Nat} {l : List S59} {r o q n : Int} (hC : Kd.C k59 w A l.length l) (hc : l.length ≤ c) (h : n < 0 ∨ 64 < n ∨ mayB l r o = false) :
    Calls Try.prog 30 #[progV A l.length c r o q, .int .i64 n] w fun e w' => e = .returned (.tuple #[.pointer none, .int .i64 2]) ∧ Below w.heap.size w w' := by
  by_cases hn : n < 0 ∨ 64 < n
  · exact look_far A l.length c r o q n hn w
  · have hm : mayB l r o = false := by rcases h with h | h | h; exact absurd (.inl h) hn; exact absurd (.inr h) hn; exact h
    refine look_no A l.length c r o q n (by omega) (by omega) w (fun w1 hb1 => ?_)
    refine write_no A l.length c r o q w1 (fun w2 hb2 => ?_)
    have := may_ok (w := w) r o q hC hc w2 (hb1.trans (hb2.mono hb1.size))
    rw [hm] at this
    exact this
set_option maxRecDepth 100000 in
theorem check_calls {w : World} {A : Option Addr} {c : Nat} {l : List S59} {r o q n : Int} (hC : Kd.C k59 w A l.length l) (hc : l.length ≤ c) (hb : ∀ s ∈ l, byteB s.f3 = true) (hq : 0 ≤ q) (hq2 : q < 2 ^ 64) :
    Calls Try.prog 10 #[progV A l.length c r o q, .int .i64 n] w fun e w' => e = .returned (.tuple #[.int .i64 (checkV l r o q n).1, .int .i64 (checkV l r o q n).2]) ∧ Below w.heap.size w w' := by
  have q0 : ∀ o, Below w.heap.size w (w.alloc o) := fun o => (Below.refl _ _).alloc (Nat.le_refl _) _
  by_cases h : n < 0 ∨ 64 < n ∨ mayB l r o = false
  · have e : checkV l r o q n = (0, 2) := by unfold checkV; exact if_pos h
    rw [e]
    unfold progV
    go_enter Try.func10, Try.ntmps10
    go_wp2_with fail
    refine (look_bad (Kd.C_below hC (q0 _)) hc h).mono ?_
    rintro e w' ⟨rfl, hb'⟩
    go_wp2_with fail
    go_ret2
    exact ⟨rfl, (q0 _).trans (hb'.mono (by simp))⟩
  · have h' : mayB l r o = true := by
      cases hm : mayB l r o
      · exact absurd (.inr (.inr hm)) h
      · rfl
    have e : checkV l r o q n = match vAll r.toNat o.toNat q.toNat n.toNat (l.map psOf) with
      | (i, some _) => ((i : Int), 0)
      | (i, none) => ((i : Int), 250) := by unfold checkV; exact if_neg h
    rw [e]
    obtain ⟨⟨pl, st⟩, hv⟩ : ∃ v, v = vAll r.toNat o.toNat q.toNat n.toNat (l.map psOf) := ⟨_, rfl⟩
    rw [← hv]
    unfold progV
    go_enter Try.func10, Try.ntmps10
    go_wp2_with fail
    refine (look_all (Kd.C_below hC (q0 _)) hc hb hq hq2 (by omega) (by omega) h').mono ?_
    rintro e w' ⟨gk, gr, gs, go, gd, G, hbl, hy, hno⟩
    rw [← hv] at hy hno
    have hbl' := (q0 (.cells #[.slice A l.length c, .int .i64 r, .int .i64 o, .int .u64 q] 26)).trans (hbl.mono (by simp))
    cases st with
    | some st =>
      obtain ⟨rfl, hW⟩ := hy st rfl
      have k5 : w'.cell? ⟨gk, 5, none⟩ = some (.int .i64 (pl : Int)) := hW.hk.cell 5
      clear hy hno hW
      go_wp2_with fail
      go_ret2
      exact ⟨rfl, hbl'⟩
    | none =>
      obtain ⟨rfl, ld, hk⟩ := hno rfl
      have k5 : w'.cell? ⟨gk, 5, none⟩ = some (.int .i64 (pl : Int)) := hk.cell 5
      clear hy hno hk
      go_wp2_with fail
      go_ret2
      exact ⟨rfl, hbl'⟩
end Go.Proofs.Ythbjcafldbocpaa
namespace Go.Proofs.Ythbjcafldbocpaa
open Go.RowKit Go.Proofs.YthbjcafldbocpaaW.PrintWords Go.Proofs.Ythbjcafldbocpaa.P0
set_option linter.unusedVariables false
set_option linter.unusedSimpArgs false
def outsD (rs : List (Option (List UInt8))) : List UInt8 := (rs.map (·.getD [])).flatten
def MatE (w' : World) (base : Nat) (o n : Int) (l : List UInt8) (code : Int) (e : Ending) : Prop := ∃ v b, base ≤ b ∧ e = .returned (.tuple #[.agg #[.int .i64 o, .int .i64 n, v], .int .i64 code]) ∧ OwnV w' b v l
theorem vAll_some {nr no reads n i : Nat} {l : List PS} {st : VS} (h : vAll nr no reads n l = (i, some st)) : (∀ o ∈ st.outs, o.isSome = true) ∧ st.loads = reads := by
  unfold vAll at h
  split at h
  · split at h
    · rename_i hc
      injection h with _ h
      injection h with h
      rw [← h]
      exact hc
    · injection h with _ h; cases h
  · injection h with _ h; cases h
theorem out_row {rs : List (Option (List UInt8))} (h : ∀ o ∈ rs, o.isSome = true) {j : Nat} (hj : j < rs.length) : ∃ x, rs.getD j none = some x ∧ outsD (rs.take (j + 1)) = outsD (rs.take j) ++ x := by
  have h1 := h _ (List.getElem_mem hj)
  obtain ⟨x, hx⟩ := Option.isSome_iff_exists.1 h1
  refine ⟨x, by rw [List.getD_eq_getElem?_getD, List.getElem?_eq_getElem hj]; exact hx, ?_⟩
  unfold outsD
  rw [List.take_succ_eq_append_getElem hj, hx]
  simp
theorem pad_take {x : List UInt8} {n : Nat} (h : x.length = n) : (pad (some x)).take n = x := by
  show (x ++ List.replicate (64 - x.length) 0).take n = x
  rw [List.take_append_of_le_length (by omega), List.take_of_length_le (by omega)]
theorem layAt_all (zs vs : List Value) (h : zs.length = vs.length) : layAt zs 0 vs = vs := by
  unfold layAt
  rw [List.take_zero, List.nil_append, Nat.zero_add, List.drop_eq_nil_of_le (by omega), List.append_nil]
theorem rd_pre {w : World} {g n : Nat} {t : TypeId} {ys : List UInt8} (h : Row w g t (bVs ys)) (hn : n ≤ ys.length) : Rd w w.heap.size (some ⟨g, 0, none⟩) n (bVs (ys.take n)) := by
  refine ⟨by rw [bVs_length, List.length_take]; omega, fun _ => ⟨g, 0, rfl, h.lt, fun j u hu => ?_⟩⟩
  rw [Nat.zero_add, h.cell, ← hu]
  have hj : j < n := by
    rcases Nat.lt_or_ge j n with hlt | hge
    · exact hlt
    · rw [List.getElem?_eq_none (by rw [bVs_length, List.length_take]; omega)] at hu; cases hu
  simp only [bVs, List.getElem?_map, List.getElem?_take, if_pos hj]
theorem own_far2 {w : World} {base g i : Nat} {v : Value} {xs : List UInt8} (h : OwnV w base v xs) (hg : g < base) (u : Value) : OwnV (w.setCell ⟨g, i, none⟩ u) base v xs :=
  h.kept (row := some g) (grown_setCell (p := ⟨g, i, none⟩) (World.grownBy.refl w (some g)) (.inl rfl) u) (.inr (by intro e; have := (World.ownsRow.lt h g e).1; omega))
theorem new_there (w : World) (cs : List Value) (t : TypeId) (n : Nat) (h : n ≤ cs.length) : (w.alloc (.cells cs.toArray t)).there w.heap.size 0 n := by
  intro j hj
  have hr := Row.new w cs t
  refine ⟨?_, hr.frozen _⟩
  rw [hr.cell, List.getElem?_eq_getElem (by omega)]
  rfl
def makesV (l : List S59) (r o q n : Int) : Int × Int × List UInt8 × Int :=
  if n < 0 ∨ 64 < n ∨ mayB l r o = false then (0, 0, [], 2)
  else match vAll r.toNat o.toNat q.toNat n.toNat (l.map psOf) with
    | (_, some st) => (o, n, outsD st.outs, 0)
    | (_, none) => (0, 0, [], 250)
end Go.Proofs.Ythbjcafldbocpaa
namespace Go.Proofs.Ythbjcafldbocpaa
open Go.RowKit Go.Proofs.YthbjcafldbocpaaW.PrintWords Go.Proofs.Ythbjcafldbocpaa.P0
set_option linter.unusedVariables false
set_option linter.unusedSimpArgs false
set_option maxHeartbeats 4000000 in
set_option maxRecDepth 100000 in
theorem makes_yes {w : World} {A : Option Addr} {c : Nat} {l : List S59} {r o q n : Int} (hC : Kd.C k59 w A l.length l) (hc : l.length ≤ c) (hb : ∀ s ∈ l, byteB s.f3 = true) (hq : 0 ≤ q) (hq2 : q < 2 ^ 64) (hn : 0 ≤ n) (hn2 : n ≤ 64) (hm : mayB l r o = true) (st : VS) (i : Nat) (hv : vAll r.toNat o.toNat q.toNat n.toNat (l.map psOf) = (i, some st)) :
    Calls Try.prog 13 #[progV A l.length c r o q, .int .i64 n] w fun e w' => MatE w' w.heap.size o n (outsD st.outs) 0 e ∧ Below w.heap.size w w' := by
  obtain ⟨nn, rfl⟩ : ∃ nn : Nat, n = (nn : Int) := ⟨n.toNat, (Int.toNat_of_nonneg hn).symm⟩
  unfold progV
  have ho0 : 0 ≤ o ∧ o ≤ 64 := by
    unfold mayB at hm
    rw [Bool.and_eq_true, decide_eq_true_eq] at hm
    omega
  go_enter Try.func13, Try.ntmps13
  go_wp2_with fail
  obtain ⟨W1, hW1⟩ : ∃ W1, W1 = (w.alloc (.cells #[.slice A l.length c, .int .i64 r, .int .i64 o, .int .u64 q] 26)).alloc (.cells #[.int .i64 0, .int .i64 0, .slice none 0 0] 37) := ⟨_, rfl⟩
  have q1 : Below w.heap.size w W1 := by rw [hW1]; exact ((Below.refl _ _).alloc (Nat.le_refl _) _).alloc (by simp) _
  have hp : Row W1 w.heap.size 26 [.slice A l.length c, .int .i64 r, .int .i64 o, .int .u64 q] := by rw [hW1]; exact (Row.new w _ _).alloc _
  have hm4 : Row W1 (w.heap.size + 1) 37 [.int .i64 0, .int .i64 0, .slice none 0 0] := by
    rw [hW1]
    have := Row.new (w.alloc (.cells #[.slice A l.length c, .int .i64 r, .int .i64 o, .int .u64 q] 26)) [.int .i64 0, .int .i64 0, .slice none 0 0] 37
    simpa using this
  rw [← hW1]
  clear hW1
  refine (look_all (Kd.C_below hC q1) hc hb hq hq2 hn hn2 hm).mono ?_
  rintro e w' ⟨gk, gr, gs, go, gd, G, hbl, hy, hno⟩
  rw [hv] at hy
  obtain ⟨rfl, hK⟩ := hy st rfl
  clear hno hy
  have hp2 := hp.below hbl hp.lt
  have hm2 := hm4.below hbl hm4.lt
  have p2 : w'.cell? ⟨w.heap.size, 2, none⟩ = some (.int .i64 o) := hp2.cell 2
  have q2 : Below w.heap.size w w' := q1.trans (hbl.mono q1.size)
  have k8 : w'.cell? ⟨gk, 8, none⟩ = some (.slice (some ⟨go, 0, none⟩) o.toNat o.toNat) := hK.hk.cell 8
  have HK := Lib.hid hK
  have HM := Lib.hid hm2
  have HQ := Lib.hid q2
  have hG := hK.ho
  have hok := hK.ok
  clear hp hm4 hp2 hbl q1 k8
  obtain ⟨no, hno⟩ : ∃ no, no = o.toNat := ⟨_, rfl⟩
  have eno : (no : Int) = o := by rw [hno]; exact Int.toNat_of_nonneg ho0.1
  have k8 : (w'.alloc (.cells #[.int .i64 o, .int .i64 (nn : Int), .slice none 0 0] 37)).cell? ⟨gk, 8, none⟩ = some (.slice (some ⟨go, 0, none⟩) no no) := by rw [hno]; exact (hK.hk.alloc _).cell 8
  have hm3 := Row.new w' [.int .i64 o, .int .i64 (nn : Int), .slice none 0 0] 37
  have hg3 := hG.alloc (.cells #[.int .i64 o, .int .i64 (nn : Int), .slice none 0 0] 37)
  have hr3 := hm2.alloc (.cells #[.int .i64 o, .int .i64 (nn : Int), .slice none 0 0] 37)
  have lgm := hm2.lt
  have lgo := hG.lt
  have q3 : Below w.heap.size w (w'.alloc (.cells #[.int .i64 o, .int .i64 (nn : Int), .slice none 0 0] 37)) := q2.alloc q2.size _
  have HM3 := Lib.hid hm3
  have HG3 := Lib.hid hg3
  have HR3 := Lib.hid hr3
  have HQ3 := Lib.hid q3
  have lno : st.outs.length = no := by rw [hok.lo, hno]
  have HOK := Lib.hid hok
  have HNO := Lib.hid hno
  clear hK hm2 hG hok hm3 hg3 hr3 q3 q2 hno
  go_wp2_with fail
  go_loopw [30] (fun v30 wr => ∃ (j : Nat) (v : Value), j ≤ no ∧ v30 = .int .i64 (j : Int) ∧ Row wr w'.heap.size 37 [.int .i64 o, .int .i64 (nn : Int), v] ∧ OwnV wr (w'.heap.size + 1) v (outsD (st.outs.take j)) ∧ (outsD (st.outs.take j)).length = j * nn ∧ Row wr go 87 (bVs (flatR st.outs)) ∧ Row wr (w.heap.size + 1) 37 [.int .i64 0, .int .i64 0, .slice none 0 0] ∧ Below w.heap.size w wr ∧ w'.heap.size + 1 ≤ wr.heap.size) (fun v30 _ => no - (intOf v30).toNat)
  case atStart => exact ⟨0, _, by omega, rfl, HM3.out, OwnV.nil _ _, by simp [outsD], HG3.out, HR3.out, HQ3.out, by simp⟩
  case round =>
    obtain ⟨j, v, hj, rfl, hmm, how, hjl, hgg, hrr, hqq, hss⟩ := hrel
    clear HM3 HG3 HR3 HQ3 k8
    have HMM := Lib.hid hmm
    have HOW := Lib.hid how
    have HGG := Lib.hid hgg
    have HRR := Lib.hid hrr
    have HQQ := Lib.hid hqq
    by_cases hlt : j < no
    · have i0 : (0 : Int) ≤ (j : Int) := by omega
      have i1 : (j : Int) < (no : Int) := by omega
      have so := Short.of_ok' HOK.out (n := (nn : Int).toNat) (by omega)
      have lf : (flatR st.outs).length = no * 64 := by rw [flatR_length so, lno]
      obtain ⟨cs, hcs⟩ : ∃ cs, cs = bVs (seg (flatR st.outs) j) := ⟨_, rfl⟩
      have lcs : cs.length = 64 := by rw [hcs, bVs_length, seg_length lf hlt]
      have z1 : ∀ v ∈ cs, v.oneCell' = true := by intro v hv; rw [hcs] at hv; exact bVs_one hv
      have z2 : (Try.prog.info? 87).map (·.size) = some cs.length := by rw [lcs]; kernel_rfl
      have z3 : Try.prog.underlying 87 = some (.array 64 5) := by kernel_rfl
      have z4 : (Try.prog.info? 87).map (·.size) = some cs.toArray.size := by rw [List.size_toArray]; exact z2
      have hra : wr.rangeAt go (j * 64) cs := by rw [hcs]; exact seg_cells hgg lf hlt
      have HCS := Lib.hid hcs
      have LCZ := Lib.hid (show cs.toArray.size = 64 by rw [List.size_toArray]; exact lcs)
      clear hcs hmm how hgg hrr hqq
      go_wp2_with (first | (refine wpList_load_mid rfl 87 (.tmp 32) rfl go (j * 64) rfl cs _ hra z3 rfl z2 ?_) | (refine wpList_store_mid rfl 87 (.tmp 10) (.tmp 33) rfl wr.heap.size 0 cs.toArray rfl rfl (by rw [LCZ.out]; exact new_there wr _ _ 64 (by decide)) z4 (all_oneCell_toArray z1) ?_; simp only [Act.put, List.setIfInBounds_toArray, List.set_cons_zero, List.set_cons_succ, List.toList_toArray]))
      obtain ⟨zs, hzs⟩ : ∃ zs : List Value, zs = [.int .u8 0, .int .u8 0, .int .u8 0, .int .u8 0, .int .u8 0, .int .u8 0, .int .u8 0, .int .u8 0, .int .u8 0, .int .u8 0, .int .u8 0, .int .u8 0, .int .u8 0, .int .u8 0, .int .u8 0, .int .u8 0, .int .u8 0, .int .u8 0, .int .u8 0, .int .u8 0, .int .u8 0, .int .u8 0, .int .u8 0, .int .u8 0, .int .u8 0, .int .u8 0, .int .u8 0, .int .u8 0, .int .u8 0, .int .u8 0, .int .u8 0, .int .u8 0, .int .u8 0, .int .u8 0, .int .u8 0, .int .u8 0, .int .u8 0, .int .u8 0, .int .u8 0, .int .u8 0, .int .u8 0, .int .u8 0, .int .u8 0, .int .u8 0, .int .u8 0, .int .u8 0, .int .u8 0, .int .u8 0, .int .u8 0, .int .u8 0, .int .u8 0, .int .u8 0, .int .u8 0, .int .u8 0, .int .u8 0, .int .u8 0, .int .u8 0, .int .u8 0, .int .u8 0, .int .u8 0, .int .u8 0, .int .u8 0, .int .u8 0, .int .u8 0] := ⟨_, rfl⟩
      have lzs : zs.length = 64 := by rw [hzs]; rfl
      obtain ⟨W4, hW4⟩ : ∃ W4, W4 = (wr.alloc (.cells zs.toArray 87)).setCells wr.heap.size 0 cs := ⟨_, rfl⟩
      have hrc : Row W4 wr.heap.size 87 cs := by
        have h9 := (Row.new wr zs 87).lay 0 cs (by rw [lcs, lzs]; decide)
        rw [layAt_all _ _ (by rw [lcs, lzs]), ← hW4] at h9
        exact h9
      have e4 : ∀ k, k < wr.heap.size → W4.heap[k]? = wr.heap[k]? := by
        intro k hk
        rw [hW4]
        exact (Go.Proofs.YthbjcafldbocpaaW.PrintWords.setCells_far cs 0 k (by omega)).trans (Below.heap_alloc wr _ k hk)
      have o4 : Below wr.heap.size wr W4 := by
        obtain ⟨g1, g2, g3, g4⟩ := Go.Proofs.YthbjcafldbocpaaW.PrintWords.setCells_same wr.heap.size cs 0 (wr.alloc (.cells zs.toArray 87))
        rw [hW4]
        exact ⟨g1, g2, g3, by rw [g4]; simp, fun k hk => by rw [← hW4]; exact e4 k hk⟩
      rw [← hzs, ← hW4]
      have HRC := Lib.hid hrc
      have HE4 := Lib.hid e4
      have HO4 := Lib.hid o4
      have HALL := Lib.hid (vAll_some hv).1
      clear hzs hW4 lzs hrc e4 o4 hra z1 z2 z3 z4
      obtain ⟨x, hx, hxo⟩ := out_row HALL.out (j := j) (by rw [lno]; exact hlt)
      have lx : x.length = nn := by have := HOK.out.wo j x hx; simpa using this
      have hm4 := HMM.out.below HO4.out HMM.out.lt
      have how4 := HOW.out.below HO4.out
      have hrd : Rd W4 W4.heap.size (some ⟨wr.heap.size, 0, none⟩) nn (bVs x) := by
        have h9 := HRC.out
        rw [HCS.out] at h9
        have h8 := rd_pre h9 (n := nn) (by rw [seg_length lf hlt]; omega)
        rw [seg_flat so (by rw [lno]; exact hlt), hx, pad_take lx] at h8
        exact h8
      have m0 : W4.cell? ⟨w'.heap.size, 2, none⟩ = some v := hm4.cell 2
      have hlo : (outsD (st.outs.take j)).length ≤ 4096 := by rw [hjl]; exact Nat.mul_le_mul (show j ≤ 64 by omega) (show nn ≤ 64 by omega)
      have b4 : w'.heap.size + 1 ≤ W4.heap.size := Nat.le_trans hss HO4.out.size
      have HM4 := Lib.hid hm4
      have HOW4 := Lib.hid how4
      have HRD := Lib.hid hrd
      have n0 : (0 : Int) ≤ (nn : Int) := by omega
      clear hm4 how4 hrd
      refine wp_region_held_drew (S := fun _ => True) (by kernel_rfl) trivial (fun hHeld => ?_)
      refine wpAnyH_take (i := 0) (v := ?_) rfl (by kernel_rfl) (by kernel_rfl) (by kernel_rfl) (fun _ _ _ h => h) (Or.inl ⟨by kernel_rfl, ?_⟩) (by assumption) ?_
      rotate_left
      · (intro w hSw; (try dsimp only at hSw); go_simp; (try with_reducible rfl))
      try simp only [List.getElem_toArray, List.getElem_cons_succ, List.getElem_cons_zero, Act.put, List.setIfInBounds_toArray, List.set_cons_zero, List.set_cons_succ]
      refine wpAnyH_take (i := 2) (v := ?_) rfl (by kernel_rfl) (by kernel_rfl) (by kernel_rfl) (fun _ _ _ h => h) (Or.inl ⟨by kernel_rfl, ?_⟩) (by assumption) ?_
      rotate_left
      · (intro w hSw; (try dsimp only at hSw); go_simp; (try with_reducible rfl))
      try simp only [List.getElem_toArray, List.getElem_cons_succ, List.getElem_cons_zero, Act.put, List.setIfInBounds_toArray, List.set_cons_zero, List.set_cons_succ]
      refine wpAnyH_take (i := 3) (v := ?_) rfl (by kernel_rfl) (by kernel_rfl) (by kernel_rfl) (fun _ _ _ h => h) (Or.inl ⟨by kernel_rfl, ?_⟩) (by assumption) ?_
      rotate_left
      · (intro w hSw; (try dsimp only at hSw); go_simp; (try with_reducible rfl))
      try simp only [List.getElem_toArray, List.getElem_cons_succ, List.getElem_cons_zero, Act.put, List.setIfInBounds_toArray, List.set_cons_zero, List.set_cons_succ]
      refine wpAnyH_ready (rs := [1]) (by kernel_rfl) (by simp) ?_
      refine AllReadyH.cons rfl (fun K hK => ?_) AllReadyH.nil
      go_simp
      refine hK.out _ _ trivial (fun hHeld => ?_)
      clear hK K
      try simp only [List.getElem_toArray, List.getElem_cons_succ, List.getElem_cons_zero, Act.put, List.setIfInBounds_toArray, List.set_cons_zero, List.set_cons_succ]
      refine wpAnyH_ready (rs := [4]) (by kernel_rfl) (by simp) ?_
      refine AllReadyH.cons rfl (fun K hK => ?_) AllReadyH.nil
      refine step_append_rd (.tmp 35) (.tmp 37) rfl rfl (w'.heap.size + 1) v _ x rfl (HOW4.out.drewN 1) _ (some ⟨wr.heap.size, 0, none⟩) nn 64 rfl HRD.out (by omega) b4 ?_
      intro v6 w6 ho6 hg6 hat6
      obtain ⟨A6, c6, rfl, _⟩ := ho6.slice
      generalize hm6 : (outsD (st.outs.take j) ++ x).length = m6 at *
      have HM6 := Lib.hid hm6
      clear hm6
      have hb6 : Below (w'.heap.size + 1) W4.drew w6 := grown_below hg6 b4 (fun k hk => (World.ownsRow.lt HOW4.out k hk).1)
      have hb6' : Below (w'.heap.size + 1) W4 w6 := ⟨hb6.os, hb6.tape, hb6.output, hb6.size, hb6.block⟩
      have hm6r := HM4.out.below hb6' (by omega)
      have c62 : w6.cell? ⟨w'.heap.size, 2, none⟩ = some v := hm6r.cell 2
      have f62 : w6.frozen? ⟨w'.heap.size, 2, none⟩ = false := hm6r.frozen 2
      have HF1 := Lib.hid (hm6r.set 2 (.slice A6 m6 c6))
      have HF2 := Lib.hid (own_far2 (g := w'.heap.size) (i := 2) ho6 (by omega) (.slice A6 m6 c6))
      have HF3 := Lib.hid (((HGG.out.below HO4.out HGG.out.lt).below hb6' (by omega)).far (p := ⟨w'.heap.size, 2, none⟩) (by simp; omega) (.slice A6 m6 c6))
      have HF4 := Lib.hid (((HRR.out.below HO4.out HRR.out.lt).below hb6' (by omega)).far (p := ⟨w'.heap.size, 2, none⟩) (by simp; omega) (.slice A6 m6 c6))
      have HF5 := Lib.hid (show Below w.heap.size w (w6.setCell ⟨w'.heap.size, 2, none⟩ (.slice A6 m6 c6)) from ((HQQ.out.trans (HO4.out.mono HQQ.out.size)).trans (hb6'.mono (by omega))).setCell (by simp; omega) _)
      have HF6 := Lib.hid (show w'.heap.size + 1 ≤ (w6.setCell ⟨w'.heap.size, 2, none⟩ (.slice A6 m6 c6)).heap.size by have := hb6'.size; simp [World.setCell]; omega)
      clear ho6 hg6 hat6 hb6 hb6' hm6r
      refine hK.out _ _ trivial (fun hHeld => ?_)
      clear hK K
      try simp only [List.getElem_toArray, List.getElem_cons_succ, List.getElem_cons_zero, Act.put, List.setIfInBounds_toArray, List.set_cons_zero, List.set_cons_succ]
      refine wpAnyH_take (i := 5) (v := ?_) rfl (by kernel_rfl) (by kernel_rfl) (by kernel_rfl) (fun _ _ _ h => h) (Or.inl ⟨by kernel_rfl, ?_⟩) (by assumption) ?_
      rotate_left
      · (intro w hSw; (try dsimp only at hSw); go_simp; (try with_reducible rfl))
      try simp only [List.getElem_toArray, List.getElem_cons_succ, List.getElem_cons_zero, Act.put, List.setIfInBounds_toArray, List.set_cons_zero, List.set_cons_succ]
      refine wpAnyH_ready (rs := [6]) (by kernel_rfl) (by simp) ?_
      refine AllReadyH.cons rfl (fun K hK => ?_) AllReadyH.nil
      go_simp
      refine hK.out _ _ trivial (fun hHeld => ?_)
      clear hK K
      try simp only [List.getElem_toArray, List.getElem_cons_succ, List.getElem_cons_zero, Act.put, List.setIfInBounds_toArray, List.set_cons_zero, List.set_cons_succ]
      refine wpAnyH_done (by kernel_rfl) ?_ _
      go_wp2_with fail
      go_roundw
      case rel => exact ⟨j + 1, _, by omega, by go_num, HF1.out, by rw [hxo]; exact HF2.out, by rw [hxo, List.length_append, hjl, lx, Nat.add_mul, Nat.one_mul], HF3.out, HF4.out, HF5.out, HF6.out⟩
      case measure => simp [intOf] <;> omega
    · obtain rfl : j = no := by omega
      rw [← lno, List.take_length] at how
      have m0 : wr.cell? ⟨w'.heap.size, 0, none⟩ = some (.int .i64 o) := hmm.cell 0
      have m1 : wr.cell? ⟨w'.heap.size, 1, none⟩ = some (.int .i64 (nn : Int)) := hmm.cell 1
      have m2 : wr.cell? ⟨w'.heap.size, 2, none⟩ = some v := hmm.cell 2
      obtain ⟨c40, c41, c42, f40, f41, f42⟩ := hrr.three
      obtain ⟨Av, cv, rfl, _⟩ := how.slice
      generalize hmv : (outsD st.outs).length = mv at *
      have HMV := Lib.hid hmv
      clear hmv
      have HOWF := Lib.hid how
      have R4 := hrr.set3 (.int .i64 o) (.int .i64 (nn : Int)) (.slice Av mv cv)
      obtain ⟨d0, d1, d2, _, _, _⟩ := R4.three
      have H9 := Lib.hid (own_far2 (i := 2) (own_far2 (i := 1) (own_far2 (i := 0) how (show w.heap.size + 1 < w'.heap.size + 1 by omega) (.int .i64 o)) (show w.heap.size + 1 < w'.heap.size + 1 by omega) (.int .i64 (nn : Int))) (show w.heap.size + 1 < w'.heap.size + 1 by omega) (.slice Av mv cv))
      have H10 := Lib.hid (((hqq.setCell (p := ⟨w.heap.size + 1, 0, none⟩) (by simp) (.int .i64 o)).setCell (p := ⟨w.heap.size + 1, 1, none⟩) (by simp) (.int .i64 (nn : Int))).setCell (p := ⟨w.heap.size + 1, 2, none⟩) (by simp) (.slice Av mv cv))
      clear hmm how hgg hrr hqq
      go_wp2_with fail
      refine bodyPost_ret (v := .tuple #[.agg #[.int .i64 o, .int .i64 (nn : Int), .slice Av mv cv], .int .i64 0]) (by simp [results, Try.results13, go_sem, d0, d1, d2]) rfl ?_
      exact ⟨⟨_, w'.heap.size + 1, by omega, rfl, H9.out⟩, H10.out⟩
end Go.Proofs.Ythbjcafldbocpaa
namespace Go.Proofs.Ythbjcafldbocpaa
open Go.RowKit Go.Proofs.YthbjcafldbocpaaW.PrintWords Go.Proofs.Ythbjcafldbocpaa.P0
set_option linter.unusedVariables false
set_option linter.unusedSimpArgs false
end Go.Proofs.Ythbjcafldbocpaa
namespace Go.Proofs.Ythbjcafldbocpaa
open Go.RowKit Go.Proofs.YthbjcafldbocpaaW.PrintWords Go.Proofs.Ythbjcafldbocpaa.P0
set_option linter.unusedVariables false
set_option linter.unusedSimpArgs false
theorem own_le {w : World} {base n cap : Nat} {A : Option Addr} {xs : List UInt8} (h : OwnB w base A n cap xs) : n ≤ cap := by
  rcases h.2.2 with ⟨h1, h2⟩ | ⟨g, c, cur, hv, hg, hh, h3, _⟩
  · omega
  · simp only [Value.slice.injEq] at hv
    obtain ⟨_, _, rfl⟩ := hv
    exact h3
end Go.Proofs.Ythbjcafldbocpaa
namespace Go.Proofs.Ythbjcafldbocpaa
open Go.RowKit Go.Proofs.YthbjcafldbocpaaW.PrintWords Go.Proofs.Ythbjcafldbocpaa.P0
set_option linter.unusedVariables false
set_option linter.unusedSimpArgs false

section
variable {ra ca cb : Nat} {xs ys : List UInt8}
end
end Go.Proofs.Ythbjcafldbocpaa
namespace Go.Proofs.Ythbjcafldbocpaa
open Go.RowKit Go.Proofs.YthbjcafldbocpaaW.PrintWords Go.Proofs.Ythbjcafldbocpaa.P0
set_option linter.unusedVariables false
set_option linter.unusedSimpArgs false
end Go.Proofs.Ythbjcafldbocpaa
namespace Go.Proofs.Ythbjcafldbocpaa
open Go.RowKit Go.Proofs.YthbjcafldbocpaaW.PrintWords Go.Proofs.Ythbjcafldbocpaa.P0
set_option linter.unusedVariables false
set_option linter.unusedSimpArgs false
end Go.Proofs.Ythbjcafldbocpaa
namespace Go.Proofs.Ythbjcafldbocpaa
open Go.RowKit Go.Proofs.YthbjcafldbocpaaW.PrintWords Go.Proofs.Ythbjcafldbocpaa.P0
set_option linter.unusedVariables false
set_option linter.unusedSimpArgs false
theorem outs_all {st : VS} {nr no n : Nat} (hok : st.Ok nr no n) (h : ∀ o ∈ st.outs, o.isSome = true) : ∀ o ∈ st.outs, ∃ x, o = some x ∧ x.length = n := by
  intro o ho
  obtain ⟨x, hx⟩ := Option.isSome_iff_exists.1 (h o ho)
  obtain ⟨i, hi, rfl⟩ := List.getElem_of_mem ho
  exact ⟨x, hx, hok.wo i x (by rw [List.getD_eq_getElem?_getD, List.getElem?_eq_getElem hi]; simpa using hx)⟩
end Go.Proofs.Ythbjcafldbocpaa
namespace Go.Proofs.Ythbjcafldbocpaa
open Go.RowKit Go.Proofs.YthbjcafldbocpaaW.PrintWords Go.Proofs.Ythbjcafldbocpaa.P0
set_option linter.unusedVariables false
set_option linter.unusedSimpArgs false
end Go.Proofs.Ythbjcafldbocpaa
namespace Go.Proofs.Ythbjcafldbocpaa
open Go.RowKit Go.Proofs.YthbjcafldbocpaaW.PrintWords Go.Proofs.Ythbjcafldbocpaa.P0
set_option linter.unusedVariables false
set_option linter.unusedSimpArgs false
end Go.Proofs.Ythbjcafldbocpaa
namespace Go.Proofs.Ythbjcafldbocpaa
open Go.RowKit Go.Proofs.YthbjcafldbocpaaW.PrintWords Go.Proofs.Ythbjcafldbocpaa.P0
set_option linter.unusedVariables false
set_option linter.unusedSimpArgs false
end Go.Proofs.Ythbjcafldbocpaa
namespace Go.Proofs.Ythbjcafldbocpaa
open Go.RowKit Go.Proofs.YthbjcafldbocpaaW.PrintWords Go.Proofs.Ythbjcafldbocpaa.P0
set_option linter.unusedVariables false
set_option linter.unusedSimpArgs false
end Go.Proofs.Ythbjcafldbocpaa
namespace Go.Proofs.Ythbjcafldbocpaa
open Go.RowKit Go.Proofs.YthbjcafldbocpaaW.PrintWords Go.Proofs.Ythbjcafldbocpaa.P0
set_option linter.unusedVariables false
set_option linter.unusedSimpArgs false
end Go.Proofs.Ythbjcafldbocpaa
namespace Go.Proofs.Ythbjcafldbocpaa
open Go.RowKit Go.Proofs.YthbjcafldbocpaaW.PrintWords Go.Proofs.Ythbjcafldbocpaa.P0
set_option linter.unusedVariables false
set_option linter.unusedSimpArgs false
end Go.Proofs.Ythbjcafldbocpaa
namespace Go.Proofs.Ythbjcafldbocpaa
open Go.RowKit Go.Proofs.YthbjcafldbocpaaW.PrintWords Go.Proofs.Ythbjcafldbocpaa.P0
set_option linter.unusedVariables false
set_option linter.unusedSimpArgs false
theorem vRun_ok {nr no reads n : Nat} : ∀ (l : List PS) (i : Nat) (st : VS) (j : Nat) (st' : VS), st.Ok nr no n → vRun nr no reads n l i st = (j, some st') → st'.Ok nr no n
  | [], i, st, j, st', h, e => by
    unfold vRun at e
    injection e with _ e
    injection e with e
    exact e ▸ h
  | s :: l, i, st, j, st', h, e => by
    unfold vRun at e
    split at e
    · rename_i st1 hs
      exact vRun_ok l (i + 1) st1 j st' (vStep_ok h hs) e
    · cases e
theorem vAll_ok {nr no reads n i : Nat} {l : List PS} {st : VS} (h : vAll nr no reads n l = (i, some st)) : st.Ok nr no n := by
  unfold vAll at h
  split at h
  · rename_i j st' hr
    split at h
    · injection h with _ e
      injection e with e
      exact e ▸ vRun_ok l 0 _ j st' (st0_ok nr no n) hr
    · cases h
  · cases h
end Go.Proofs.Ythbjcafldbocpaa
namespace Go.Proofs.Ythbjcafldbocpaa
open Go.RowKit Go.Proofs.YthbjcafldbocpaaW.PrintWords Go.Proofs.Ythbjcafldbocpaa.P0
set_option linter.unusedVariables false
set_option linter.unusedSimpArgs false
def fiveL : List S59 := [⟨1, 0, 0, 0⟩, ⟨2, 1, 0, 0⟩, ⟨3, 0, 1, 5⟩, ⟨4, 0, 0, 0⟩]
theorem five_check : checkV fiveL 2 1 1 2 = (4, 0) := by decide +kernel
theorem five_may : mayB fiveL 2 1 = true := by decide +kernel
theorem five_run : vAll 2 1 1 2 (fiveL.map psOf) = (4, some ⟨[some [5, 0], some [1, 0]], [some [5, 0]], 1⟩) := by
  rfl
theorem five_bytes : ∀ s ∈ fiveL, byteB s.f3 = true := by decide +kernel
def cs59 (s : S59) : List Value := [.int .u8 s.f0, .int .i64 s.f1, .int .i64 s.f2, .int .u8 s.f3]
theorem fm_get : ∀ (l : List S59) (j i : Nat) (s : S59), l[j]? = some s → i < 4 → (l.flatMap cs59)[j * 4 + i]? = (cs59 s)[i]?
  | [], j, i, s, h, _ => by simp at h
  | x :: l, 0, i, s, h, hi => by
    simp at h
    subst h
    rw [List.flatMap_cons, Nat.zero_mul, Nat.zero_add, List.getElem?_append_left (by simpa [cs59] using hi)]
  | x :: l, j + 1, i, s, h, hi => by
    rw [List.flatMap_cons, List.getElem?_append_right (by simp [cs59]; omega), show (j + 1) * 4 + i - (cs59 x).length = j * 4 + i by simp [cs59]; omega]
    exact fm_get l j i s (by simpa using h) hi
theorem C_of_row {W : World} {g : Nat} {t : TypeId} {l : List S59} (h : Row W g t (l.flatMap cs59)) (hl : l.length ≤ 9223372036854775807) : Kd.C k59 W (some ⟨g, 0, none⟩) l.length l := by
  refine ⟨rfl, hl, fun _ => ⟨⟨g, 0, none⟩, rfl, fun j s hs => ⟨cs59 s, rfl, k59_mk W s, fun i u hu => ?_⟩⟩⟩
  have hi : i < 4 := by
    rcases Nat.lt_or_ge i 4 with h | h
    · exact h
    · rw [List.getElem?_eq_none (by simpa [cs59] using h)] at hu; cases hu
  rw [addr_add, Nat.zero_add, show k59.sz = 4 from rfl, h.cell, fm_get l j i s hs hi]
  exact hu
end Go.Proofs.Ythbjcafldbocpaa
namespace Go.Proofs.Ythbjcafldbocpaa
open Go.RowKit Go.Proofs.YthbjcafldbocpaaW.PrintWords Go.Proofs.Ythbjcafldbocpaa.P0
set_option linter.unusedVariables false
set_option linter.unusedSimpArgs false
theorem five_calls (w : World) : Calls Try.prog 32 #[] w fun e w' => ∃ A c, e = .returned (progV A fiveL.length c 2 1 1) ∧ Kd.C k59 w' A fiveL.length fiveL ∧ fiveL.length ≤ c ∧ Below w.heap.size w w' := by
  have h0 := Row.new w [.slice (some ⟨w.heap.size + 1, 0, none⟩) 4 4, .int .i64 2, .int .i64 1, .int .u64 1] 26
  have h1 := h0.alloc (.cells (fiveL.flatMap cs59).toArray 59)
  have d0 := h1.cell 0
  have d1 := h1.cell 1
  have d2 := h1.cell 2
  have d3 := h1.cell 3
  have h2 := Row.new (w.alloc (.cells [.slice (some ⟨w.heap.size + 1, 0, none⟩) 4 4, .int .i64 2, .int .i64 1, .int .u64 1].toArray 26)) (fiveL.flatMap cs59) 59
  rw [show (w.alloc (.cells [Value.slice (some ⟨w.heap.size + 1, 0, none⟩) 4 4, .int .i64 2, .int .i64 1, .int .u64 1].toArray 26)).heap.size = w.heap.size + 1 by simp] at h2
  have HC := Lib.hid (C_of_row h2 (by decide))
  have HB := Lib.hid (show Below w.heap.size w ((w.alloc (.cells [.slice (some ⟨w.heap.size + 1, 0, none⟩) 4 4, .int .i64 2, .int .i64 1, .int .u64 1].toArray 26)).alloc (.cells (fiveL.flatMap cs59).toArray 59)) from ((Below.refl _ _).alloc (Nat.le_refl _) _).alloc (by simp) _)
  obtain ⟨W2, hW2⟩ : ∃ W2, W2 = (w.alloc (.cells [.slice (some ⟨w.heap.size + 1, 0, none⟩) 4 4, .int .i64 2, .int .i64 1, .int .u64 1].toArray 26)).alloc (.cells (fiveL.flatMap cs59).toArray 59) := ⟨_, rfl⟩
  rw [← hW2] at d0 d1 d2 d3 HC HB
  have HW2 := Lib.hid hW2
  clear hW2 h0 h1 h2
  go_enter Try.func32, Try.ntmps32
  go_wp2_with fail
  have e2 : (w.alloc (.cells #[.slice (some ⟨w.heap.size + 1, 0, none⟩) 4 4, .int .i64 2, .int .i64 1, .int .u64 1] 26)).alloc (.cells #[.int .u8 1, .int .i64 0, .int .i64 0, .int .u8 0, .int .u8 2, .int .i64 1, .int .i64 0, .int .u8 0, .int .u8 3, .int .i64 0, .int .i64 1, .int .u8 5, .int .u8 4, .int .i64 0, .int .i64 0, .int .u8 0] 59) = W2 := HW2.out.symm
  rw [e2]
  simp only [List.getElem?_cons_zero, List.getElem?_cons_succ] at d0 d1 d2 d3
  refine bodyPost_ret (v := progV (some ⟨w.heap.size + 1, 0, none⟩) 4 4 2 1 1) (by simp [progV, results, Try.results32, go_sem, d0, d1, d2, d3]) rfl ?_
  exact ⟨_, 4, rfl, HC.out, by decide, HB.out⟩
end Go.Proofs.Ythbjcafldbocpaa
namespace Go.Proofs.Ythbjcafldbocpaa
open Go.RowKit Go.Proofs.YthbjcafldbocpaaW.PrintWords Go.Proofs.Ythbjcafldbocpaa.P0
set_option linter.unusedVariables false
set_option linter.unusedSimpArgs false
theorem five_makes {w : World} {A : Option Addr} {c : Nat} (hC : Kd.C k59 w A fiveL.length fiveL) (hc : fiveL.length ≤ c) :
    Calls Try.prog 13 #[progV A fiveL.length c 2 1 1, .int .i64 2] w fun e w' => MatE w' w.heap.size 1 2 [5, 0] 0 e ∧ Below w.heap.size w w' :=
  makes_yes hC hc five_bytes (by decide) (by decide) (by decide) (by decide) five_may ⟨[some [5, 0], some [1, 0]], [some [5, 0]], 1⟩ 4 five_run
set_option maxRecDepth 100000 in
set_option maxHeartbeats 1600000 in
theorem anchored25_calls (w : World) : Calls Try.prog 12 #[] w fun e w' => e = .returned (.bool true) ∧ Below w.heap.size w w' := by
  go_enter Try.func12, Try.ntmps12
  go_wp2_with fail
  refine (five_calls w).mono ?_
  rintro e w1 ⟨A, c, rfl, hC, hc, hb1⟩
  go_wp2_with fail
  refine (five_makes hC hc).mono ?_
  rintro e w2 ⟨⟨v, b, hbb, rfl, ho⟩, hb2⟩
  obtain ⟨Av, cv, rfl, hox⟩ := ho.slice
  have ho3 : OwnB w2 b Av 2 cv [5, 0] := hox
  have HB2 := Lib.hid (hb1.trans (hb2.mono hb1.size))
  have HO := Lib.hid ho3
  clear hC hc hb1 hb2 ho hox ho3
  go_wp2_with fail
  have hrow := Row.new w2 [.int .i64 1, .int .i64 2, .slice Av 2 cv] 37
  have hB3 : Below w2.heap.size w2 (w2.alloc (.cells [Value.int .i64 1, .int .i64 2, .slice Av 2 cv].toArray 37)) := (Below.refl _ _).alloc (Nat.le_refl _) _
  obtain ⟨w3, hw3⟩ : ∃ w3, w3 = w2.alloc (.cells [Value.int .i64 1, .int .i64 2, .slice Av 2 cv].toArray 37) := ⟨_, rfl⟩
  rw [← hw3] at hrow hB3
  rw [show w2.alloc (.cells #[Value.int .i64 1, .int .i64 2, .slice Av 2 cv] 37) = w3 from hw3.symm]
  clear hw3
  refine (five_calls w3).mono ?_
  rintro e w4 ⟨A4, c4, rfl, hC4, hc4, hb4⟩
  go_wp2_with fail
  have hck := check_calls (r := 2) (o := 1) (q := 1) (n := 2) hC4 hc4 five_bytes (by decide) (by decide)
  rw [five_check] at hck
  refine hck.mono ?_
  rintro e w5 ⟨rfl, hb5⟩
  have hb35 : Below w3.heap.size w3 w5 := hb4.trans (hb5.mono hb4.size)
  have hr5 := hrow.below hb35 hrow.lt
  obtain ⟨m0, m1, m2, _, _, _⟩ := hr5.three
  have hb25 : Below w2.heap.size w2 w5 := hB3.trans (hb35.mono hB3.size)
  have rd5 : Rd w5 w5.heap.size Av 2 (bVs [5, 0]) := HO.out.rd.go hb25
  have hn : Row (w5.alloc (.cells #[.int .u8 5, .int .u8 0] 5)) w5.heap.size 5 (bVs [5, 0]) := Row.new w5 _ _
  have rb : Rd (w5.alloc (.cells #[.int .u8 5, .int .u8 0] 5)) _ (some ⟨w5.heap.size, 0, none⟩) 2 (bVs [5, 0]) := (RdT.of_row hn).rd
  have ra : Rd (w5.alloc (.cells #[.int .u8 5, .int .u8 0] 5)) _ Av 2 (bVs [5, 0]) := rd5.go ((Below.refl _ _).alloc (Nat.le_refl _) _)
  have HR := Lib.hid ra
  have HRB := Lib.hid rb
  have HBF := Lib.hid (show Below w.heap.size w (w5.alloc (.cells #[.int .u8 5, .int .u8 0] 5)) from (HB2.out.trans (hb25.mono HB2.out.size)).alloc (Nat.le_trans HB2.out.size hb25.size) _)
  clear hC4 hc4 hb4 hck hb5 hb35 hr5 hb25 rd5 hn rb ra hrow hB3
  go_wp2_with fail
  refine (like_self 1 2 Av 2 cv (some ⟨w5.heap.size, 0, none⟩) 2 2 [5, 0] _ HR.out HRB.out).mono ?_
  rintro e w6 ⟨rfl, hb6⟩
  go_wp2_with fail
  go_ret
  exact ⟨rfl, HBF.out.trans (hb6.mono HBF.out.size)⟩
end Go.Proofs.Ythbjcafldbocpaa
namespace Go.Proofs.Ythbjcafldbocpaa
open Go.RowKit Go.Proofs.YthbjcafldbocpaaW.PrintWords Go.Proofs.Ythbjcafldbocpaa.P0
set_option linter.unusedVariables false
set_option linter.unusedSimpArgs false
theorem makes_shape {l : List S59} {r o q n : Int} (h : (makesV l r o q n).2.2.2 = 0) :
    ∃ (st : VS) (no m i : Nat), o = no ∧ n = m ∧ no ≤ 64 ∧ m ≤ 64 ∧ makesV l r o q n = (o, n, outsD st.outs, 0) ∧ (∀ x ∈ st.outs, ∃ y, x = some y ∧ y.length = m) ∧ st.outs.length = no ∧ mayB l r o = true ∧ vAll r.toNat o.toNat q.toNat n.toNat (l.map psOf) = (i, some st) := by
  by_cases hh : n < 0 ∨ 64 < n ∨ mayB l r o = false
  · have e : makesV l r o q n = (0, 0, [], 2) := by unfold makesV; exact if_pos hh
    rw [e] at h
    exact absurd h (by decide)
  · have h' : mayB l r o = true := by
      cases hm : mayB l r o
      · exact absurd (.inr (.inr hm)) hh
      · rfl
    have ho0 : 0 ≤ o ∧ o ≤ 64 := by
      have hm := h'
      unfold mayB at hm
      rw [Bool.and_eq_true, decide_eq_true_eq] at hm
      omega
    have hn0 : 0 ≤ n ∧ n ≤ 64 := by omega
    cases hv : vAll r.toNat o.toNat q.toNat n.toNat (l.map psOf) with
    | mk i st =>
      cases st with
      | none =>
        have e : makesV l r o q n = (0, 0, [], 250) := by unfold makesV; rw [if_neg hh, hv]
        rw [e] at h
        exact absurd h (by decide)
      | some st =>
        have hok : st.Ok r.toNat o.toNat n.toNat := vAll_ok hv
        exact ⟨st, o.toNat, n.toNat, i, (Int.toNat_of_nonneg ho0.1).symm, (Int.toNat_of_nonneg hn0.1).symm, by omega, by omega, by unfold makesV; rw [if_neg hh, hv], outs_all hok (vAll_some hv).1, hok.lo, h', rfl⟩
end Go.Proofs.Ythbjcafldbocpaa
namespace Go.Proofs.Ythbjcafldbocpaa
open Go.RowKit Go.Proofs.YthbjcafldbocpaaW.PrintWords Go.Proofs.Ythbjcafldbocpaa.P0
set_option linter.unusedVariables false
set_option linter.unusedSimpArgs false
theorem vRun_at_any {nr no reads n : Nat} : ∀ (l : List PS) (i i' : Nat) (st : VS) (j : Nat) (st' : VS), vRun nr no reads n l i st = (j, some st') → vRun nr no reads n l i' st = (i' + l.length, some st')
  | [], i, i', st, j, st', e => by
    unfold vRun at e ⊢
    injection e with _ e
    rw [e]
    rfl
  | s :: l, i, i', st, j, st', e => by
    unfold vRun at e ⊢
    split at e
    · rename_i st1 hs
      rw [vRun_at_any l (i + 1) (i' + 1) st1 j st' e, List.length_cons]
      congr 1
      omega
    · cases e
theorem vRun_app {nr no reads n : Nat} : ∀ (l1 l2 : List PS) (i : Nat) (st : VS) (j : Nat) (st' : VS), vRun nr no reads n (l1 ++ l2) i st = (j, some st') → ∃ s1, vRun nr no reads n l1 i st = (i + l1.length, some s1) ∧ vRun nr no reads n l2 (i + l1.length) s1 = (j, some st')
  | [], l2, i, st, j, st', e => ⟨st, rfl, e⟩
  | s :: l1, l2, i, st, j, st', e => by
    rw [List.cons_append] at e
    unfold vRun at e
    split at e
    · rename_i st1 hs
      obtain ⟨s1, h1, h2⟩ := vRun_app l1 l2 (i + 1) st1 j st' e
      refine ⟨s1, ?_, ?_⟩
      · unfold vRun
        rw [hs]
        show vRun nr no reads n l1 (i + 1) st1 = _
        rw [h1, List.length_cons]
        congr 1
        omega
      · rw [List.length_cons, show i + (l1.length + 1) = i + 1 + l1.length by omega]
        exact h2
    · cases e
theorem vRun_join {nr no reads n : Nat} : ∀ (l1 l2 : List PS) (i j : Nat) (st s1 : VS), vRun nr no reads n l1 i st = (j, some s1) → vRun nr no reads n (l1 ++ l2) i st = vRun nr no reads n l2 j s1
  | [], l2, i, j, st, s1, e => by
    unfold vRun at e
    injection e with e1 e2
    injection e2 with e2
    rw [← e1, ← e2]
    rfl
  | s :: l1, l2, i, j, st, s1, e => by
    unfold vRun at e
    split at e
    · rename_i st1 hs
      rw [← vRun_join l1 l2 (i + 1) j st1 s1 e]
      show vRun nr no reads n (s :: (l1 ++ l2)) i st = _
      rw [vRun, hs]
    · cases e
theorem vStep_frame {nr no reads n : Nat} {st st' : VS} {k D S : Nat} {C : UInt8} (hk : k ≠ 4) (h : vStep nr no reads n st k D S C = some st') (O : List (Option (List UInt8))) : vStep nr no reads n { st with outs := O } k D S C = some { st' with outs := O } ∧ st'.outs = st.outs := by
  unfold vStep at h ⊢
  split at h
  · rename_i e1
    split at h
    · rename_i hd
      cases h
      rw [if_pos e1, if_pos hd]
      exact ⟨rfl, rfl⟩
    · cases h
  · rename_i e1
    rw [if_neg e1]
    split at h
    · rename_i e2
      rw [if_pos e2]
      split at h
      · rename_i hc
        cases h
        rw [if_pos hc]
        exact ⟨rfl, rfl⟩
      · cases h
    · rename_i e2
      rw [if_neg e2]
      split at h
      · rename_i e3
        rw [if_pos e3]
        split at h
        · cases h
        · rename_i hds
          rw [if_neg hds]
          split at h
          · rename_i d s hd hs
            cases h
            simp only [hd, hs]
            exact ⟨trivial, trivial⟩
          · cases h
      · rename_i e3
        rw [if_neg e3]
        cases h
        rw [if_neg hk]
        exact ⟨rfl, rfl⟩
theorem vRun_frame {nr no reads n : Nat} : ∀ (l : List PS) (i : Nat) (st : VS) (j : Nat) (st' : VS), (∀ s ∈ l, s.k ≠ 4) → vRun nr no reads n l i st = (j, some st') → ∀ O, vRun nr no reads n l i { st with outs := O } = (j, some { st' with outs := O })
  | [], i, st, j, st', _, e, O => by
    unfold vRun at e ⊢
    injection e with e1 e2
    injection e2 with e2
    rw [e1, e2]
  | s :: l, i, st, j, st', hk, e, O => by
    unfold vRun at e ⊢
    split at e
    · rename_i st1 hs
      rw [(vStep_frame (hk s (by simp)) hs O).1]
      exact vRun_frame l (i + 1) st1 j st' (fun x hx => hk x (by simp [hx])) e O
    · cases e
theorem del_out {nr no reads n j : Nat} {l1 l2 : List PS} {s : PS} {st : VS} (h : vAll nr no reads n (l1 ++ s :: l2) = (j, some st)) (hs : s.k = 4) (hl : ∀ x ∈ l2, x.k ≠ 4) : vAll nr no reads n (l1 ++ l2) = ((l1 ++ l2).length, none) := by
  unfold vAll at h
  split at h
  · rename_i j' st' hr
    obtain ⟨s1, h1, h2⟩ := vRun_app l1 (s :: l2) 0 _ j' st' hr
    have hok1 := vRun_ok l1 0 _ _ s1 (st0_ok nr no n) h1
    rw [Nat.zero_add] at h1 h2
    unfold vRun at h2
    split at h2
    · rename_i s2 hs2
      unfold vStep at hs2
      rw [hs, if_neg (by decide), if_neg (by decide), if_neg (by decide), if_pos rfl] at hs2
      split at hs2
      · rename_i x hx
        split at hs2
        · rename_i hc
          cases hs2
          have h3 := vRun_frame l2 _ _ _ _ hl h2 s1.outs
          have h4 := vRun_at_any l2 (l1.length + 1) l1.length s1 _ _ h3
          refine vAll_no (i := (l1 ++ l2).length) (st := { st' with outs := s1.outs }) ?_ (fun hh => ?_)
          · rw [vRun_join l1 l2 0 _ _ s1 h1, h4, List.length_append]
          · have hlt : s.D < s1.outs.length := by rw [hok1.lo]; exact hc.1
            have h5 := hh.1 _ (List.getElem_mem hlt)
            have h6 := hc.2
            rw [List.getD_eq_getElem?_getD, List.getElem?_eq_getElem hlt, Option.getD_some] at h6
            rw [show ({ st' with outs := s1.outs } : VS).outs[s.D] = s1.outs[s.D] from rfl, h6] at h5
            cases h5
        · cases hs2
      · cases hs2
    · cases h2
  · cases h
theorem vStep_more {nr no reads reads' n : Nat} (hr : ∀ b, reads.testBit b = true → reads'.testBit b = true) {st st' : VS} {k D S : Nat} {C : UInt8} (h : vStep nr no reads n st k D S C = some st') : vStep nr no reads' n st k D S C = some st' := by
  unfold vStep at h ⊢
  split at h
  · rename_i e1
    rw [if_pos e1]
    exact h
  · rename_i e1
    rw [if_neg e1]
    split at h
    · rename_i e2
      rw [if_pos e2]
      split at h
      · rename_i hc
        rw [if_pos ⟨hc.1, hc.2.1, hr _ hc.2.2⟩]
        exact h
      · cases h
    · rename_i e2
      rw [if_neg e2]
      exact h
theorem vRun_more {nr no reads reads' n : Nat} (hr : ∀ b, reads.testBit b = true → reads'.testBit b = true) : ∀ (l : List PS) (i : Nat) (st : VS) (j : Nat) (st' : VS), vRun nr no reads n l i st = (j, some st') → vRun nr no reads' n l i st = (j, some st')
  | [], i, st, j, st', e => e
  | s :: l, i, st, j, st', e => by
    unfold vRun at e ⊢
    split at e
    · rename_i st1 hs
      rw [vStep_more hr hs]
      exact vRun_more hr l (i + 1) st1 j st' e
    · cases e
theorem reads_more {nr no reads n j b : Nat} {l : List PS} {st : VS} (h : vAll nr no reads n l = (j, some st)) : (reads ||| 1 <<< b = reads → vAll nr no (reads ||| 1 <<< b) n l = (j, some st)) ∧ (reads ||| 1 <<< b ≠ reads → vAll nr no (reads ||| 1 <<< b) n l = (j, none)) := by
  refine ⟨fun e => by rw [e]; exact h, fun e => ?_⟩
  unfold vAll at h
  split at h
  · rename_i j' st' hr
    split at h
    · rename_i hc
      injection h with e1 e2
      injection e2 with e2
      subst e1 e2
      exact vAll_no (vRun_more (reads' := reads ||| 1 <<< b) (fun c hcb => by rw [Nat.testBit_or, hcb]; rfl) l 0 _ _ _ hr) (fun hh => e (by rw [← hh.2]; exact hc.2))
    · cases h
  · cases h
end Go.Proofs.Ythbjcafldbocpaa
namespace Go.Proofs.Ythbjcafldbocpaa
open Go.RowKit Go.Proofs.YthbjcafldbocpaaW.PrintWords Go.Proofs.Ythbjcafldbocpaa.P0
set_option linter.unusedVariables false
set_option linter.unusedSimpArgs false
theorem pcopy_calls {w : World} {A : Option Addr} {c : Nat} {l : List S59} {r o q : Int} (hC : Kd.C k59 w A l.length l) (hc : l.length ≤ c) (hl : l.length ≤ 65536) :
    Calls Try.prog 21 #[.agg #[.slice A l.length c, .int .i64 r, .int .i64 o, .int .u64 q]] w fun e w' => ∃ A' c', e = .returned (.agg #[.slice A' l.length c', .int .i64 r, .int .i64 o, .int .u64 q]) ∧ l.length ≤ c' ∧ Kd.R k59 59 w' w.heap.size (fun k => w.heap.size ≤ k ∧ k < w'.heap.size) (.slice A' l.length c') l ∧ Below w.heap.size w w' := by
  refine (recoupref23_Copy.calls A c l r o q l r o q w hC hc ?_).mono ?_
  · unfold recoupref23_Copy.f
    simp
    omega
  · rintro e w' ⟨v, rfl, hv, hb⟩
    obtain ⟨A', c', rfl⟩ := Kd.R_slice hv
    exact ⟨A', c', rfl, (Kd.R_reads' hv).2.1, Kd.R_mono (Kd.R_bound hv) (fun k hk => ⟨hk.2.1, hk.2.2.1⟩), hb⟩
theorem pu_psame_l (l : List S59) (hl : l.length ≤ 65536) (r o q : Int) : ∀ d i, i + d = l.length → Ev (fun k => recoupref23_Same.l0 k (i : Int) l r o q l r o q) true := by
  intro d
  induction d with
  | zero =>
    intro i hi
    refine Ev.step (fun k => ?_) (Ev.now _)
    rw [recoupref23_Same.l0, if_neg (by omega)]
  | succ d ih =>
    intro i hi
    refine Ev.step (fun k => ?_) (ih (i + 1) (by omega))
    rw [recoupref23_Same.l0, if_pos (by omega), if_pos (by omega), if_pos (by omega), if_neg (by simp), w64_succ (by omega)]
theorem pu_psame (l : List S59) (hl : l.length ≤ 65536) (r o q : Int) : Ev (fun k => recoupref23_Same.f k l r o q l r o q) true := by
  refine Ev.congr (f := fun k => recoupref23_Same.j0 k false l r o q l r o q) (fun k => ?_) (Ev.step (fun k => ?_) (pu_psame_l l hl r o q l.length 0 (by omega)))
  · unfold recoupref23_Same.f
    rw [if_pos rfl, if_pos rfl, if_pos rfl]
    simp
  · rw [recoupref23_Same.j0, if_neg (by simp)]
    rfl
theorem psame_calls {w : World} {A A' : Option Addr} {c c' : Nat} {l : List S59} {r o q : Int} (hl : l.length ≤ 65536) (hC : Kd.C k59 w A l.length l) (hc : l.length ≤ c) (hC' : Kd.C k59 w A' l.length l) (hc' : l.length ≤ c') :
    Calls Try.prog 22 #[.agg #[.slice A l.length c, .int .i64 r, .int .i64 o, .int .u64 q], .agg #[.slice A' l.length c', .int .i64 r, .int .i64 o, .int .u64 q]] w fun e w' => e = .returned (.bool true) ∧ Below w.heap.size w w' := by
  obtain ⟨k, h⟩ := (pu_psame l hl r o q).rounds
  exact recoupref23_Same.calls k A c l r o q A' c' l r o q true w hC hc hC' hc' h
theorem check_makes0 (l : List S59) (r o q n : Int) : (checkV l r o q n).2 = (makesV l r o q n).2.2.2 := by
  unfold checkV makesV
  split
  · rfl
  · split <;> (rename_i h; simp [h])
theorem check_sound {l : List S59} {r o q n : Int} (h : (checkV l r o q n).2 = 0) : ∃ (st : VS) (i : Nat), ¬ (n < 0 ∨ 64 < n ∨ mayB l r o = false) ∧ mayB l r o = true ∧ vAll r.toNat o.toNat q.toNat n.toNat (l.map psOf) = (i, some st) := by
  rw [check_makes0] at h
  obtain ⟨st, no, m, i, e1, e2, a1, a2, a3, a4, a5, hm, hv⟩ := makes_shape h
  refine ⟨st, i, ?_, hm, hv⟩
  rw [hm]
  rintro (h | h | h)
  · omega
  · omega
  · cases h
theorem may_part {l l' : List S59} {r o : Int} (h : mayB l r o = true) (hs : ∀ s ∈ l', s ∈ l) (hl : l'.length ≤ l.length) : mayB l' r o = true := by
  unfold mayB at h ⊢
  rw [Bool.and_eq_true, decide_eq_true_eq, List.all_eq_true] at h ⊢
  exact ⟨by omega, fun s hh => h.2 s (hs s hh)⟩
theorem check_del {l : List S59} {r o q n : Int} (h : (checkV l r o q n).2 = 0) {i : Nat} (hi : i < l.length) (hk : l[i].f0 = 4) (hl : ∀ j, i < j → (hj : j < l.length) → l[j].f0 ≠ 4) : checkV (l.eraseIdx i) r o q n = (((l.length - 1 : Nat) : Int), 250) := by
  obtain ⟨st, j, hn, hm, hv⟩ := check_sound h
  have hm2 := may_part (l' := l.eraseIdx i) hm (fun s hs => List.mem_of_mem_eraseIdx hs) (by rw [List.length_eraseIdx]; split <;> omega)
  unfold checkV
  rw [if_neg (by rw [hm2]; rw [hm] at hn; exact hn)]
  have e1 : l.map psOf = (l.take i).map psOf ++ psOf l[i] :: (l.drop (i + 1)).map psOf := by
    rw [← List.map_cons, ← List.map_append, ← List.drop_eq_getElem_cons hi, List.take_append_drop]
  have e2 : (l.eraseIdx i).map psOf = (l.take i).map psOf ++ (l.drop (i + 1)).map psOf := by
    rw [List.eraseIdx_eq_take_drop_succ, List.map_append]
  rw [e1] at hv
  rw [e2, del_out hv (by simp [psOf, hk]) (fun x hx => ?_)]
  · rw [← List.map_append, ← List.eraseIdx_eq_take_drop_succ, List.length_map, List.length_eraseIdx, if_pos hi]
  · obtain ⟨y, hy, rfl⟩ := List.mem_map.1 hx
    obtain ⟨k, hk2, rfl⟩ := List.getElem_of_mem hy
    rw [List.length_drop] at hk2
    rw [List.getElem_drop]
    have h4 := hl (i + 1 + k) (by omega) (by omega)
    have hm3 := hm
    unfold mayB at hm3
    rw [Bool.and_eq_true, List.all_eq_true] at hm3
    have h5 := okS_spec (hm3.2 _ (List.getElem_mem (show i + 1 + k < l.length by omega)))
    show (l[i + 1 + k].f0).toNat ≠ 4
    omega
theorem check_more {l : List S59} {r o n : Int} {q b : Nat} (h : (checkV l r o (q : Int) n).2 = 0) : ((checkV l r o ((q ||| 1 <<< b : Nat) : Int) n).2 = 0 ↔ q ||| 1 <<< b = q) := by
  obtain ⟨st, j, hn, hm, hv⟩ := check_sound h
  rw [Int.toNat_natCast] at hv
  obtain ⟨h1, h2⟩ := reads_more (b := b) hv
  unfold checkV
  rw [if_neg hn, Int.toNat_natCast]
  by_cases e : q ||| 1 <<< b = q
  · rw [h1 e]
    simp [e]
  · rw [h2 e]
    simp [e]
end Go.Proofs.Ythbjcafldbocpaa
namespace Go.Proofs.Ythbjcafldbocpaa
open Go.RowKit Go.Proofs.YthbjcafldbocpaaW.PrintWords Go.Proofs.Ythbjcafldbocpaa.P0
set_option linter.unusedVariables false
set_option linter.unusedSimpArgs false
def ValR (W : World) (v : Value) : Option (List UInt8) → Prop
  | none => True
  | some l => ∃ A c, v = .slice A l.length c ∧ l.length ≤ c ∧ RdT W A l
theorem ValR.keep {W W' : World} {v : Value} {o : Option (List UInt8)} (h : ValR W v o) (hk : ∀ (g : Nat) (cells : Array Value), W.heap[g]? = some (Obj.cells cells 5 (0, 0)) → W'.heap[g]? = W.heap[g]?) : ValR W' v o := by
  cases o with
  | none => exact trivial
  | some l => obtain ⟨g, c, e, hc, hr⟩ := h; exact ⟨g, c, e, hc, hr.keep hk⟩
def ValsR (W : World) (lv : List Value) (rs : List (Option (List UInt8))) : Prop := lv.length = rs.length ∧ ∀ i, i < rs.length → ValR W (lv.getD i undef) (rs.getD i none)
theorem ValsR.keep {W W' : World} {lv : List Value} {rs : List (Option (List UInt8))} (h : ValsR W lv rs) (hk : ∀ (g : Nat) (cells : Array Value), W.heap[g]? = some (Obj.cells cells 5 (0, 0)) → W'.heap[g]? = W.heap[g]?) : ValsR W' lv rs :=
  ⟨h.1, fun i hi => (h.2 i hi).keep hk⟩
theorem ValsR.set {W : World} {lv : List Value} {rs : List (Option (List UInt8))} (h : ValsR W lv rs) (D : Nat) {v : Value} {o : Option (List UInt8)} (hv : ValR W v o) : ValsR W (lv.set D v) (rs.set D o) := by
  refine ⟨by simp [h.1], fun i hi => ?_⟩
  rw [List.length_set] at hi
  rw [set_getD', set_getD', h.1]
  by_cases hc : D = i ∧ D < rs.length
  · rw [if_pos hc, if_pos hc]; exact hv
  · rw [if_neg hc, if_neg hc]; exact h.2 i hi
structure Bank (W : World) (ga gs : Nat) (rs : List (Option (List UInt8))) : Prop where
  la : ∃ lv, Row W ga 35 lv ∧ ValsR W lv rs
  hs : Row W gs 4 (bolVs (somes rs))
theorem Bank.keep {W W' : World} {ga gs : Nat} {rs : List (Option (List UInt8))} (h : Bank W ga gs rs) (ha : W'.heap[ga]? = W.heap[ga]?) (hs : W'.heap[gs]? = W.heap[gs]?) (hk : ∀ (g : Nat) (cells : Array Value), W.heap[g]? = some (Obj.cells cells 5 (0, 0)) → W'.heap[g]? = W.heap[g]?) : Bank W' ga gs rs := by
  obtain ⟨lv, hr, hv⟩ := h.la
  exact ⟨⟨lv, ha.trans hr, hv.keep hk⟩, hs.trans h.hs⟩
theorem Bank.lta {W : World} {ga gs : Nat} {rs : List (Option (List UInt8))} (h : Bank W ga gs rs) : ga < W.heap.size := by obtain ⟨lv, hr, _⟩ := h.la; exact hr.lt
theorem Bank.lts {W : World} {ga gs : Nat} {rs : List (Option (List UInt8))} (h : Bank W ga gs rs) : gs < W.heap.size := h.hs.lt
theorem Bank.ne {W : World} {ga gs : Nat} {rs : List (Option (List UInt8))} (h : Bank W ga gs rs) {ga' gs' : Nat} {rs' : List (Option (List UInt8))} (h' : Bank W ga' gs' rs') : ga ≠ gs' := by
  obtain ⟨lv, hr, _⟩ := h.la
  rintro rfl
  have h2 := h'.hs
  unfold Row at hr h2
  rw [hr] at h2
  injection h2 with h2
  injection h2 with _ e
  exact absurd e (by decide)
theorem Bank.below {W W' : World} {ga gs : Nat} {rs : List (Option (List UInt8))} (h : Bank W ga gs rs) (hb : Below W.heap.size W W') : Bank W' ga gs rs :=
  h.keep (hb.block _ h.lta) (hb.block _ h.lts) (fun g cells hg => hb.block g (heap_lt hg))
theorem heap_of_set (W : World) (p : Addr) (v : Value) (k : Nat) (h : k ≠ p.block) : (W.setCell p v).heap[k]? = W.heap[k]? := Below.heap_setCell W p v k h
theorem Bank.far {W : World} {ga gs : Nat} {rs : List (Option (List UInt8))} (h : Bank W ga gs rs) {p : Addr} {t : TypeId} {ys : List Value} (hr : Row W p.block t ys) (ht : t ≠ 5) (n1 : p.block ≠ ga) (n2 : p.block ≠ gs) (v : Value) : Bank (W.setCell p v) ga gs rs := by
  refine h.keep (heap_of_set W p v _ (Ne.symm n1)) (heap_of_set W p v _ (Ne.symm n2)) (fun g cells hg => heap_of_set W p v _ ?_)
  rintro rfl
  exact absurd (row_type hr hg) ht
theorem Bank.set {W : World} {ga gs : Nat} {rs : List (Option (List UInt8))} (h : Bank W ga gs rs) (D : Nat) {v : Value} {l : List UInt8} (hv : ValR W v (some l)) : Bank ((W.setCell ⟨ga, D, none⟩ v).setCell ⟨gs, D, none⟩ (.bool true)) ga gs (rs.set D (some l)) := by
  obtain ⟨lv, hr, hvs⟩ := h.la
  have hne : ga ≠ gs := h.ne h
  have hk1 : ∀ (g : Nat) (cells : Array Value), W.heap[g]? = some (Obj.cells cells 5 (0, 0)) → (W.setCell ⟨ga, D, none⟩ v).heap[g]? = W.heap[g]? := fun g cells hg => heap_of_set W _ v _ (by rintro rfl; exact absurd (row_type hr hg) (by decide))
  have hk2 : ∀ (g : Nat) (cells : Array Value), W.heap[g]? = some (Obj.cells cells 5 (0, 0)) → ((W.setCell ⟨ga, D, none⟩ v).setCell ⟨gs, D, none⟩ (.bool true)).heap[g]? = W.heap[g]? := fun g cells hg => (heap_of_set _ _ _ _ (by rintro rfl; exact absurd (row_type h.hs hg) (by decide))).trans (hk1 g cells hg)
  refine ⟨⟨lv.set D v, ((hr.set D v).far (p := ⟨gs, D, none⟩) hne (.bool true)), (hvs.set D hv).keep hk2⟩, ?_⟩
  have h2 := (h.hs.far (p := ⟨ga, D, none⟩) (Ne.symm hne) v).set D (.bool true)
  rw [show (bolVs (somes rs)).set D (.bool true) = bolVs ((somes rs).set D true) by rw [bolVs, bolVs, List.map_set], somes_set rs D l] at h2
  exact h2
theorem Bank.row {W : World} {ga gs : Nat} {rs : List (Option (List UInt8))} (h : Bank W ga gs rs) {i : Nat} {l : List UInt8} (hl : rs.getD i none = some l) : ∃ A c, W.cell? ⟨ga, i, none⟩ = some (.slice A l.length c) ∧ l.length ≤ c ∧ RdT W A l := by
  have hi : i < rs.length := by
    rcases Nat.lt_or_ge i rs.length with hh | hh
    · exact hh
    · rw [List.getD_eq_getElem?_getD, List.getElem?_eq_none hh] at hl; cases hl
  obtain ⟨lv, hr, hv⟩ := h.la
  have hlv : i < lv.length := by rw [hv.1]; exact hi
  have h2 := hv.2 i hi
  rw [hl, List.getD_eq_getElem?_getD, List.getElem?_eq_getElem hlv] at h2
  obtain ⟨A, c, e, hc, hrd⟩ := h2
  exact ⟨A, c, by rw [hr.cell, List.getElem?_eq_getElem hlv]; exact congrArg some e, hc, hrd⟩
theorem Bank.any {W : World} {ga gs : Nat} {rs : List (Option (List UInt8))} (h : Bank W ga gs rs) {i : Nat} (hi : i < rs.length) : ∃ v, W.cell? ⟨ga, i, none⟩ = some v := by
  obtain ⟨lv, hr, hv⟩ := h.la
  have hlv : i < lv.length := by rw [hv.1]; exact hi
  exact ⟨lv[i], by rw [hr.cell, List.getElem?_eq_getElem hlv]⟩
def StepsZ (w : World) (B : Nat) (A : Option Addr) (l : List S59) : Prop :=
  0 < l.length → ∃ g o, A = some ⟨g, o, none⟩ ∧ g < B ∧ ∀ i s, l[i]? = some s → w.cell? ⟨g, o + i * 4, none⟩ = some (.int .u8 s.f0) ∧ w.cell? ⟨g, o + i * 4 + 1, none⟩ = some (.int .i64 s.f1) ∧ w.cell? ⟨g, o + i * 4 + 2, none⟩ = some (.int .i64 s.f2) ∧ w.cell? ⟨g, o + i * 4 + 3, none⟩ = some (.int .u8 ((toU s.f3).toNat : Int))
theorem StepsZ.below {w w' : World} {B : Nat} {A : Option Addr} {l : List S59} (h : StepsZ w B A l) (hb : Below B w w') : StepsZ w' B A l := by
  intro hn
  obtain ⟨g, o, e, hg, hc⟩ := h hn
  refine ⟨g, o, e, hg, fun i s hs => ?_⟩
  obtain ⟨h0, h1, h2, h3⟩ := hc i s hs
  exact ⟨(hb.cell (p := ⟨g, o + i * 4, none⟩) hg).trans h0, (hb.cell (p := ⟨g, o + i * 4 + 1, none⟩) hg).trans h1, (hb.cell (p := ⟨g, o + i * 4 + 2, none⟩) hg).trans h2, (hb.cell (p := ⟨g, o + i * 4 + 3, none⟩) hg).trans h3⟩
theorem stepsZ_of {w : World} {A : Option Addr} {l : List S59} (hC : Kd.C k59 w A l.length l) (hb : ∀ s ∈ l, byteB s.f3 = true) : StepsZ w w.heap.size A l := by
  intro hn
  obtain ⟨ad, e, h0, h1, h2, h3⟩ := at_T59 hC 0 (by omega) (by omega)
  obtain ⟨g, o, sp⟩ := ad
  have hsp : sp = none := by
    have h9 : (⟨g, o, sp⟩ : Addr).add (Int.toNat 0 * 4) = ⟨g, o, sp⟩ := by unfold Addr.add; simp
    rw [h9] at h0
    exact spot_of_cell h0
  subst hsp
  refine ⟨g, o, e, ?_, fun i s hs => ?_⟩
  · rw [addr_add] at h0
    exact lt_of_cell h0
  · obtain ⟨hi, rfl⟩ := List.getElem?_eq_some_iff.1 hs
    obtain ⟨ad2, e2, g0, g1, g2, g3⟩ := at_T59 hC (i : Int) (by omega) (by omega)
    rw [e] at e2
    injection e2 with e2
    subst e2
    rw [rd_at hi] at g0 g1 g2 g3
    have hby := hb _ (List.getElem_mem hi)
    generalize l[i] = s at *
    rw [Int.toNat_natCast, addr_add] at g0 g1 g2 g3
    simp only at g0 g1 g2 g3
    rw [toU_of hby]
    exact ⟨g0, g1, g2, g3⟩
theorem Bank.far2 {W : World} {ga gs ga' gs' : Nat} {rs rs' : List (Option (List UInt8))} (h : Bank W ga gs rs) (h' : Bank W ga' gs' rs') (n1 : ga' ≠ ga) (n2 : gs' ≠ gs) (D : Nat) (v u : Value) : Bank ((W.setCell ⟨ga', D, none⟩ v).setCell ⟨gs', D, none⟩ u) ga gs rs := by
  obtain ⟨lv, hr, _⟩ := h'.la
  have e1 : gs' ≠ ga := fun e => h.ne h' e.symm
  have e2 : ga' ≠ gs := h'.ne h
  exact (h.far (p := ⟨ga', D, none⟩) hr (by decide) n1 e2 v).far (p := ⟨gs', D, none⟩) (h'.hs.far (p := ⟨ga', D, none⟩) (Ne.symm (h'.ne h')) v) (by decide) e1 n2 u
structure RSt (w0 W : World) (ga nr no n : Nat) (gp : Nat) (tp : TypeId) (ps : List Value) (st : VS) : Prop where
  ok : st.Ok nr no n
  h1 : Bank W ga (ga + 1) st.regs
  h2 : Bank W (ga + 2) (ga + 3) st.outs
  hq : Below w0.heap.size w0 W
  hp : Row W gp tp ps
  hz : ga + 4 ≤ W.heap.size
  hga : w0.heap.size ≤ ga
  hgp : gp < ga ∨ ga + 4 ≤ gp
section
variable {w0 W W' : World} {ga nr no n gp : Nat} {tp : TypeId} {ps : List Value} {st : VS}
theorem RSt.below (h : RSt w0 W ga nr no n gp tp ps st) (hb : Below W.heap.size W W') : RSt w0 W' ga nr no n gp tp ps st :=
  ⟨h.ok, h.h1.below hb, h.h2.below hb, h.hq.trans (hb.mono h.hq.size), h.hp.below hb h.hp.lt, Nat.le_trans h.hz hb.size, h.hga, h.hgp⟩
theorem RSt.drew (h : RSt w0 W ga nr no n gp tp ps st) : RSt w0 W.drew ga nr no n gp tp ps st := h.below (Below.drew (Below.refl _ _))
theorem RSt.setReg (h : RSt w0 W ga nr no n gp tp ps st) (D : Nat) {v : Value} {l : List UInt8} (hv : ValR W v (some l)) (hl : l.length = n) : RSt w0 ((W.setCell ⟨ga, D, none⟩ v).setCell ⟨ga + 1, D, none⟩ (.bool true)) ga nr no n gp tp ps { st with regs := st.regs.set D (some l) } := by
  have hga := h.hga
  have hgp := h.hgp
  exact ⟨h.ok.set D l hl _, h.h1.set D hv, h.h2.far2 h.h1 (by omega) (by omega) D _ _, (h.hq.setCell (p := ⟨ga, D, none⟩) hga v).setCell (p := ⟨ga + 1, D, none⟩) (by show w0.heap.size ≤ ga + 1; omega) _, (h.hp.far (p := ⟨ga, D, none⟩) (by show gp ≠ ga; omega) v).far (p := ⟨ga + 1, D, none⟩) (by show gp ≠ ga + 1; omega) _, by have := h.hz; simpa [World.setCell] using this, hga, hgp⟩
theorem RSt.made (h : RSt w0 W ga nr no n gp tp ps st) (D : Nat) : RSt w0 (((W.setCell ⟨ga, D, none⟩ (.slice (some ⟨W.heap.size, 0, none⟩) n n)).setCell ⟨ga + 1, D, none⟩ (.bool true)).alloc (.cells (madeCells #[.int .u8 0] n) 5)) ga nr no n gp tp ps { st with regs := st.regs.set D (some (List.replicate n 0)) } := by
  have hz := h.hz
  have hb : Below W.heap.size W (W.alloc (.cells (madeCells #[.int .u8 0] n) 5)) := (Below.refl _ _).alloc (Nat.le_refl _) _
  have h1 := h.below hb
  have hr := row_made_bytes W n
  have hv : ValR (W.alloc (.cells (madeCells #[.int .u8 0] n) 5)) (.slice (some ⟨W.heap.size, 0, none⟩) n n) (some (List.replicate n 0)) := ⟨some ⟨W.heap.size, 0, none⟩, n, by simp, by simp, RdT.of_row hr⟩
  have h2 := h1.setReg D hv (by simp)
  rw [World.setCell_alloc_past (w := W) _ ga D _ (by omega), World.setCell_alloc_past _ (ga + 1) D _ (by simp [World.setCell]; omega)] at h2
  exact h2
end
end Go.Proofs.Ythbjcafldbocpaa
namespace Go.Proofs.Ythbjcafldbocpaa
open Go.RowKit Go.Proofs.YthbjcafldbocpaaW.PrintWords Go.Proofs.Ythbjcafldbocpaa.P0
set_option linter.unusedVariables false
set_option linter.unusedSimpArgs false
set_option maxRecDepth 100000 in
set_option maxHeartbeats 1600000 in
theorem verifyTurned_no {w : World} {A : Option Addr} {c nl : Nat} {r o q n x y : Int} (more : UInt8) (hy : y ≠ 0)
    (H1 : Hid (∀ w1, Below w.heap.size w w1 → Calls Try.prog 10 #[.agg #[.slice A nl c, .int .i64 r, .int .i64 o, .int .u64 q], .int .i64 n] w1 fun e w' => e = .returned (.tuple #[.int .i64 x, .int .i64 y]) ∧ Below w1.heap.size w1 w')) :
    Calls Try.prog 6 #[progV A nl c r o q, .int .i64 n, .int .u8 (more.toNat : Int)] w fun e w' => e = .returned (.bool true) ∧ Below w.heap.size w w' := by
  unfold progV
  have hne : (y != 0) = true := by simpa using hy
  have S := (Cx.start w).box 26 [.slice A nl c, .int .i64 r, .int .i64 o, .int .u64 q]
  go_enter Try.func6, Try.ntmps6
  go_wp2_with fail
  refine (H1.out _ S.below).mono ?_
  rintro e w1 ⟨rfl, hb1⟩
  replace S := S.go hb1
  clear hb1
  go_wp2_with fail
  refine (anchored25_calls _).mono ?_
  rintro e w4 ⟨rfl, hb4⟩
  replace S := S.go hb4
  clear hb4
  go_wp2_with fail
  go_ret
  exact ⟨rfl, S.below⟩
theorem cx_two {w0 w : World} {g1 g2 : Nat} {t1 t2 : TypeId} {c1 c2 : List Value} (hb : Below w0.heap.size w0 w) (r1 : Row w g1 t1 c1) (r2 : Row w g2 t2 c2) : Cx w0 w [(g1, t1, c1), (g2, t2, c2)] [] :=
  ((⟨hb, fun b h => absurd h (by simp), fun b h => absurd h (by simp)⟩ : Cx w0 w [] []).row0 r2).row0 r1
theorem R_own {w' : World} {base n c : Nat} {A : Option Addr} {ok : Nat → Prop} {l : List S59} (h : Kd.R k59 59 w' base ok (.slice A n c) l) (hn : 0 < n) : ∃ g, A = some ⟨g, 0, none⟩ ∧ ok g := by
  obtain ⟨hok, inner, hown, hr⟩ := h
  rcases hown.2 with ⟨hv, _⟩ | ⟨g', cap', cur, hv, hb, hh, _⟩
  · injection hv with _ h2 _
    omega
  · injection hv with h1 _ _
    exact ⟨g', h1, hok g' (by rw [h1]; rfl)⟩
set_option maxRecDepth 100000 in
set_option maxHeartbeats 4000000 in
theorem verifyTurned_yes {w : World} {A : Option Addr} {c : Nat} {l : List S59} {r o n : Int} {q : Nat} (more : UInt8) (hC : Kd.C k59 w A l.length l) (hc : l.length ≤ c) (hb : ∀ s ∈ l, byteB s.f3 = true) (hq2 : q < 2 ^ 64) (h0 : (checkV l r o (q : Int) n).2 = 0) :
    Calls Try.prog 6 #[progV A l.length c r o (q : Int), .int .i64 n, .int .u8 (more.toNat : Int)] w fun e w' => e = .returned (.bool true) ∧ Below w.heap.size w w' := by
  have hl : l.length ≤ 65536 := by
    obtain ⟨st, j, hn, hm, hv⟩ := check_sound h0
    unfold mayB at hm
    rw [Bool.and_eq_true, decide_eq_true_eq] at hm
    omega
  have HCK := Lib.hid (fun w1 (hw : Below w.heap.size w w1) => check_calls (r := r) (o := o) (n := n) (Kd.C_below hC hw) hc hb (Int.natCast_nonneg q) (by omega : (q : Int) < 2 ^ 64))
  have HCP := Lib.hid (fun w1 (hw : Below w.heap.size w w1) => pcopy_calls (r := r) (o := o) (q := (q : Int)) (Kd.C_below hC hw) hc hl)
  obtain ⟨x0, hx0⟩ : ∃ x0, x0 = (checkV l r o (q : Int) n).1 := ⟨_, rfl⟩
  rw [h0, ← hx0] at HCK
  have H0 := Lib.hid h0
  have HC := Lib.hid hC
  have HB := Lib.hid hb
  clear hC hb h0 hx0
  unfold progV
  have S := (Cx.start w).box 26 [.slice A l.length c, .int .i64 r, .int .i64 o, .int .u64 (q : Int)]
  go_enter Try.func6, Try.ntmps6
  go_wp2_with fail
  refine (HCK.out _ S.below).mono ?_
  rintro e w1 ⟨rfl, hb1⟩
  replace S := S.go hb1
  clear hb1
  obtain ⟨c0, c1, c2, c3⟩ := S.cells4 0 rfl
  go_wp2_with fail
  refine (HCP.out _ S.below).mono ?_
  rintro e w2 ⟨A2, k2, rfl, hk2, hR2, hb2⟩
  have hlt0 := S.lt 0 rfl
  replace S := S.go hb2
  have hR3 := Kd.R_alloc hR2 (.cells [Value.slice A2 l.length k2, .int .i64 r, .int .i64 o, .int .u64 (q : Int)].toArray 26)
  replace S := S.box 26 [.slice A2 l.length k2, .int .i64 r, .int .i64 o, .int .u64 (q : Int)]
  have HS := Lib.hid S
  have HR3 := Lib.hid hR3
  have HL2 := Lib.hid hb2.size
  clear hb2 hR2 hR3 c0 c1 c2 c3
  obtain ⟨c0, c1, c2, c3⟩ := S.cells4 0 rfl
  clear S
  go_wp2_with fail
  generalize hW3 : w2.alloc (.cells #[Value.slice A2 l.length k2, .int .i64 r, .int .i64 o, .int .u64 (q : Int)] 26) = W3 at *
  clear hW3
  go_loopw [10] (fun v10 wr => wr = W3 ∧ ∃ j : Nat, j ≤ l.length ∧ v10 = .int .i64 ((j : Int) - 1) ∧ ∀ k, j ≤ k → (hk : k < l.length) → l[k].f0 ≠ 4) (fun v10 _ => (intOf v10 + 1).toNat)
  case atStart => exact ⟨rfl, l.length, Nat.le_refl _, by go_num, fun k h1 h2 => absurd h1 (by omega)⟩
  case round =>
    obtain ⟨hwr, j, hj, rfl, hno⟩ := hrel
    replace hwr := hwr.symm
    subst hwr
    have HNO := Lib.hid hno
    clear hno
    rcases Nat.eq_zero_or_pos j with hj0 | hj0
    · subst hj0
      have HSN := HS
      clear c0 c1 c2 c3
      have HTB := Lib.hid HSN.out.below
      obtain ⟨p0, p1, p2, p3⟩ := HSN.out.cells4 1 rfl
      go_wp2_with fail
      refine (HCP.out _ HTB.out).mono ?_
      rintro e w5 ⟨A5, k5, rfl, hk5, hR5, hb5⟩
      have hC5 := (Kd.R_reads' hR5).2.2
      have S4 := HSN.out.go hb5
      have S5 := S4.box 26 [.slice A5 l.length k5, .int .i64 r, .int .i64 o, .int .u64 (q : Int)]
      have HS4 := Lib.hid S4
      have HC5 := Lib.hid hC5
      have m1 : (more.toNat : Int) % 64 = ((more.toNat % 64 : Nat) : Int) := by omega
      obtain ⟨b, hb⟩ : ∃ b, b = more.toNat % 64 := ⟨_, rfl⟩
      have hb64 : b < 64 := by omega
      have hob := or_bit q b hb64 hq2
      have hcv : ∀ x : World, (convert 5 60 (.int .u8 ((more.toNat : Int) % 64))).run Try.prog x = .ok (.int .u64 (b : Int)) x := by
        intro x
        have hki : Try.prog.intKind 60 = .u64 := by kernel_rfl
        have h9 := run_convert_int (P := Try.prog) x 5 60 .u8 ((more.toNat : Int) % 64) (by kernel_rfl) (by kernel_rfl)
        rw [hki, IntKind.wrap_u64, m1, ← hb, show ((b : Nat) : Int) % 18446744073709551616 = (b : Int) from Int.emod_eq_of_lt (Int.natCast_nonneg _) (by omega)] at h9
        rw [m1, ← hb]
        exact h9
      have HOB := Lib.hid hob
      obtain ⟨c0, c1, c2, c3⟩ := S5.cells4 0 rfl
      have f3 := (S5.row 0 rfl).frozen 3
      have b0 : (0 : Int) ≤ (b : Int) := by omega
      have b1 : (b : Int) < 64 := by omega
      clear hob p0 p1 p2 p3 hR5 hb5 hC5 S5 S4 m1 hb
      go_wp2_with fail
      rw [HOB.out]
      obtain ⟨q', hq'⟩ : ∃ q', q' = q ||| 1 <<< b := ⟨_, rfl⟩
      rw [← hq']
      have S6 := HS4.out.box 26 [.slice A5 l.length k5, .int .i64 r, .int .i64 o, .int .u64 (q' : Int)]
      have C6 := Kd.C_alloc HC5.out (.cells [Value.slice A5 l.length k5, .int .i64 r, .int .i64 o, .int .u64 (q' : Int)].toArray 26)
      have hq'2 : q' < 2 ^ 64 := by rw [hq']; exact Nat.or_lt_two_pow hq2 (by rw [Nat.one_shiftLeft]; exact Nat.pow_lt_pow_right (by decide) hb64)
      have hcm := check_more (b := b) H0.out
      rw [← hq'] at hcm
      have hck := check_calls (r := r) (o := o) (q := (q' : Int)) (n := n) C6 hk5 HB.out (Int.natCast_nonneg _) (by omega)
      obtain ⟨⟨xv, hv⟩, hpv⟩ : ∃ v, v = checkV l r o (q' : Int) n := ⟨_, rfl⟩
      rw [← hpv] at hck hcm
      simp only at hcm
      have g1 : (hv == 0) = decide (q' = q) := by rw [Bool.eq_iff_iff, beq_iff_eq, decide_eq_true_eq]; exact hcm
      have g2 : (((q' : Nat) : Int) == ((q : Nat) : Int)) = decide (q' = q) := by rw [Bool.eq_iff_iff, beq_iff_eq, decide_eq_true_eq]; omega
      obtain ⟨bb, hbb⟩ : ∃ bb, bb = decide (q' = q) := ⟨_, rfl⟩
      rw [← hbb] at g1 g2
      have g3 : (bb == bb) = true := by simp
      have HS6 := Lib.hid S6
      clear hq' hpv hcm hbb S6 C6
      refine hck.mono ?_
      rintro e w7 ⟨rfl, hb7⟩
      have S7 := HS6.out.go hb7
      obtain ⟨n0, n1, n2, n3⟩ := S7.cells4 0 rfl
      obtain ⟨p0, p1, p2, p3⟩ := S7.cells4 2 rfl
      have HS7 := Lib.hid S7.drew
      clear hb7 S7 hck c0 c1 c2 c3 f3 hcv
      go_wp2_with fail
      refine wp_region_held_drew (S := fun x => x.cell? ⟨w5.heap.size, 3, none⟩ = some (.int .u64 (q' : Int)) ∧ x.cell? ⟨w.heap.size, 0, none⟩ = some (.slice A l.length c) ∧ x.cell? ⟨w.heap.size, 1, none⟩ = some (.int .i64 r) ∧ x.cell? ⟨w.heap.size, 2, none⟩ = some (.int .i64 o) ∧ x.cell? ⟨w.heap.size, 3, none⟩ = some (.int .u64 (q : Int))) (by kernel_rfl) ⟨n3, p0, p1, p2, p3⟩ (fun hHeld => ?_)
      refine wpAnyH_ready (rs := [0]) (by kernel_rfl) (by simp) ?_
      refine AllReadyH.cons rfl (fun K hK => ?_) AllReadyH.nil
      go_simp
      refine (anchored25_calls _).mono ?_
      rintro e w8 ⟨rfl, hb8⟩
      have HS8 := Lib.hid (HS7.out.go hb8)
      clear hb8
      refine hK.out _ _ ⟨(HS8.out.cells4 0 rfl).2.2.2, (HS8.out.cells4 2 rfl).1, (HS8.out.cells4 2 rfl).2.1, (HS8.out.cells4 2 rfl).2.2.1, (HS8.out.cells4 2 rfl).2.2.2⟩ (fun hHeld => ?_)
      clear hK K
      try simp only [List.getElem_toArray, List.getElem_cons_succ, List.getElem_cons_zero, Act.put, List.setIfInBounds_toArray, List.set_cons_zero, List.set_cons_succ]
      refine wpAnyH_take (i := 1) (v := ?_) rfl (by kernel_rfl) (by kernel_rfl) (by kernel_rfl) (fun _ _ _ h => h) (Or.inl ⟨by kernel_rfl, ?_⟩) (by assumption) ?_
      rotate_left
      · (intro w hSw; (try dsimp only at hSw); go_simp; (try with_reducible rfl))
      try simp only [List.getElem_toArray, List.getElem_cons_succ, List.getElem_cons_zero, Act.put, List.setIfInBounds_toArray, List.set_cons_zero, List.set_cons_succ]
      refine wpAnyH_take (i := 2) (v := ?_) rfl (by kernel_rfl) (by kernel_rfl) (by kernel_rfl) (fun _ _ _ h => h) (Or.inl ⟨by kernel_rfl, ?_⟩) (by assumption) ?_
      rotate_left
      · (intro w hSw; (try dsimp only at hSw); go_simp; (try with_reducible rfl))
      try simp only [List.getElem_toArray, List.getElem_cons_succ, List.getElem_cons_zero, Act.put, List.setIfInBounds_toArray, List.set_cons_zero, List.set_cons_succ]
      refine wpAnyH_take (i := 3) (v := ?_) rfl (by kernel_rfl) (by kernel_rfl) (by kernel_rfl) (fun _ _ _ h => h) (Or.inl ⟨by kernel_rfl, ?_⟩) (by assumption) ?_
      rotate_left
      · (intro w hSw; (try dsimp only at hSw); go_simp; (try with_reducible rfl))
      try simp only [List.getElem_toArray, List.getElem_cons_succ, List.getElem_cons_zero, Act.put, List.setIfInBounds_toArray, List.set_cons_zero, List.set_cons_succ]
      refine wpAnyH_take (i := 4) (v := ?_) rfl (by kernel_rfl) (by kernel_rfl) (by kernel_rfl) (fun _ _ _ h => h) (Or.inl ⟨by kernel_rfl, ?_⟩) (by assumption) ?_
      rotate_left
      · (intro w hSw; (try dsimp only at hSw); go_simp; (try with_reducible rfl))
      try simp only [List.getElem_toArray, List.getElem_cons_succ, List.getElem_cons_zero, Act.put, List.setIfInBounds_toArray, List.set_cons_zero, List.set_cons_succ]
      refine wpAnyH_take (i := 5) (v := ?_) rfl (by kernel_rfl) (by kernel_rfl) (by kernel_rfl) (fun _ _ _ h => h) (Or.inl ⟨by kernel_rfl, ?_⟩) (by assumption) ?_
      rotate_left
      · (intro w hSw; (try dsimp only at hSw); go_simp; (try with_reducible rfl))
      try simp only [List.getElem_toArray, List.getElem_cons_succ, List.getElem_cons_zero, Act.put, List.setIfInBounds_toArray, List.set_cons_zero, List.set_cons_succ]
      refine wpAnyH_take (i := 6) (v := ?_) rfl (by kernel_rfl) (by kernel_rfl) (by kernel_rfl) (fun _ _ _ h => h) (Or.inl ⟨by kernel_rfl, ?_⟩) (by assumption) ?_
      rotate_left
      · (intro w hSw; (try dsimp only at hSw); go_simp; (try with_reducible rfl))
      try simp only [List.getElem_toArray, List.getElem_cons_succ, List.getElem_cons_zero, Act.put, List.setIfInBounds_toArray, List.set_cons_zero, List.set_cons_succ]
      refine wpAnyH_take (i := 7) (v := ?_) rfl (by kernel_rfl) (by kernel_rfl) (by kernel_rfl) (fun _ _ _ h => h) (Or.inl ⟨by kernel_rfl, ?_⟩) (by assumption) ?_
      rotate_left
      · (intro w hSw; (try dsimp only at hSw); go_simp; (try with_reducible rfl))
      try simp only [List.getElem_toArray, List.getElem_cons_succ, List.getElem_cons_zero, Act.put, List.setIfInBounds_toArray, List.set_cons_zero, List.set_cons_succ]
      refine wpAnyH_take (i := 8) (v := ?_) rfl (by kernel_rfl) (by kernel_rfl) (by kernel_rfl) (fun _ _ _ h => h) (Or.inl ⟨by kernel_rfl, ?_⟩) (by assumption) ?_
      rotate_left
      · (intro w hSw; (try dsimp only at hSw); go_simp; (try with_reducible rfl))
      try simp only [List.getElem_toArray, List.getElem_cons_succ, List.getElem_cons_zero, Act.put, List.setIfInBounds_toArray, List.set_cons_zero, List.set_cons_succ]
      refine wpAnyH_take (i := 9) (v := ?_) rfl (by kernel_rfl) (by kernel_rfl) (by kernel_rfl) (fun _ _ _ h => h) (Or.inl ⟨by kernel_rfl, ?_⟩) (by assumption) ?_
      rotate_left
      · (intro w hSw; (try dsimp only at hSw); go_simp; (try with_reducible rfl))
      try simp only [List.getElem_toArray, List.getElem_cons_succ, List.getElem_cons_zero, Act.put, List.setIfInBounds_toArray, List.set_cons_zero, List.set_cons_succ]
      refine wpAnyH_take (i := 10) (v := ?_) rfl (by kernel_rfl) (by kernel_rfl) (by kernel_rfl) (fun _ _ _ h => h) (Or.inl ⟨by kernel_rfl, ?_⟩) (by assumption) ?_
      rotate_left
      · (intro w hSw; (try dsimp only at hSw); go_simp; (try with_reducible rfl))
      try simp only [List.getElem_toArray, List.getElem_cons_succ, List.getElem_cons_zero, Act.put, List.setIfInBounds_toArray, List.set_cons_zero, List.set_cons_succ]
      refine wpAnyH_take (i := 11) (v := ?_) rfl (by kernel_rfl) (by kernel_rfl) (by kernel_rfl) (fun _ _ _ h => h) (Or.inl ⟨by kernel_rfl, ?_⟩) (by assumption) ?_
      rotate_left
      · (intro w hSw; (try dsimp only at hSw); go_simp; (try with_reducible rfl))
      try simp only [List.getElem_toArray, List.getElem_cons_succ, List.getElem_cons_zero, Act.put, List.setIfInBounds_toArray, List.set_cons_zero, List.set_cons_succ]
      refine wpAnyH_take (i := 12) (v := ?_) rfl (by kernel_rfl) (by kernel_rfl) (by kernel_rfl) (fun _ _ _ h => h) (Or.inl ⟨by kernel_rfl, ?_⟩) (by assumption) ?_
      rotate_left
      · (intro w hSw; (try dsimp only at hSw); go_simp; (try with_reducible rfl))
      try simp only [List.getElem_toArray, List.getElem_cons_succ, List.getElem_cons_zero, Act.put, List.setIfInBounds_toArray, List.set_cons_zero, List.set_cons_succ]
      refine wpAnyH_take (i := 14) (v := ?_) rfl (by kernel_rfl) (by kernel_rfl) (by kernel_rfl) (fun _ _ _ h => h) (Or.inl ⟨by kernel_rfl, ?_⟩) (by assumption) ?_
      rotate_left
      · (intro w hSw; (try dsimp only at hSw); go_simp; (try with_reducible rfl))
      try simp only [List.getElem_toArray, List.getElem_cons_succ, List.getElem_cons_zero, Act.put, List.setIfInBounds_toArray, List.set_cons_zero, List.set_cons_succ]
      refine wpAnyH_ready (rs := [13]) (by kernel_rfl) (by simp) ?_
      refine AllReadyH.cons rfl (fun K hK => ?_) AllReadyH.nil
      go_simp
      refine (HCP.out _ HS8.out.below).mono ?_
      rintro e w9 ⟨A9, k9, rfl, hk9, hR9, hb9⟩
      have HS9 := Lib.hid (HS8.out.go hb9)
      have HC9 := Lib.hid (Kd.R_reads' hR9).2.2
      clear hb9 hR9
      refine hK.out _ _ ⟨(HS9.out.cells4 0 rfl).2.2.2, (HS9.out.cells4 2 rfl).1, (HS9.out.cells4 2 rfl).2.1, (HS9.out.cells4 2 rfl).2.2.1, (HS9.out.cells4 2 rfl).2.2.2⟩ (fun hHeld => ?_)
      clear hK K
      try simp only [List.getElem_toArray, List.getElem_cons_succ, List.getElem_cons_zero, Act.put, List.setIfInBounds_toArray, List.set_cons_zero, List.set_cons_succ]
      refine wpAnyH_ready (rs := [15]) (by kernel_rfl) (by simp) ?_
      refine AllReadyH.cons rfl (fun K hK => ?_) AllReadyH.nil
      go_simp
      refine (psame_calls hl HC9.out hk9 (Kd.C_below HC.out HS9.out.below) hc).mono ?_
      rintro e w10 ⟨rfl, hb10⟩
      have HS10 := Lib.hid (HS9.out.go hb10)
      clear hb10
      refine hK.out _ _ ⟨(HS10.out.cells4 0 rfl).2.2.2, (HS10.out.cells4 2 rfl).1, (HS10.out.cells4 2 rfl).2.1, (HS10.out.cells4 2 rfl).2.2.1, (HS10.out.cells4 2 rfl).2.2.2⟩ (fun hHeld => ?_)
      clear hK K
      try simp only [List.getElem_toArray, List.getElem_cons_succ, List.getElem_cons_zero, Act.put, List.setIfInBounds_toArray, List.set_cons_zero, List.set_cons_succ]
      refine wpAnyH_take (i := 16) (v := ?_) rfl (by kernel_rfl) (by kernel_rfl) (by kernel_rfl) (fun _ _ _ h => h) (Or.inl ⟨by kernel_rfl, ?_⟩) (by assumption) ?_
      rotate_left
      · (intro w hSw; (try dsimp only at hSw); go_simp; (try with_reducible rfl))
      try simp only [List.getElem_toArray, List.getElem_cons_succ, List.getElem_cons_zero, Act.put, List.setIfInBounds_toArray, List.set_cons_zero, List.set_cons_succ]
      refine wpAnyH_take (i := 17) (v := ?_) rfl (by kernel_rfl) (by kernel_rfl) (by kernel_rfl) (fun _ _ _ h => h) (Or.inl ⟨by kernel_rfl, ?_⟩) (by assumption) ?_
      rotate_left
      · (intro w hSw; (try dsimp only at hSw); go_simp; (try with_reducible rfl))
      try simp only [List.getElem_toArray, List.getElem_cons_succ, List.getElem_cons_zero, Act.put, List.setIfInBounds_toArray, List.set_cons_zero, List.set_cons_succ]
      refine wpAnyH_done (by kernel_rfl) ?_ _
      go_wp2_with fail
      go_ret
      exact ⟨rfl, HS10.out.below⟩
    · obtain ⟨i, rfl⟩ : ∃ i, j = i + 1 := ⟨j - 1, by omega⟩
      have ei : (((i + 1 : Nat) : Int) - 1) = (i : Int) := by omega
      rw [ei]
      have i0 : (0 : Int) ≤ (i : Int) := by omega
      have i1 : (i : Int) < (l.length : Int) := by omega
      have d0 : decide ((0 : Int) ≤ (i : Int)) = true := decide_eq_true i0
      have hil : i < l.length := by omega
      obtain ⟨g, rfl, hgb⟩ := R_own HR3.out (by omega)
      have hC3 := (Kd.R_reads' HR3.out).2.2
      obtain ⟨g', oo, e9, _, hst⟩ := stepsZ_of hC3 HB.out (by omega)
      simp only [Option.some.injEq, Addr.mk.injEq, and_true] at e9
      obtain ⟨rfl, rfl⟩ := e9
      obtain ⟨s, hs⟩ : ∃ s, l[i]? = some s := ⟨l[i], List.getElem?_eq_getElem hil⟩
      obtain ⟨s0, _, _, _⟩ := hst i s hs
      have HSI := Lib.hid hs
      have HC3 := Lib.hid hC3
      rw [Nat.zero_add] at s0
      clear hs hst hC3
      by_cases hk : s.f0 = 4
      · have k4 : (s.f0 == 4) = true := by simpa using hk
        have HK := Lib.hid hk
        have f0 := (HS.out.row 0 rfl).frozen 0
        have q1 : i ≤ k2 := by omega
        have q3 : i < l.length := by omega
        obtain ⟨pp, hpp⟩ : ∃ pp, pp = i + 1 := ⟨_, rfl⟩
        have hw : IntKind.i64.wrap ((i : Int) + 1) = (pp : Int) := by rw [IntKind.wrap_i64]; omega
        have q2 : pp ≤ l.length := by omega
        obtain ⟨m, hm⟩ : ∃ m, m = l.length - 1 := ⟨_, rfl⟩
        have hbs : w1.heap.size ≤ W3.drew.heap.size := by have := HL2.out; show w1.heap.size ≤ W3.heap.size; omega
        have hbs0 : w.heap.size ≤ w1.heap.size := by omega
        have hszp : w.heap.size < W3.drew.heap.size := HS.out.lt 1 rfl
        have HB9 := Lib.hid (HS.out.row 0 rfl)
        have HBP := Lib.hid (HS.out.row 1 rfl)
        have HPP := Lib.hid hpp
        have HM := Lib.hid hm
        clear hpp hm
        have HQ3 := Lib.hid (show Below w.heap.size w W3.drew from Below.drew HS.out.below)
        clear hk
        go_upto_region 9 with fail
        go_cut [] from 42 to 52 (fun wx => Cx w wx [(w2.heap.size, 26, [.slice (some ⟨g, 0, none⟩) m k2, .int .i64 r, .int .i64 o, .int .u64 (q : Int)]), (w.heap.size, 26, [.slice A l.length c, .int .i64 r, .int .i64 o, .int .u64 (q : Int)])] [] ∧ Kd.R k59 59 wx w1.heap.size (fun k => w1.heap.size ≤ k ∧ k < w2.heap.size) (.slice (some ⟨g, 0, none⟩) m k2) (l.eraseIdx i))
        case first =>
          refine wp_region_held_drew (S := fun _ => True) (by kernel_rfl) trivial (fun hHeld => ?_)
          refine wpAnyH_take (i := 0) (v := ?_) rfl (by kernel_rfl) (by kernel_rfl) (by kernel_rfl) (fun _ _ _ h => h) (Or.inl ⟨by kernel_rfl, ?_⟩) (by assumption) ?_
          rotate_left
          · (intro w hSw; (try dsimp only at hSw); go_simp; (try with_reducible rfl))
          try simp only [List.getElem_toArray, List.getElem_cons_succ, List.getElem_cons_zero, Act.put, List.setIfInBounds_toArray, List.set_cons_zero, List.set_cons_succ]
          refine wpAnyH_take (i := 2) (v := ?_) rfl (by kernel_rfl) (by kernel_rfl) (by kernel_rfl) (fun _ _ _ h => h) (Or.inl ⟨by kernel_rfl, ?_⟩) (by assumption) ?_
          rotate_left
          · (intro w hSw; (try dsimp only at hSw); go_simp; (try with_reducible rfl))
          try simp only [List.getElem_toArray, List.getElem_cons_succ, List.getElem_cons_zero, Act.put, List.setIfInBounds_toArray, List.set_cons_zero, List.set_cons_succ]
          refine wpAnyH_take (i := 4) (v := ?_) rfl (by kernel_rfl) (by kernel_rfl) (by kernel_rfl) (fun _ _ _ h => h) (Or.inl ⟨by kernel_rfl, ?_⟩) (by assumption) ?_
          rotate_left
          · (intro w hSw; (try dsimp only at hSw); go_simp; (try with_reducible rfl))
          try simp only [List.getElem_toArray, List.getElem_cons_succ, List.getElem_cons_zero, Act.put, List.setIfInBounds_toArray, List.set_cons_zero, List.set_cons_succ]
          refine wpAnyH_take (i := 6) (v := ?_) rfl (by kernel_rfl) (by kernel_rfl) (by kernel_rfl) (fun _ _ _ h => h) (Or.inl ⟨by kernel_rfl, ?_⟩) (by assumption) ?_
          rotate_left
          · (intro w hSw; (try dsimp only at hSw); go_simp; (try with_reducible rfl))
          try simp only [List.getElem_toArray, List.getElem_cons_succ, List.getElem_cons_zero, Act.put, List.setIfInBounds_toArray, List.set_cons_zero, List.set_cons_succ]
          refine wpAnyH_take (i := 7) (v := ?_) rfl (by kernel_rfl) (by kernel_rfl) (by kernel_rfl) (fun _ _ _ h => h) (Or.inl ⟨by kernel_rfl, ?_⟩) (by assumption) ?_
          rotate_left
          · (intro w hSw; (try dsimp only at hSw); go_simp; (try with_reducible rfl))
          try simp only [List.getElem_toArray, List.getElem_cons_succ, List.getElem_cons_zero, Act.put, List.setIfInBounds_toArray, List.set_cons_zero, List.set_cons_succ]
          refine wpAnyH_ready (rs := [1, 5]) (by kernel_rfl) (by simp) ?_
          refine AllReadyH.cons rfl (fun K hK => ?_) (AllReadyH.cons rfl (fun K hK => ?_) AllReadyH.nil)
          · go_simp
            refine hK.out _ _ trivial (fun hHeld => ?_)
            clear hK K
            try simp only [List.getElem_toArray, List.getElem_cons_succ, List.getElem_cons_zero, Act.put, List.setIfInBounds_toArray, List.set_cons_zero, List.set_cons_succ]
            refine wpAnyH_take (i := 3) (v := ?_) rfl (by kernel_rfl) (by kernel_rfl) (by kernel_rfl) (fun _ _ _ h => h) (Or.inl ⟨by kernel_rfl, ?_⟩) (by assumption) ?_
            rotate_left
            · (intro w hSw; (try dsimp only at hSw); go_simp; (try with_reducible rfl))
            try simp only [List.getElem_toArray, List.getElem_cons_succ, List.getElem_cons_zero, Act.put, List.setIfInBounds_toArray, List.set_cons_zero, List.set_cons_succ]
            refine wpAnyH_ready (rs := [5]) (by kernel_rfl) (by simp) ?_
            refine AllReadyH.cons rfl (fun K hK => ?_) AllReadyH.nil
            go_simp
            refine hK.out _ _ trivial (fun hHeld => ?_)
            clear hK K
            try simp only [List.getElem_toArray, List.getElem_cons_succ, List.getElem_cons_zero, Act.put, List.setIfInBounds_toArray, List.set_cons_zero, List.set_cons_succ]
            refine wpAnyH_take (i := 8) (v := ?_) rfl (by kernel_rfl) (by kernel_rfl) (by kernel_rfl) (fun _ _ _ h => h) (Or.inl ⟨by kernel_rfl, ?_⟩) (by assumption) ?_
            rotate_left
            · (intro w hSw; (try dsimp only at hSw); go_simp; (try with_reducible rfl))
            try simp only [List.getElem_toArray, List.getElem_cons_succ, List.getElem_cons_zero, Act.put, List.setIfInBounds_toArray, List.set_cons_zero, List.set_cons_succ]
            generalize hAd : (if k2 = pp then some (⟨g, 0, none⟩ : Addr) else some ⟨g, pp * 4, none⟩) = Ad
            have HAD := Lib.hid hAd
            clear hAd
            refine wpAnyH_ready (rs := [9]) (by kernel_rfl) (by simp) ?_
            refine AllReadyH.cons rfl (fun K hK => ?_) AllReadyH.nil
            refine Kd.R_delete_step k59 (w0 := W3.drew) w1.heap.size (by kernel_rfl) (.tmp 45) (.tmp 50) 22 59 rfl Try.underlying22 (by kernel_rfl) (n := l.length) rfl rfl (by rw [← HAD.out, HPP.out]; split; rfl; rw [Option.map_some, addr_add, Nat.zero_add]; rfl) (by rw [HPP.out]) (Kd.R_drew HR3.out) hil (Below.refl _ _) hbs ?_
            intro w6 hR6 hb6 hg6
            rw [← HM.out] at hR6 ⊢
            have r9 : Row w6 w2.heap.size 26 [.slice (some ⟨g, 0, none⟩) l.length k2, .int .i64 r, .int .i64 o, .int .u64 (q : Int)] := (hg6.block w2.heap.size (show w2.heap.size < W3.drew.heap.size from HS.out.lt 0 rfl) (by intro e; injection e with e; omega)).trans HB9.out
            have rp : Row w6 w.heap.size 26 [.slice A l.length c, .int .i64 r, .int .i64 o, .int .u64 (q : Int)] := (hg6.block w.heap.size hszp (by intro e; injection e with e; omega)).trans HBP.out
            have c6 : w6.cell? ⟨w2.heap.size, 0, none⟩ = some (.slice (some ⟨g, 0, none⟩) l.length k2) := r9.cell 0
            have f6 := r9.frozen 0
            have R7 := Lib.hid (Kd.R_far (p := ⟨w2.heap.size, 0, none⟩) hR6 (fun k hk => by show k ≠ w2.heap.size; omega) (.slice (some ⟨g, 0, none⟩) m k2))
            have B7 := Lib.hid ((HQ3.out.trans ((hb6.mono hbs0))).setCell (p := ⟨w2.heap.size, 0, none⟩) (by show w.heap.size ≤ w2.heap.size; omega) (.slice (some ⟨g, 0, none⟩) m k2))
            have r7 := Lib.hid (r9.set 0 (.slice (some ⟨g, 0, none⟩) m k2))
            have p7 := Lib.hid (rp.far (p := ⟨w2.heap.size, 0, none⟩) (by show w.heap.size ≠ w2.heap.size; omega) (.slice (some ⟨g, 0, none⟩) m k2))
            clear hR6 hb6 hg6 r9 rp
            refine hK.out _ _ trivial (fun hHeld => ?_)
            clear hK K
            try simp only [List.getElem_toArray, List.getElem_cons_succ, List.getElem_cons_zero, Act.put, List.setIfInBounds_toArray, List.set_cons_zero, List.set_cons_succ]
            refine wpAnyH_take (i := 10) (v := ?_) rfl (by kernel_rfl) (by kernel_rfl) (by kernel_rfl) (fun _ _ _ h => h) (Or.inl ⟨by kernel_rfl, ?_⟩) (by assumption) ?_
            rotate_left
            · (intro w hSw; (try dsimp only at hSw); go_simp; (try with_reducible rfl))
            try simp only [List.getElem_toArray, List.getElem_cons_succ, List.getElem_cons_zero, Act.put, List.setIfInBounds_toArray, List.set_cons_zero, List.set_cons_succ]
            refine wpAnyH_ready (rs := [11]) (by kernel_rfl) (by simp) ?_
            refine AllReadyH.cons rfl (fun K hK => ?_) AllReadyH.nil
            go_simp
            refine hK.out _ _ trivial (fun hHeld => ?_)
            clear hK K
            try simp only [List.getElem_toArray, List.getElem_cons_succ, List.getElem_cons_zero, Act.put, List.setIfInBounds_toArray, List.set_cons_zero, List.set_cons_succ]
            refine wpAnyH_done (by kernel_rfl) ?_ _
            go_wp2_with fail
            go_meet
            exact ⟨cx_two B7.out r7.out p7.out, R7.out⟩
          · go_simp
            refine hK.out _ _ trivial (fun hHeld => ?_)
            clear hK K
            try simp only [List.getElem_toArray, List.getElem_cons_succ, List.getElem_cons_zero, Act.put, List.setIfInBounds_toArray, List.set_cons_zero, List.set_cons_succ]
            refine wpAnyH_take (i := 8) (v := ?_) rfl (by kernel_rfl) (by kernel_rfl) (by kernel_rfl) (fun _ _ _ h => h) (Or.inl ⟨by kernel_rfl, ?_⟩) (by assumption) ?_
            rotate_left
            · (intro w hSw; (try dsimp only at hSw); go_simp; (try with_reducible rfl))
            try simp only [List.getElem_toArray, List.getElem_cons_succ, List.getElem_cons_zero, Act.put, List.setIfInBounds_toArray, List.set_cons_zero, List.set_cons_succ]
            refine wpAnyH_ready (rs := [1]) (by kernel_rfl) (by simp) ?_
            refine AllReadyH.cons rfl (fun K hK => ?_) AllReadyH.nil
            go_simp
            refine hK.out _ _ trivial (fun hHeld => ?_)
            clear hK K
            try simp only [List.getElem_toArray, List.getElem_cons_succ, List.getElem_cons_zero, Act.put, List.setIfInBounds_toArray, List.set_cons_zero, List.set_cons_succ]
            refine wpAnyH_take (i := 3) (v := ?_) rfl (by kernel_rfl) (by kernel_rfl) (by kernel_rfl) (fun _ _ _ h => h) (Or.inl ⟨by kernel_rfl, ?_⟩) (by assumption) ?_
            rotate_left
            · (intro w hSw; (try dsimp only at hSw); go_simp; (try with_reducible rfl))
            try simp only [List.getElem_toArray, List.getElem_cons_succ, List.getElem_cons_zero, Act.put, List.setIfInBounds_toArray, List.set_cons_zero, List.set_cons_succ]
            generalize hAd : (if k2 = pp then some (⟨g, 0, none⟩ : Addr) else some ⟨g, pp * 4, none⟩) = Ad
            have HAD := Lib.hid hAd
            clear hAd
            refine wpAnyH_ready (rs := [9]) (by kernel_rfl) (by simp) ?_
            refine AllReadyH.cons rfl (fun K hK => ?_) AllReadyH.nil
            refine Kd.R_delete_step k59 (w0 := W3.drew) w1.heap.size (by kernel_rfl) (.tmp 45) (.tmp 50) 22 59 rfl Try.underlying22 (by kernel_rfl) (n := l.length) rfl rfl (by rw [← HAD.out, HPP.out]; split; rfl; rw [Option.map_some, addr_add, Nat.zero_add]; rfl) (by rw [HPP.out]) (Kd.R_drew HR3.out) hil (Below.refl _ _) hbs ?_
            intro w6 hR6 hb6 hg6
            rw [← HM.out] at hR6 ⊢
            have r9 : Row w6 w2.heap.size 26 [.slice (some ⟨g, 0, none⟩) l.length k2, .int .i64 r, .int .i64 o, .int .u64 (q : Int)] := (hg6.block w2.heap.size (show w2.heap.size < W3.drew.heap.size from HS.out.lt 0 rfl) (by intro e; injection e with e; omega)).trans HB9.out
            have rp : Row w6 w.heap.size 26 [.slice A l.length c, .int .i64 r, .int .i64 o, .int .u64 (q : Int)] := (hg6.block w.heap.size hszp (by intro e; injection e with e; omega)).trans HBP.out
            have c6 : w6.cell? ⟨w2.heap.size, 0, none⟩ = some (.slice (some ⟨g, 0, none⟩) l.length k2) := r9.cell 0
            have f6 := r9.frozen 0
            have R7 := Lib.hid (Kd.R_far (p := ⟨w2.heap.size, 0, none⟩) hR6 (fun k hk => by show k ≠ w2.heap.size; omega) (.slice (some ⟨g, 0, none⟩) m k2))
            have B7 := Lib.hid ((HQ3.out.trans ((hb6.mono hbs0))).setCell (p := ⟨w2.heap.size, 0, none⟩) (by show w.heap.size ≤ w2.heap.size; omega) (.slice (some ⟨g, 0, none⟩) m k2))
            have r7 := Lib.hid (r9.set 0 (.slice (some ⟨g, 0, none⟩) m k2))
            have p7 := Lib.hid (rp.far (p := ⟨w2.heap.size, 0, none⟩) (by show w.heap.size ≠ w2.heap.size; omega) (.slice (some ⟨g, 0, none⟩) m k2))
            clear hR6 hb6 hg6 r9 rp
            refine hK.out _ _ trivial (fun hHeld => ?_)
            clear hK K
            try simp only [List.getElem_toArray, List.getElem_cons_succ, List.getElem_cons_zero, Act.put, List.setIfInBounds_toArray, List.set_cons_zero, List.set_cons_succ]
            refine wpAnyH_take (i := 10) (v := ?_) rfl (by kernel_rfl) (by kernel_rfl) (by kernel_rfl) (fun _ _ _ h => h) (Or.inl ⟨by kernel_rfl, ?_⟩) (by assumption) ?_
            rotate_left
            · (intro w hSw; (try dsimp only at hSw); go_simp; (try with_reducible rfl))
            try simp only [List.getElem_toArray, List.getElem_cons_succ, List.getElem_cons_zero, Act.put, List.setIfInBounds_toArray, List.set_cons_zero, List.set_cons_succ]
            refine wpAnyH_ready (rs := [11]) (by kernel_rfl) (by simp) ?_
            refine AllReadyH.cons rfl (fun K hK => ?_) AllReadyH.nil
            go_simp
            refine hK.out _ _ trivial (fun hHeld => ?_)
            clear hK K
            try simp only [List.getElem_toArray, List.getElem_cons_succ, List.getElem_cons_zero, Act.put, List.setIfInBounds_toArray, List.set_cons_zero, List.set_cons_succ]
            refine wpAnyH_done (by kernel_rfl) ?_ _
            go_wp2_with fail
            go_meet
            exact ⟨cx_two B7.out r7.out p7.out, R7.out⟩
        case rest =>
          obtain ⟨S6, R6⟩ := hcut
          obtain ⟨c0, c1, c2, c3⟩ := S6.cells4 0 rfl
          have hlen : (l.eraseIdx i).length = m := by rw [List.length_eraseIdx, if_pos hil, HM.out]
          have hCd := (Kd.R_reads' R6).2.2
          have hcd := check_calls (c := k2) (r := r) (o := o) (q := (q : Int)) (n := n) hCd (by rw [hlen, HM.out]; omega) (fun s hs => HB.out s (List.mem_of_mem_eraseIdx hs)) (Int.natCast_nonneg _) (by omega)
          rw [check_del H0.out hil (by have := HSI.out; rw [List.getElem?_eq_getElem hil] at this; injection this with this; rw [this]; exact HK.out) (fun j h1 h2 => HNO.out j (by omega) h2), hlen, ← HM.out] at hcd
          have t1 : (((m : Nat) : Int) != ((m : Nat) : Int)) = false := by simp
          have HS6 := Lib.hid S6
          have HCD := Lib.hid hcd
          clear hcd S6 R6 hCd hlen hw
          go_wp2_with fail
          refine HCD.out.mono ?_
          rintro e w6 ⟨rfl, hb6⟩
          have HSN := Lib.hid (HS6.out.go hb6)
          clear hb6 c0 c1 c2 c3
          obtain ⟨c0, c1, c2, c3⟩ := HSN.out.cells4 0 rfl
          have HTB := Lib.hid HSN.out.below
          obtain ⟨p0, p1, p2, p3⟩ := HSN.out.cells4 1 rfl
          go_wp2_with fail
          refine (HCP.out _ HTB.out).mono ?_
          rintro e w5 ⟨A5, k5, rfl, hk5, hR5, hb5⟩
          have hC5 := (Kd.R_reads' hR5).2.2
          have S4 := HSN.out.go hb5
          have S5 := S4.box 26 [.slice A5 l.length k5, .int .i64 r, .int .i64 o, .int .u64 (q : Int)]
          have HS4 := Lib.hid S4
          have HC5 := Lib.hid hC5
          have m1 : (more.toNat : Int) % 64 = ((more.toNat % 64 : Nat) : Int) := by omega
          obtain ⟨b, hb⟩ : ∃ b, b = more.toNat % 64 := ⟨_, rfl⟩
          have hb64 : b < 64 := by omega
          have hob := or_bit q b hb64 hq2
          have hcv : ∀ x : World, (convert 5 60 (.int .u8 ((more.toNat : Int) % 64))).run Try.prog x = .ok (.int .u64 (b : Int)) x := by
            intro x
            have hki : Try.prog.intKind 60 = .u64 := by kernel_rfl
            have h9 := run_convert_int (P := Try.prog) x 5 60 .u8 ((more.toNat : Int) % 64) (by kernel_rfl) (by kernel_rfl)
            rw [hki, IntKind.wrap_u64, m1, ← hb, show ((b : Nat) : Int) % 18446744073709551616 = (b : Int) from Int.emod_eq_of_lt (Int.natCast_nonneg _) (by omega)] at h9
            rw [m1, ← hb]
            exact h9
          have HOB := Lib.hid hob
          obtain ⟨c0, c1, c2, c3⟩ := S5.cells4 0 rfl
          have f3 := (S5.row 0 rfl).frozen 3
          have b0 : (0 : Int) ≤ (b : Int) := by omega
          have b1 : (b : Int) < 64 := by omega
          clear hob p0 p1 p2 p3 hR5 hb5 hC5 S5 S4 m1 hb
          go_wp2_with fail
          rw [HOB.out]
          obtain ⟨q', hq'⟩ : ∃ q', q' = q ||| 1 <<< b := ⟨_, rfl⟩
          rw [← hq']
          have S6 := HS4.out.box 26 [.slice A5 l.length k5, .int .i64 r, .int .i64 o, .int .u64 (q' : Int)]
          have C6 := Kd.C_alloc HC5.out (.cells [Value.slice A5 l.length k5, .int .i64 r, .int .i64 o, .int .u64 (q' : Int)].toArray 26)
          have hq'2 : q' < 2 ^ 64 := by rw [hq']; exact Nat.or_lt_two_pow hq2 (by rw [Nat.one_shiftLeft]; exact Nat.pow_lt_pow_right (by decide) hb64)
          have hcm := check_more (b := b) H0.out
          rw [← hq'] at hcm
          have hck := check_calls (r := r) (o := o) (q := (q' : Int)) (n := n) C6 hk5 HB.out (Int.natCast_nonneg _) (by omega)
          obtain ⟨⟨xv, hv⟩, hpv⟩ : ∃ v, v = checkV l r o (q' : Int) n := ⟨_, rfl⟩
          rw [← hpv] at hck hcm
          simp only at hcm
          have g1 : (hv == 0) = decide (q' = q) := by rw [Bool.eq_iff_iff, beq_iff_eq, decide_eq_true_eq]; exact hcm
          have g2 : (((q' : Nat) : Int) == ((q : Nat) : Int)) = decide (q' = q) := by rw [Bool.eq_iff_iff, beq_iff_eq, decide_eq_true_eq]; omega
          obtain ⟨bb, hbb⟩ : ∃ bb, bb = decide (q' = q) := ⟨_, rfl⟩
          rw [← hbb] at g1 g2
          have g3 : (bb == bb) = true := by simp
          have HS6 := Lib.hid S6
          clear hq' hpv hcm hbb S6 C6
          refine hck.mono ?_
          rintro e w7 ⟨rfl, hb7⟩
          have S7 := HS6.out.go hb7
          obtain ⟨n0, n1, n2, n3⟩ := S7.cells4 0 rfl
          obtain ⟨p0, p1, p2, p3⟩ := S7.cells4 2 rfl
          have HS7 := Lib.hid S7.drew
          clear hb7 S7 hck c0 c1 c2 c3 f3 hcv
          go_wp2_with fail
          refine wp_region_held_drew (S := fun x => x.cell? ⟨w5.heap.size, 3, none⟩ = some (.int .u64 (q' : Int)) ∧ x.cell? ⟨w.heap.size, 0, none⟩ = some (.slice A l.length c) ∧ x.cell? ⟨w.heap.size, 1, none⟩ = some (.int .i64 r) ∧ x.cell? ⟨w.heap.size, 2, none⟩ = some (.int .i64 o) ∧ x.cell? ⟨w.heap.size, 3, none⟩ = some (.int .u64 (q : Int))) (by kernel_rfl) ⟨n3, p0, p1, p2, p3⟩ (fun hHeld => ?_)
          refine wpAnyH_ready (rs := [0]) (by kernel_rfl) (by simp) ?_
          refine AllReadyH.cons rfl (fun K hK => ?_) AllReadyH.nil
          go_simp
          refine (anchored25_calls _).mono ?_
          rintro e w8 ⟨rfl, hb8⟩
          have HS8 := Lib.hid (HS7.out.go hb8)
          clear hb8
          refine hK.out _ _ ⟨(HS8.out.cells4 0 rfl).2.2.2, (HS8.out.cells4 2 rfl).1, (HS8.out.cells4 2 rfl).2.1, (HS8.out.cells4 2 rfl).2.2.1, (HS8.out.cells4 2 rfl).2.2.2⟩ (fun hHeld => ?_)
          clear hK K
          try simp only [List.getElem_toArray, List.getElem_cons_succ, List.getElem_cons_zero, Act.put, List.setIfInBounds_toArray, List.set_cons_zero, List.set_cons_succ]
          refine wpAnyH_take (i := 1) (v := ?_) rfl (by kernel_rfl) (by kernel_rfl) (by kernel_rfl) (fun _ _ _ h => h) (Or.inl ⟨by kernel_rfl, ?_⟩) (by assumption) ?_
          rotate_left
          · (intro w hSw; (try dsimp only at hSw); go_simp; (try with_reducible rfl))
          try simp only [List.getElem_toArray, List.getElem_cons_succ, List.getElem_cons_zero, Act.put, List.setIfInBounds_toArray, List.set_cons_zero, List.set_cons_succ]
          refine wpAnyH_take (i := 2) (v := ?_) rfl (by kernel_rfl) (by kernel_rfl) (by kernel_rfl) (fun _ _ _ h => h) (Or.inl ⟨by kernel_rfl, ?_⟩) (by assumption) ?_
          rotate_left
          · (intro w hSw; (try dsimp only at hSw); go_simp; (try with_reducible rfl))
          try simp only [List.getElem_toArray, List.getElem_cons_succ, List.getElem_cons_zero, Act.put, List.setIfInBounds_toArray, List.set_cons_zero, List.set_cons_succ]
          refine wpAnyH_take (i := 3) (v := ?_) rfl (by kernel_rfl) (by kernel_rfl) (by kernel_rfl) (fun _ _ _ h => h) (Or.inl ⟨by kernel_rfl, ?_⟩) (by assumption) ?_
          rotate_left
          · (intro w hSw; (try dsimp only at hSw); go_simp; (try with_reducible rfl))
          try simp only [List.getElem_toArray, List.getElem_cons_succ, List.getElem_cons_zero, Act.put, List.setIfInBounds_toArray, List.set_cons_zero, List.set_cons_succ]
          refine wpAnyH_take (i := 4) (v := ?_) rfl (by kernel_rfl) (by kernel_rfl) (by kernel_rfl) (fun _ _ _ h => h) (Or.inl ⟨by kernel_rfl, ?_⟩) (by assumption) ?_
          rotate_left
          · (intro w hSw; (try dsimp only at hSw); go_simp; (try with_reducible rfl))
          try simp only [List.getElem_toArray, List.getElem_cons_succ, List.getElem_cons_zero, Act.put, List.setIfInBounds_toArray, List.set_cons_zero, List.set_cons_succ]
          refine wpAnyH_take (i := 5) (v := ?_) rfl (by kernel_rfl) (by kernel_rfl) (by kernel_rfl) (fun _ _ _ h => h) (Or.inl ⟨by kernel_rfl, ?_⟩) (by assumption) ?_
          rotate_left
          · (intro w hSw; (try dsimp only at hSw); go_simp; (try with_reducible rfl))
          try simp only [List.getElem_toArray, List.getElem_cons_succ, List.getElem_cons_zero, Act.put, List.setIfInBounds_toArray, List.set_cons_zero, List.set_cons_succ]
          refine wpAnyH_take (i := 6) (v := ?_) rfl (by kernel_rfl) (by kernel_rfl) (by kernel_rfl) (fun _ _ _ h => h) (Or.inl ⟨by kernel_rfl, ?_⟩) (by assumption) ?_
          rotate_left
          · (intro w hSw; (try dsimp only at hSw); go_simp; (try with_reducible rfl))
          try simp only [List.getElem_toArray, List.getElem_cons_succ, List.getElem_cons_zero, Act.put, List.setIfInBounds_toArray, List.set_cons_zero, List.set_cons_succ]
          refine wpAnyH_take (i := 7) (v := ?_) rfl (by kernel_rfl) (by kernel_rfl) (by kernel_rfl) (fun _ _ _ h => h) (Or.inl ⟨by kernel_rfl, ?_⟩) (by assumption) ?_
          rotate_left
          · (intro w hSw; (try dsimp only at hSw); go_simp; (try with_reducible rfl))
          try simp only [List.getElem_toArray, List.getElem_cons_succ, List.getElem_cons_zero, Act.put, List.setIfInBounds_toArray, List.set_cons_zero, List.set_cons_succ]
          refine wpAnyH_take (i := 8) (v := ?_) rfl (by kernel_rfl) (by kernel_rfl) (by kernel_rfl) (fun _ _ _ h => h) (Or.inl ⟨by kernel_rfl, ?_⟩) (by assumption) ?_
          rotate_left
          · (intro w hSw; (try dsimp only at hSw); go_simp; (try with_reducible rfl))
          try simp only [List.getElem_toArray, List.getElem_cons_succ, List.getElem_cons_zero, Act.put, List.setIfInBounds_toArray, List.set_cons_zero, List.set_cons_succ]
          refine wpAnyH_take (i := 9) (v := ?_) rfl (by kernel_rfl) (by kernel_rfl) (by kernel_rfl) (fun _ _ _ h => h) (Or.inl ⟨by kernel_rfl, ?_⟩) (by assumption) ?_
          rotate_left
          · (intro w hSw; (try dsimp only at hSw); go_simp; (try with_reducible rfl))
          try simp only [List.getElem_toArray, List.getElem_cons_succ, List.getElem_cons_zero, Act.put, List.setIfInBounds_toArray, List.set_cons_zero, List.set_cons_succ]
          refine wpAnyH_take (i := 10) (v := ?_) rfl (by kernel_rfl) (by kernel_rfl) (by kernel_rfl) (fun _ _ _ h => h) (Or.inl ⟨by kernel_rfl, ?_⟩) (by assumption) ?_
          rotate_left
          · (intro w hSw; (try dsimp only at hSw); go_simp; (try with_reducible rfl))
          try simp only [List.getElem_toArray, List.getElem_cons_succ, List.getElem_cons_zero, Act.put, List.setIfInBounds_toArray, List.set_cons_zero, List.set_cons_succ]
          refine wpAnyH_take (i := 11) (v := ?_) rfl (by kernel_rfl) (by kernel_rfl) (by kernel_rfl) (fun _ _ _ h => h) (Or.inl ⟨by kernel_rfl, ?_⟩) (by assumption) ?_
          rotate_left
          · (intro w hSw; (try dsimp only at hSw); go_simp; (try with_reducible rfl))
          try simp only [List.getElem_toArray, List.getElem_cons_succ, List.getElem_cons_zero, Act.put, List.setIfInBounds_toArray, List.set_cons_zero, List.set_cons_succ]
          refine wpAnyH_take (i := 12) (v := ?_) rfl (by kernel_rfl) (by kernel_rfl) (by kernel_rfl) (fun _ _ _ h => h) (Or.inl ⟨by kernel_rfl, ?_⟩) (by assumption) ?_
          rotate_left
          · (intro w hSw; (try dsimp only at hSw); go_simp; (try with_reducible rfl))
          try simp only [List.getElem_toArray, List.getElem_cons_succ, List.getElem_cons_zero, Act.put, List.setIfInBounds_toArray, List.set_cons_zero, List.set_cons_succ]
          refine wpAnyH_take (i := 14) (v := ?_) rfl (by kernel_rfl) (by kernel_rfl) (by kernel_rfl) (fun _ _ _ h => h) (Or.inl ⟨by kernel_rfl, ?_⟩) (by assumption) ?_
          rotate_left
          · (intro w hSw; (try dsimp only at hSw); go_simp; (try with_reducible rfl))
          try simp only [List.getElem_toArray, List.getElem_cons_succ, List.getElem_cons_zero, Act.put, List.setIfInBounds_toArray, List.set_cons_zero, List.set_cons_succ]
          refine wpAnyH_ready (rs := [13]) (by kernel_rfl) (by simp) ?_
          refine AllReadyH.cons rfl (fun K hK => ?_) AllReadyH.nil
          go_simp
          refine (HCP.out _ HS8.out.below).mono ?_
          rintro e w9 ⟨A9, k9, rfl, hk9, hR9, hb9⟩
          have HS9 := Lib.hid (HS8.out.go hb9)
          have HC9 := Lib.hid (Kd.R_reads' hR9).2.2
          clear hb9 hR9
          refine hK.out _ _ ⟨(HS9.out.cells4 0 rfl).2.2.2, (HS9.out.cells4 2 rfl).1, (HS9.out.cells4 2 rfl).2.1, (HS9.out.cells4 2 rfl).2.2.1, (HS9.out.cells4 2 rfl).2.2.2⟩ (fun hHeld => ?_)
          clear hK K
          try simp only [List.getElem_toArray, List.getElem_cons_succ, List.getElem_cons_zero, Act.put, List.setIfInBounds_toArray, List.set_cons_zero, List.set_cons_succ]
          refine wpAnyH_ready (rs := [15]) (by kernel_rfl) (by simp) ?_
          refine AllReadyH.cons rfl (fun K hK => ?_) AllReadyH.nil
          go_simp
          refine (psame_calls hl HC9.out hk9 (Kd.C_below HC.out HS9.out.below) hc).mono ?_
          rintro e w10 ⟨rfl, hb10⟩
          have HS10 := Lib.hid (HS9.out.go hb10)
          clear hb10
          refine hK.out _ _ ⟨(HS10.out.cells4 0 rfl).2.2.2, (HS10.out.cells4 2 rfl).1, (HS10.out.cells4 2 rfl).2.1, (HS10.out.cells4 2 rfl).2.2.1, (HS10.out.cells4 2 rfl).2.2.2⟩ (fun hHeld => ?_)
          clear hK K
          try simp only [List.getElem_toArray, List.getElem_cons_succ, List.getElem_cons_zero, Act.put, List.setIfInBounds_toArray, List.set_cons_zero, List.set_cons_succ]
          refine wpAnyH_take (i := 16) (v := ?_) rfl (by kernel_rfl) (by kernel_rfl) (by kernel_rfl) (fun _ _ _ h => h) (Or.inl ⟨by kernel_rfl, ?_⟩) (by assumption) ?_
          rotate_left
          · (intro w hSw; (try dsimp only at hSw); go_simp; (try with_reducible rfl))
          try simp only [List.getElem_toArray, List.getElem_cons_succ, List.getElem_cons_zero, Act.put, List.setIfInBounds_toArray, List.set_cons_zero, List.set_cons_succ]
          refine wpAnyH_take (i := 17) (v := ?_) rfl (by kernel_rfl) (by kernel_rfl) (by kernel_rfl) (fun _ _ _ h => h) (Or.inl ⟨by kernel_rfl, ?_⟩) (by assumption) ?_
          rotate_left
          · (intro w hSw; (try dsimp only at hSw); go_simp; (try with_reducible rfl))
          try simp only [List.getElem_toArray, List.getElem_cons_succ, List.getElem_cons_zero, Act.put, List.setIfInBounds_toArray, List.set_cons_zero, List.set_cons_succ]
          refine wpAnyH_done (by kernel_rfl) ?_ _
          go_wp2_with fail
          go_ret
          exact ⟨rfl, HS10.out.below⟩
      · have k4 : (s.f0 == 4) = false := by simpa using hk
        have HK := Lib.hid hk
        clear hk
        go_wp2_with fail
        go_roundw
        case rel => exact ⟨by first | trivial | rfl, i, by omega, by go_num, fun k h1 h2 => by
          rcases Nat.lt_or_ge i k with h | h
          · exact HNO.out k (by omega) h2
          · obtain rfl : k = i := by omega
            have := HSI.out
            rw [List.getElem?_eq_getElem h2] at this
            injection this with this
            rw [this]
            exact HK.out⟩
        case measure => simp [intOf] <;> omega
theorem verifyTurned_calls (A : Option Addr) (c : Nat) (l : List S59) (r o q n : Int) (more : UInt8) (w : World) (hC : Kd.C k59 w A l.length l) (hc : l.length ≤ c) (hb : ∀ s ∈ l, byteB s.f3 = true) (hq : 0 ≤ q) (hq2 : q < 2 ^ 64) (h1 : -9223372036854775808 ≤ n) (h2 : n ≤ 9223372036854775807) :
    Calls Try.prog 6 #[progV A l.length c r o q, .int .i64 n, .int .u8 (more.toNat : Int)] w fun e w' => e = .returned (.bool true) ∧ Below w.heap.size w w' := by
  by_cases h : (checkV l r o q n).2 = 0
  · obtain ⟨qq, rfl⟩ : ∃ qq : Nat, q = (qq : Int) := ⟨q.toNat, (Int.toNat_of_nonneg hq).symm⟩
    exact verifyTurned_yes more hC hc hb (by omega) h
  · exact verifyTurned_no more h (Lib.hid fun w1 hw => check_calls (r := r) (o := o) (n := n) (Kd.C_below hC hw) hc hb hq hq2)
end Go.Proofs.Ythbjcafldbocpaa
namespace Go.Proofs.Ythbjcafldbocpaa
open Go.ChangeShapes Go.WideShapes Go.ChangeAt Go.RowKit Go.Joins Go.Proofs.YthbjcafldbocpaaW.PrintWords Go.Proofs.Ythbjcafldbocpaa.P0
set_option linter.unusedVariables false
set_option linter.unusedSimpArgs false
theorem cells_step : Try.prog.cellsOf 59 = 4 := by kernel_rfl
theorem cells_k57 : Try.prog.cellsOf 57 = 1 := by kernel_rfl
theorem cells_int : Try.prog.cellsOf 3 = 1 := by kernel_rfl
theorem cells_u8 : Try.prog.cellsOf 5 = 1 := by kernel_rfl
theorem cells_prog : Try.prog.cellsOf 26 = 4 := by kernel_rfl
theorem byteB_wf {a : Int} (h : (Lit.int .u8 a).wf = true) : byteB a = true := by
  obtain ⟨x, rfl⟩ := u8_of h
  exact byteB_nat x
set_option maxRecDepth 100000 in
theorem step_cells {H : Type} {enc : TypeId × Value → H} {W : World} {n : Nat} {cs : List Value} {x : DataW H × List MemPlace} (h : DataW.trod enc Try.prog W 0 (fun _ => true) true n 59 cs = some x) : ∃ s : S59, cs = cs59 s ∧ byteB s.f3 = true := by
  obtain ⟨y0, y1, y2, y3, m, _, hl, h0, h1, h2, h3⟩ := Go.Joins.trod_struct4 Try.underlying59 h
  rw [cells_step] at hl
  match cs, hl with
  | [c0, c1, c2, c3], _ =>
    have e0 : [c0] = [c0] := rfl
    obtain ⟨a0, q0, _, _⟩ := DataW.trod_int Try.underlying57 h0
    obtain ⟨a1, q1, _, _⟩ := DataW.trod_int Try.underlying3 h1
    obtain ⟨a2, q2, _, _⟩ := DataW.trod_int Try.underlying3 h2
    obtain ⟨a3, q3, _, w3⟩ := DataW.trod_int Try.underlying5 h3
    simp [cells_k57, cells_int, cells_u8] at q0 q1 q2 q3
    subst q0 q1 q2 q3
    exact ⟨⟨a0, a1, a2, a3⟩, rfl, byteB_wf w3⟩
instance : Inhabited S59 := ⟨z59⟩
theorem steps_field {H : Type} {enc : TypeId × Value → H} {W : World} {fuel : Nat} {v : Value} {y : DataW H × List MemPlace}
    (hf : DataW.trod enc Try.prog W 0 (fun _ => true) true fuel 22 [v] = some y) :
    ∃ (a : Option Addr) (cap : Nat) (l : List S59), v = .slice a l.length cap ∧ Kd.C k59 W a l.length l ∧ l.length ≤ cap ∧ ∀ s ∈ l, byteB s.f3 = true := by
  rcases Go.Deep.open_slice Try.underlying22 hf with ⟨hcs, _⟩ | ⟨a, len, cap, m, n, D, Pl, hcs, _, hl, hm, hmm, _, hx⟩
  · simp at hcs
    exact ⟨none, 0, [], hcs, ⟨rfl, by simp, fun h => absurd h (by simp)⟩, Nat.le_refl _, fun s hs => by cases hs⟩
  · simp at hcs
    subst hcs
    have hlm : len ≤ m := by simp at hmm; omega
    obtain ⟨f, hf2⟩ := Go.Deep.choose_lt (α := S59) (n := len) (p := fun i s => (∀ j u, (cs59 s)[j]? = some u → W.cell? (a.add (i * 4 + j)) = some u) ∧ byteB s.f3 = true) (fun i hi => by
      obtain ⟨cs', h1, h2⟩ := hx i (by omega)
      obtain ⟨s, rfl, hb⟩ := step_cells h2
      rw [cells_step] at h1
      obtain ⟨_, _, h3⟩ := World.cells?_some h1
      refine ⟨s, fun j u hu => ?_, hb⟩
      have hj : j < 4 := by
        rcases Nat.lt_or_ge j 4 with h | h
        · exact h
        · rw [List.getElem?_eq_none (by simpa [cs59] using h)] at hu; cases hu
      rw [← Go.Deep.add_add, h3 j hj, hu])
    refine ⟨some a, cap, (List.range len).map f, by simp, ⟨rfl, by simp; have : cap ≤ 9223372036854775807 := hm; omega, fun _ => ⟨a, rfl, fun j p hp => ?_⟩⟩, by simpa using hl, fun s hs => ?_⟩
    · rw [List.getElem?_map] at hp
      obtain ⟨j2, hj2, rfl⟩ := Option.map_eq_some_iff.1 hp
      obtain ⟨hjl, rfl⟩ := List.getElem?_eq_some_iff.1 hj2
      rw [List.length_range] at hjl
      simp only [List.getElem_range]
      exact ⟨cs59 (f j), rfl, k59_mk W (f j), fun i u hu => (hf2 j hjl).1 i u hu⟩
    · obtain ⟨j, hj, rfl⟩ := List.mem_map.1 hs
      exact (hf2 j (List.mem_range.1 hj)).2
set_option maxRecDepth 100000 in
theorem open_program {H : Type} {enc : TypeId × Value → H} {W : World} {r : Reach} {b0 : Nat} {v : Value} {d : DataW H} {p : List MemPlace}
    (hv : Value.okWide Try.prog W r b0 26 v) (h : DataW.Trod enc Try.prog W 0 (fun _ => true) true 26 v d p) :
    ∃ (a : Option Addr) (cap : Nat) (l : List S59) (rr oo qq : Int), v = progV a l.length cap rr oo qq ∧ Kd.C k59 W a l.length l ∧ l.length ≤ cap ∧ (∀ s ∈ l, byteB s.f3 = true) ∧ 0 ≤ qq ∧ qq < 2 ^ 64 := by
  obtain ⟨v0, v1, v2, v3, y0, y1, y2, y3, m, rfl, _, _, t0, t1, t2, t3⟩ := Go.Joins.open_agg4 Try.underlying26 (by kernel_rfl) cells_prog hv h
  obtain ⟨a, cap, l, rfl, hC, hl, hb⟩ := steps_field t0
  obtain ⟨rr, e1, _, _⟩ := DataW.trod_int Try.underlying3 t1
  obtain ⟨oo, e2, _, _⟩ := DataW.trod_int Try.underlying3 t2
  obtain ⟨qq, e3, _, w3⟩ := DataW.trod_int Try.underlying24 t3
  simp at e1 e2 e3
  subst e1 e2 e3
  have hq : 0 ≤ qq ∧ qq < 2 ^ 64 := by
    have := bounds_u64 w3
    omega
  exact ⟨a, cap, l, rr, oo, qq, rfl, hC, hl, hb, hq.1, hq.2⟩
end Go.Proofs.Ythbjcafldbocpaa
namespace Go.Proofs.Ythbjcafldbocpaa.verifyTurned
open Go.ChangeShapes Go.WideShapes Go.ChangeAt Go.RowKit

set_option linter.unusedVariables false

set_option maxRecDepth 100000 in
theorem lifted (os : Os) (started : os.Started) (H : Type) (enc : TypeId × Value → H) :
    ReturnsInHanded {} Try.checked os 6 .any (Rows.verifyTurnedSpec.pre6 enc Try.prog Try.f6 Rows.verifyTurnedRow.domain false) (Rows.verifyTurnedSpec.post enc Try.prog Try.f6 false true false false) := by
  refine returnsInHanded_of_change_sized (C := Try.checked) own_knob started (by kernel_rfl) Try.func6
    (ChangeSpec.witness6 (enc := enc) (C := Try.checked) false ⟨#[], #[.agg #[.slice none 0 0, .int .i64 0, .int .i64 0, .int .u64 0], .int .i64 0, .int .u8 0], []⟩ 8 (by kernel_rfl) (by kernel_rfl) (by kernel_rfl) (by kernel_rfl)) ?_
  intro W base args ds gs before hval0 hW hcnd hsz0 _
  have hsz : (DataW.weightsEach Try.prog (Try.f6.params.toList ++ Rows.verifyTurnedSpec.plain.varTypes Try.prog) (ds ++ gs)).all (· ≤ reachBytes) = true := hsz0
  have hval : ∀ (j : Nat) t v, Try.f6.params[j]? = some t → args[j]? = some v → Value.okWide Try.prog W .any base t v := hval0
  have hW' := hW
  obtain ⟨p, q, hA0, hV, rfl, hfz, hnd⟩ := hW
  have hA : DataW.TrodAll enc Try.prog W 0 (fun _ => true) true Try.f6.params.toList args.toList ds p := hA0
  rw [Try.params6] at hA hval hsz
  obtain ⟨v0, vs0, d0, ds0, p0, q0, hargs, rfl, rfl, h0, r0⟩ := trodAll_cons hA
  obtain ⟨v1, vs1, d1, ds1, p1, q1, rfl, rfl, rfl, h1, r1⟩ := trodAll_cons r0
  obtain ⟨v2, vs2, d2, ds2, p2, q2, rfl, rfl, rfl, h2, r2⟩ := trodAll_cons r1
  obtain ⟨rfl, rfl, rfl⟩ := trodAll_nil r2
  obtain rfl : args = #[v0, v1, v2] := by cases args; simp_all
  obtain ⟨rfl, rfl⟩ := trodVars_none hV
  have k0 := h0
  have lt0 : ∀ x ∈ p0, x.block < W.heap.size := by obtain ⟨m, hm⟩ := k0; exact DataW.trod_lt m _ _ _ hm
  have k1 := h1
  have lt1 : ∀ x ∈ p1, x.block < W.heap.size := by obtain ⟨m, hm⟩ := k1; exact DataW.trod_lt m _ _ _ hm
  have k2 := h2
  have lt2 : ∀ x ∈ p2, x.block < W.heap.size := by obtain ⟨m, hm⟩ := k2; exact DataW.trod_lt m _ _ _ hm
  obtain ⟨a0, c0, x0, rr0, oo0, qq0, rfl, rd0, lc0, by0, q00, q10⟩ := open_program (hval 0 26 v0 rfl rfl) h0
  obtain ⟨a1, rfl, rfl, rfl, w1⟩ := open_int Try.underlying3 (hval 1 3 v1 rfl rfl) h1
  obtain ⟨a2, rfl, rfl, rfl, w2⟩ := open_int Try.underlying5 (hval 2 5 v2 rfl rfl) h2
  obtain ⟨x2, rfl⟩ := u8_of w2
  clear hA0 hval0 hsz0
  refine (verifyTurned_calls a0 c0 x0 rr0 oo0 qq0 a1 x2 W rd0 lc0 by0 q00 q10 (bounds_i64 w1).1 (bounds_i64 w1).2).mono fun e W' ⟨he, bel⟩ => ?_
  subst he
  exact ⟨_, rfl, _, _, _, [], _, [], hW', trodAll_mk1 (shut_bool Try.underlying4 _), (trodAll_cons_mk (Below.trod laid_out (by kernel_rfl) (of_decide_eq_true (by kernel_rfl)) k0 bel lt0) (trodAll_cons_mk (shut_int Try.underlying3 w1) (trodAll_cons_mk (shut_int Try.underlying5 w2) trodAll_mk0))), rfl, bel.frame _, fun h => by cases h⟩

theorem over : Rows.verifyTurnedRow.holds Try.pinned (OpenSpec.ofChange Rows.verifyTurnedSpec) :=
  OpenClaim.holds_of_wide 6 Try.f6 rfl rfl rfl rfl rfl rfl rfl ⟨rfl, rfl, rfl, rfl, rfl⟩ rfl rfl rfl rfl rfl (by kernel_rfl) Try.func6 (by kernel_rfl)
    (of_decide_eq_true (by kernel_rfl)) (by unfold Func.isWrapper; first | (rw [if_pos (by decide +kernel)]; kernel_rfl) | (rw [if_neg (by decide +kernel)]; exact ⟨rfl, rfl⟩))
    (fun os started H enc _ => lifted os started H enc)

theorem proved : Rows.VerifyTurnedSaid := over
#print axioms proved
end Go.Proofs.Ythbjcafldbocpaa.verifyTurned
