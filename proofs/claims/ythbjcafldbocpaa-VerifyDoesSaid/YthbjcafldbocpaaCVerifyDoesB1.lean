/- The law VerifyDoes, proved: for every input the call returns true and each argument reads as before. -/
import Derived.Stop.BytesEq
import Derived.Deep.CutBlock
import Derived.Lib.SliceRun
import Derived.Lib.SmallJoins
import Derived.Deep.Slices
import Derived.WalkKit
import Derived.ProofKit
import Derived.OpenShut
import Derived.ChangeOld
import Derived.Below
import Derived.SizedLaws
import Derived.Test.YthbjcafldbocpaaCVerifyDoesA2
import Derived.Test.YthbjcafldbocpaaCVerifyDoesx2
import Derived.Test.YthbjcafldbocpaaCVerifyDoesx3
import Derived.Test.YthbjcafldbocpaaCVerifyDoesx4
import Derived.Test.YthbjcafldbocpaaCVerifyDoesA1
import Derived.Test.YthbjcafldbocpaaCVerifyDoesA3
import Derived.Test.YthbjcafldbocpaaCVerifyDoesx5
import Derived.Test.YthbjcafldbocpaaCVerifyDoesx6
import Derived.Test.YthbjcafldbocpaaRows
namespace Go.Proofs.Ythbjcafldbocpaa
open Go.RowKit Go.Proofs.YthbjcafldbocpaaW.PrintWords Go.Proofs.Ythbjcafldbocpaa.P0
set_option linter.unusedVariables false
set_option linter.unusedSimpArgs false
def okS (s : S59) : Bool := decide (1 ≤ s.f0 ∧ s.f0 ≤ 4 ∧ 0 ≤ s.f1 ∧ s.f1 ≤ 255 ∧ 0 ≤ s.f2 ∧ s.f2 ≤ 255 ∧ (s.f0 = 1 → s.f2 = 0) ∧ (s.f0 ≠ 3 → s.f3 = 0))
def mayB (l : List S59) (r o : Int) : Bool := decide (0 ≤ r ∧ r ≤ 256 ∧ 0 ≤ o ∧ o ≤ 64 ∧ l.length ≤ 65536) && l.all okS
theorem rd_at {l : List S59} {i : Nat} (h : i < l.length) : rd_T59 l (i : Int) = l[i] := by
  simp [rd_T59, List.getD_eq_getElem?_getD, h]
theorem all_drop {l : List S59} {i : Nat} (h : i < l.length) : (l.drop i).all okS = (okS l[i] && (l.drop (i + 1)).all okS) := by
  rw [List.drop_eq_getElem_cons h, List.all_cons]
theorem okS_no {s : S59} (h : ¬ (1 ≤ s.f0 ∧ s.f0 ≤ 4 ∧ 0 ≤ s.f1 ∧ s.f1 ≤ 255 ∧ 0 ≤ s.f2 ∧ s.f2 ≤ 255 ∧ (s.f0 = 1 → s.f2 = 0) ∧ (s.f0 ≠ 3 → s.f3 = 0))) : okS s = false := decide_eq_false h
theorem wrap_next {i : Nat} (h : i < 65536) : wrap64 ((i : Int) + 1) = ((i + 1 : Nat) : Int) := by unfold wrap64; omega
theorem fields1 : emit_fields.f 1 = some ⟨#[68]⟩ := by simp [emit_fields.f]
theorem fields2 : emit_fields.f 2 = some ⟨#[68, 83]⟩ := by simp [emit_fields.f]
theorem fields3 : emit_fields.f 3 = some ⟨#[68, 83, 67]⟩ := by simp [emit_fields.f]
theorem fields4 : emit_fields.f 4 = some ⟨#[68, 83]⟩ := by simp [emit_fields.f]
theorem sz1 : ((⟨#[68]⟩ : ByteArray).size : Int) = 1 := rfl
theorem sz2 : ((⟨#[68, 83]⟩ : ByteArray).size : Int) = 2 := rfl
theorem sz3 : ((⟨#[68, 83, 67]⟩ : ByteArray).size : Int) = 3 := rfl
theorem may_j2 (k : Nat) (l : List S59) (n i : Int) (s : S59) (b : Bool) (h1 : 1 ≤ s.f0) (h4 : s.f0 ≤ 4) (a1 : 0 ≤ s.f1) (a2 : s.f1 ≤ 255) (a3 : 0 ≤ s.f2) (a4 : s.f2 ≤ 255) (hk : emit_may.l0 k l n (wrap64 (i + 1)) = some b) :
    emit_may.j2 (k + 1) l n i false s.f0 s.f1 s.f2 s.f3 = some (okS s && b) := by
  have h : s.f0 = 1 ∨ s.f0 = 2 ∨ s.f0 = 3 ∨ s.f0 = 4 := by omega
  obtain ⟨f0, f1, f2, f3⟩ := s
  simp only at h h1 h4 a1 a2 a3 a4 ⊢
  rcases h with h | h | h | h <;> subst h
  · simp only [emit_may.j2, fields1, Option.bind_some, sz1, Bool.false_eq_true, if_false]
    by_cases c2 : f2 = 0 <;> by_cases c3 : f3 = 0 <;> simp [okS, c2, c3, hk, a1, a2, a3, a4]
  · simp only [emit_may.j2, fields2, Option.bind_some, sz2, Bool.false_eq_true, if_false]
    by_cases c3 : f3 = 0 <;> simp [okS, c3, hk, a1, a2, a3, a4]
  · simp only [emit_may.j2, fields3, Option.bind_some, sz3, Bool.false_eq_true, if_false]
    simp [okS, hk, a1, a2, a3, a4]
  · simp only [emit_may.j2, fields4, Option.bind_some, sz2, Bool.false_eq_true, if_false]
    by_cases c3 : f3 = 0 <;> simp [okS, c3, hk, a1, a2, a3, a4]
theorem may_l0 (l : List S59) (hl : l.length ≤ 65536) : ∀ d i, i + d = l.length → ∃ k, emit_may.l0 k l (l.length : Int) (i : Int) = some ((l.drop i).all okS)
  | 0, i, h => ⟨1, by
      rw [List.drop_eq_nil_of_le (by omega)]
      simp only [emit_may.l0]
      rw [if_neg (by omega)]
      rfl⟩
  | d + 1, i, h => by
      obtain ⟨k, hk⟩ := may_l0 l hl d (i + 1) (by omega)
      have hi : i < l.length := by omega
      refine ⟨k + 2, ?_⟩
      rw [all_drop hi]
      simp only [emit_may.l0, rd_at hi]
      rw [if_pos (by omega), if_pos (by omega), if_pos (by omega)]
      generalize l[i] = s
      rw [← wrap_next (by omega)] at hk
      unfold emit_known.f
      by_cases h1 : 1 ≤ s.f0
      · rw [if_pos h1]
        by_cases h4 : s.f0 ≤ 4
        · simp only [Option.bind_some, decide_eq_true h4, if_true]
          by_cases a1 : 0 ≤ s.f1
          · rw [if_neg (by omega)]
            by_cases a2 : s.f1 ≤ 255
            · rw [if_neg (by omega)]
              by_cases a3 : 0 ≤ s.f2
              · rw [if_neg (by omega)]
                by_cases a4 : s.f2 ≤ 255
                · rw [show decide (s.f2 > 255) = false from decide_eq_false (by omega)]
                  exact may_j2 k l _ _ s _ h1 h4 a1 a2 a3 a4 hk
                · rw [show decide (s.f2 > 255) = true from decide_eq_true (by omega), okS_no (fun h => a4 h.2.2.2.2.2.1)]
                  simp [emit_may.j2]
              · rw [if_pos (by omega), okS_no (fun h => a3 h.2.2.2.2.1)]
                simp [emit_may.j2]
            · rw [if_pos (by omega), okS_no (fun h => a2 h.2.2.2.1)]
              simp [emit_may.j2]
          · rw [if_pos (by omega), okS_no (fun h => a1 h.2.2.1)]
            simp [emit_may.j2]
        · simp only [Option.bind_some, decide_eq_false h4, Bool.false_eq_true, if_false]
          rw [okS_no (fun h => h4 h.2.1)]
          simp [emit_may.j2]
      · rw [if_neg h1]
        simp only [Option.bind_some, Bool.false_eq_true, if_false]
        rw [okS_no (fun h => h1 h.1)]
        simp [emit_may.j2]
theorem may_f (l : List S59) (r o q : Int) : ∃ k, emit_may.f k l r o q = some (mayB l r o) := by
  have no : ∀ r o q, (¬ (0 ≤ r ∧ r ≤ 256 ∧ 0 ≤ o ∧ o ≤ 64 ∧ l.length ≤ 65536)) → emit_may.j0 1 true l r o q = some (mayB l r o) := by
    intro r o q h
    unfold mayB
    rw [decide_eq_false h]
    simp [emit_may.j0]
  by_cases h1 : r < 0
  · exact ⟨1, by unfold emit_may.f; rw [if_pos h1]; exact no _ _ _ (by omega)⟩
  by_cases h2 : r > 256
  · exact ⟨1, by unfold emit_may.f; rw [if_neg h1, if_pos h2]; exact no _ _ _ (by omega)⟩
  by_cases h3 : o < 0
  · exact ⟨1, by unfold emit_may.f; rw [if_neg h1, if_neg h2, if_pos h3]; exact no _ _ _ (by omega)⟩
  by_cases h4 : o > 64
  · exact ⟨1, by unfold emit_may.f; rw [if_neg h1, if_neg h2, if_neg h3, if_pos h4]; exact no _ _ _ (by omega)⟩
  by_cases h5 : (l.length : Int) > 65536
  · exact ⟨1, by unfold emit_may.f; rw [if_neg h1, if_neg h2, if_neg h3, if_neg h4, decide_eq_true h5]; exact no _ _ _ (by omega)⟩
  · obtain ⟨k, hk⟩ := may_l0 l (by omega) l.length 0 (by omega)
    refine ⟨k + 1, ?_⟩
    unfold emit_may.f mayB
    rw [if_neg h1, if_neg h2, if_neg h3, if_neg h4, decide_eq_false h5, decide_eq_true (by omega)]
    simp only [emit_may.j0, Bool.false_eq_true, if_false, Bool.true_and]
    exact hk
theorem can_j2 (k : Nat) (l : List S59) (i r o q : Int) (s : S59) (b : Bool) (h1 : 1 ≤ s.f0) (h4 : s.f0 ≤ 4) (a1 : 0 ≤ s.f1) (a2 : s.f1 ≤ 255) (a3 : 0 ≤ s.f2) (a4 : s.f2 ≤ 255) (hk : recoupref24_Can.l0 k (wrap64 (i + 1)) l r o q = some b) :
    recoupref24_Can.j2 (k + 1) i false l r o q s.f0 s.f1 s.f2 s.f3 = some (okS s && b) := by
  have h : s.f0 = 1 ∨ s.f0 = 2 ∨ s.f0 = 3 ∨ s.f0 = 4 := by omega
  obtain ⟨f0, f1, f2, f3⟩ := s
  simp only at h h1 h4 a1 a2 a3 a4 ⊢
  rcases h with h | h | h | h <;> subst h
  · by_cases c2 : f2 = 0 <;> by_cases c3 : f3 = 0 <;> simp [recoupref24_Can.j2, recoupref24_fields.f, okS, c2, c3, hk, a1, a2, a3, a4]
  · by_cases c3 : f3 = 0 <;> simp [recoupref24_Can.j2, recoupref24_fields.f, okS, c3, hk, a1, a2, a3, a4]
  · simp [recoupref24_Can.j2, recoupref24_fields.f, okS, hk, a1, a2, a3, a4]
  · by_cases c3 : f3 = 0 <;> simp [recoupref24_Can.j2, recoupref24_fields.f, okS, c3, hk, a1, a2, a3, a4]
theorem can_l0 (l : List S59) (r o q : Int) (hl : l.length ≤ 65536) : ∀ d i, i + d = l.length → ∃ k, recoupref24_Can.l0 k (i : Int) l r o q = some ((l.drop i).all okS)
  | 0, i, h => ⟨1, by
      rw [List.drop_eq_nil_of_le (by omega)]
      simp only [recoupref24_Can.l0]
      rw [if_neg (by omega)]
      rfl⟩
  | d + 1, i, h => by
      obtain ⟨k, hk⟩ := can_l0 l r o q hl d (i + 1) (by omega)
      have hi : i < l.length := by omega
      refine ⟨k + 2, ?_⟩
      rw [all_drop hi]
      simp only [recoupref24_Can.l0, rd_at hi]
      rw [if_pos (by omega), if_pos (by omega)]
      generalize l[i] = s
      rw [← wrap_next (by omega)] at hk
      by_cases h1 : 1 ≤ s.f0
      · rw [if_neg (by omega)]
        by_cases h4 : s.f0 ≤ 4
        · rw [if_neg (by omega)]
          by_cases a1 : 0 ≤ s.f1
          · rw [if_neg (by omega)]
            by_cases a2 : s.f1 ≤ 255
            · rw [if_neg (by omega)]
              by_cases a3 : 0 ≤ s.f2
              · rw [if_neg (by omega)]
                by_cases a4 : s.f2 ≤ 255
                · rw [show decide (s.f2 > 255) = false from decide_eq_false (by omega)]
                  exact can_j2 k l _ _ _ _ s _ h1 h4 a1 a2 a3 a4 hk
                · rw [show decide (s.f2 > 255) = true from decide_eq_true (by omega), okS_no (fun h => a4 h.2.2.2.2.2.1)]
                  simp [recoupref24_Can.j2]
              · rw [if_pos (by omega), okS_no (fun h => a3 h.2.2.2.2.1)]
                simp [recoupref24_Can.j2]
            · rw [if_pos (by omega), okS_no (fun h => a2 h.2.2.2.1)]
              simp [recoupref24_Can.j2]
          · rw [if_pos (by omega), okS_no (fun h => a1 h.2.2.1)]
            simp [recoupref24_Can.j2]
        · rw [if_pos (by omega), okS_no (fun h => h4 h.2.1)]
          simp [recoupref24_Can.j2]
      · rw [if_pos (by omega), okS_no (fun h => h1 h.1)]
        simp [recoupref24_Can.j2]
theorem can_f (l : List S59) (r o q : Int) : ∃ k, recoupref24_Can.f k l r o q = some (mayB l r o) := by
  have no : ∀ r o q, (¬ (0 ≤ r ∧ r ≤ 256 ∧ 0 ≤ o ∧ o ≤ 64 ∧ l.length ≤ 65536)) → recoupref24_Can.j0 1 true l r o q = some (mayB l r o) := by
    intro r o q h
    unfold mayB
    rw [decide_eq_false h]
    simp [recoupref24_Can.j0]
  by_cases h1 : r < 0
  · exact ⟨1, by unfold recoupref24_Can.f; rw [if_pos h1]; exact no _ _ _ (by omega)⟩
  by_cases h2 : r > 256
  · exact ⟨1, by unfold recoupref24_Can.f; rw [if_neg h1, if_pos h2]; exact no _ _ _ (by omega)⟩
  by_cases h3 : o < 0
  · exact ⟨1, by unfold recoupref24_Can.f; rw [if_neg h1, if_neg h2, if_pos h3]; exact no _ _ _ (by omega)⟩
  by_cases h4 : o > 64
  · exact ⟨1, by unfold recoupref24_Can.f; rw [if_neg h1, if_neg h2, if_neg h3, if_pos h4]; exact no _ _ _ (by omega)⟩
  by_cases h5 : (l.length : Int) > 65536
  · exact ⟨1, by unfold recoupref24_Can.f; rw [if_neg h1, if_neg h2, if_neg h3, if_neg h4, decide_eq_true h5]; exact no _ _ _ (by omega)⟩
  · obtain ⟨k, hk⟩ := can_l0 l r o q (by omega) l.length 0 (by omega)
    refine ⟨k + 1, ?_⟩
    unfold recoupref24_Can.f mayB
    rw [if_neg h1, if_neg h2, if_neg h3, if_neg h4, decide_eq_false h5, decide_eq_true (by omega)]
    simp only [recoupref24_Can.j0, Bool.false_eq_true, if_false, Bool.true_and]
    exact hk
/-! the contracts -/
theorem may_ok {w : World} {A : Option Addr} {c : Nat} {l : List S59} (r o q : Int) (hC : Kd.C k59 w A l.length l) (hc : l.length ≤ c) : ∀ w1, Below w.heap.size w w1 → Calls Try.prog 59 #[.agg #[.slice A l.length c, .int .i64 r, .int .i64 o, .int .u64 q]] w1 fun e w' => e = .returned (.bool (mayB l r o)) ∧ Below w1.heap.size w1 w' := by
  intro w1 hb
  obtain ⟨k, hk⟩ := may_f l r o q
  exact emit_may.calls k A c l r o q _ w1 (Kd.C_below hC hb) hc hk
theorem can_ok {w : World} {A : Option Addr} {c : Nat} {l : List S59} (r o q : Int) (hC : Kd.C k59 w A l.length l) (hc : l.length ≤ c) : ∀ w1, Below w.heap.size w w1 → Calls Try.prog 50 #[.agg #[.slice A l.length c, .int .i64 r, .int .i64 o, .int .u64 q]] w1 fun e w' => e = .returned (.bool (mayB l r o)) ∧ Below w1.heap.size w1 w' := by
  intro w1 hb
  obtain ⟨k, hk⟩ := can_f l r o q
  exact recoupref24_Can.calls k A c l r o q _ w1 (Kd.C_below hC hb) hc hk
def psOf (s : S59) : PS := ⟨s.f0.toNat, s.f1.toNat, s.f2.toNat, toU s.f3⟩
theorem okS_spec {s : S59} (h : okS s = true) : 1 ≤ s.f0 ∧ s.f0 ≤ 4 ∧ 0 ≤ s.f1 ∧ s.f1 ≤ 255 ∧ 0 ≤ s.f2 ∧ s.f2 ≤ 255 ∧ (s.f0 = 1 → s.f2 = 0) ∧ (s.f0 ≠ 3 → s.f3 = 0) := of_decide_eq_true h
theorem psOf_ok {s : S59} (h : okS s = true) : (psOf s).Ok := by
  have := okS_spec h
  unfold PS.Ok psOf
  simp only
  omega
theorem steps_of {w : World} {A : Option Addr} {l : List S59} (hC : Kd.C k59 w A l.length l) (ho : ∀ s ∈ l, okS s = true) (hb : ∀ s ∈ l, byteB s.f3 = true) : StepsAt w w.heap.size A (l.map psOf) := by
  intro hn
  rw [List.length_map] at hn
  obtain ⟨ad, e, h0, h1, h2, h3⟩ := at_T59 hC 0 (by omega) (by omega)
  obtain ⟨g, o, sp⟩ := ad
  have hsp : sp = none := by
    have h9 : (⟨g, o, sp⟩ : Addr).add (Int.toNat 0 * 4) = ⟨g, o, sp⟩ := by unfold Addr.add; simp
    rw [h9] at h0
    exact spot_of_cell h0
  subst hsp
  refine ⟨g, o, e, ?_, fun i s hs => ?_⟩
  · rw [addr_add] at h0
    exact lt_of_cell h0
  · rw [List.getElem?_map] at hs
    obtain ⟨x, hx, rfl⟩ := Option.map_eq_some_iff.1 hs
    obtain ⟨hi, rfl⟩ := List.getElem?_eq_some_iff.1 hx
    obtain ⟨ad2, e2, g0, g1, g2, g3⟩ := at_T59 hC (i : Int) (by omega) (by omega)
    rw [e] at e2
    injection e2 with e2
    subst e2
    rw [rd_at hi] at g0 g1 g2 g3
    have hok := okS_spec (ho _ (List.getElem_mem hi))
    have hby := hb _ (List.getElem_mem hi)
    generalize l[i] = s at *
    rw [Int.toNat_natCast, addr_add] at g0 g1 g2 g3
    simp only at g0 g1 g2 g3
    unfold psOf
    simp only
    rw [toU_of hby, Int.toNat_of_nonneg (by omega), Int.toNat_of_nonneg (by omega), Int.toNat_of_nonneg (by omega)]
    exact ⟨g0, g1, g2, g3⟩
theorem all_f {s : S59} (h : okS s = true) : ∃ r : List Int, emit_all.f s.f0 s.f1 s.f2 s.f3 = some r ∧ r.length ≤ 3 := by
  have hk := okS_spec h
  have h4 : s.f0 = 1 ∨ s.f0 = 2 ∨ s.f0 = 3 ∨ s.f0 = 4 := by omega
  unfold emit_all.f
  rcases h4 with h4 | h4 | h4 | h4 <;> rw [h4]
  · refine ⟨_, by rw [fields1]; simp only [Option.bind_some, sz1]; rw [if_pos (by decide), if_pos (by simp)], by simp⟩
  · refine ⟨_, by rw [fields2]; simp only [Option.bind_some, sz2]; rw [if_pos (by decide), if_pos (by simp)], by simp⟩
  · refine ⟨_, by rw [fields3]; simp only [Option.bind_some, sz3]; rw [if_pos (by decide), if_pos (by simp)], by simp⟩
  · refine ⟨_, by rw [fields4]; simp only [Option.bind_some, sz2]; rw [if_pos (by decide), if_pos (by simp)], by simp⟩
theorem ints_of_R {w w' : World} {v : Value} {r : List Int} (h : Kd.R (Kd.int .i64) 3 w' w.heap.size (fun _ => True) v r) (hl : r.length ≤ 3) : ∃ A m c, v = .slice A m c ∧ Ints3 w w' A m := by
  obtain ⟨_, inner, ho, hr⟩ := h
  rcases ho.2 with ⟨rfl, h0⟩ | ⟨g, c, cur, rfl, hg, hh, _⟩
  · exact ⟨none, 0, 0, rfl, by omega, fun h => absurd h (by omega)⟩
  · refine ⟨_, r.length, c, rfl, hl, fun _ => ⟨g, rfl, hg, ?_, fun j hj => ?_⟩⟩
    · rcases Nat.lt_or_ge g w'.heap.size with hlt | hge
      · exact hlt
      · rw [Array.getElem?_eq_none hge] at hh; cases hh
    · have hlen : inner.length = r.length := by have h1 := hr.1; have e5 : (Kd.int .i64).sz = 1 := rfl; rw [e5] at h1; omega
      have hp := hr.2 j r[j] (List.getElem?_eq_getElem hj)
      have e5 : (Kd.int .i64).sz = 1 := rfl
      rw [e5, Nat.mul_one, one_drop _ _ (by omega)] at hp
      have hp' : [inner[j]'(by omega)] = [.int .i64 r[j]] := hp
      refine ⟨r[j], ?_⟩
      have hj2 : j < inner.length := by omega
      have e6 : inner[j]? = some (.int .i64 r[j]) := by
        rw [List.getElem?_eq_getElem hj2]
        simpa using hp'
      exact (ho.cellAt j (by have e5 : (Kd.int .i64).sz = 1 := rfl; rw [e5]; omega)).trans e6
theorem all_ok {l : List S59} (ho : ∀ s ∈ l, okS s = true) (hb : ∀ s ∈ l, byteB s.f3 = true) : ∀ s ∈ l.map psOf, ∀ w1, Calls Try.prog 62 #[.agg #[.int .u8 (s.k : Int), .int .i64 (s.D : Int), .int .i64 (s.S : Int), .int .u8 (s.C.toNat : Int)]] w1 fun e w' => ∃ A m c, e = .returned (.slice A m c) ∧ Ints3 w1 w' A m ∧ Below w1.heap.size w1 w' := by
  intro s hs w1
  obtain ⟨x, hx, rfl⟩ := List.mem_map.1 hs
  have hk := okS_spec (ho x hx)
  obtain ⟨r, hr, hl⟩ := all_f (ho x hx)
  have hc := emit_all.calls x.f0 x.f1 x.f2 x.f3 r w1 hr
  unfold psOf
  simp only
  rw [toU_of (hb x hx), Int.toNat_of_nonneg (by omega), Int.toNat_of_nonneg (by omega), Int.toNat_of_nonneg (by omega)]
  refine hc.mono ?_
  rintro e w' ⟨v, rfl, hR, hbl⟩
  obtain ⟨A, m, c, rfl, hI⟩ := ints_of_R hR hl
  exact ⟨A, m, c, rfl, hI, hbl⟩
end Go.Proofs.Ythbjcafldbocpaa
namespace Go.Proofs.Ythbjcafldbocpaa
open Go.RowKit Go.Proofs.YthbjcafldbocpaaW.PrintWords Go.Proofs.Ythbjcafldbocpaa.P0
set_option linter.unusedVariables false
set_option linter.unusedSimpArgs false
def progV (AS : Option Addr) (nS cS : Nat) (regs outs reads : Int) : Value := .agg #[.slice AS nS cS, .int .i64 regs, .int .i64 outs, .int .u64 reads]
theorem look_far (AS : Option Addr) (nS cS : Nat) (regs outs reads n : Int) (hn : n < 0 ∨ 64 < n) (w : World) :
    Calls Try.prog 30 #[progV AS nS cS regs outs reads, .int .i64 n] w fun e w' => e = .returned (.tuple #[.pointer none, .int .i64 2]) ∧ Below w.heap.size w w' := by
  unfold progV
  by_cases h0 : n < 0
  · have h1 : decide (n < 0) = true := decide_eq_true h0
    go_enter Try.func30, Try.ntmps30
    go_wp2_with fail
    go_ret2
    exact ⟨rfl, (Below.refl _ _).alloc (Nat.le_refl _) _⟩
  · have h1 : decide (n < 0) = false := decide_eq_false h0
    have h2 : decide (64 < n) = true := decide_eq_true (by omega)
    go_enter Try.func30, Try.ntmps30
    go_wp2_with fail
    go_ret2
    exact ⟨rfl, (Below.refl _ _).alloc (Nat.le_refl _) _⟩
theorem look_no (AS : Option Addr) (nS cS : Nat) (regs outs reads n : Int) (h0 : 0 ≤ n) (h1 : n ≤ 64) (w : World)
    (hwr : ∀ w1, Below w.heap.size w w1 → Calls Try.prog 48 #[.agg #[.slice AS nS cS, .int .i64 regs, .int .i64 outs, .int .u64 reads]] w1 fun e w' => e = .returned (.tuple #[.slice none 0 0, .int .i64 2]) ∧ Below w1.heap.size w1 w') :
    Calls Try.prog 30 #[progV AS nS cS regs outs reads, .int .i64 n] w fun e w' => e = .returned (.tuple #[.pointer none, .int .i64 2]) ∧ Below w.heap.size w w' := by
  unfold progV
  have h2 : decide (n < 0) = false := decide_eq_false (by omega)
  have h3 : decide (64 < n) = false := decide_eq_false (by omega)
  go_enter Try.func30, Try.ntmps30
  go_wp2_with fail
  have q : Below w.heap.size w (w.alloc (.cells #[.slice AS nS cS, .int .i64 regs, .int .i64 outs, .int .u64 reads] 26)) := (Below.refl _ _).alloc (Nat.le_refl _) _
  refine (hwr _ q).mono ?_
  rintro e w1 ⟨rfl, hb⟩
  go_wp2_with fail
  go_ret2
  exact ⟨rfl, q.trans (hb.mono (by simp))⟩
def checkV (l : List S59) (r o q n : Int) : Int × Int :=
  if n < 0 ∨ 64 < n ∨ mayB l r o = false then (0, 2)
  else match vAll r.toNat o.toNat q.toNat n.toNat (l.map psOf) with
    | (i, some _) => ((i : Int), 0)
    | (i, none) => ((i : Int), 250)
set_option maxRecDepth 100000 in
theorem look_all {w : World} {A : Option Addr} {c : Nat} {l : List S59} {r o q n : Int} (hC : Kd.C k59 w A l.length l) (hc : l.length ≤ c) (hb : ∀ s ∈ l, byteB s.f3 = true) (hq : 0 ≤ q) (hq2 : q < 2 ^ 64) (hn : 0 ≤ n) (hn2 : n ≤ 64) (hm : mayB l r o = true) :
    Calls Try.prog 30 #[progV A l.length c r o q, .int .i64 n] w fun e w' => LookPost w A (l.map psOf) c r.toNat o.toNat q.toNat n.toNat e w' := by
  have h1 := hm
  unfold mayB at h1
  rw [Bool.and_eq_true, decide_eq_true_eq, List.all_eq_true] at h1
  obtain ⟨⟨r1, r2, o1, o2, hl⟩, ho⟩ := h1
  have hst := steps_of hC ho hb
  have er : ((r.toNat : Nat) : Int) = r := Int.toNat_of_nonneg r1
  have eo : ((o.toNat : Nat) : Int) = o := Int.toNat_of_nonneg o1
  have eq : ((q.toNat : Nat) : Int) = q := Int.toNat_of_nonneg hq
  have en : ((n.toNat : Nat) : Int) = n := Int.toNat_of_nonneg hn
  have el : (l.map psOf).length = l.length := List.length_map _
  have hok : ∀ s ∈ l.map psOf, s.Ok := by
    intro s hs
    obtain ⟨x, hx, rfl⟩ := List.mem_map.1 hs
    exact psOf_ok (ho x hx)
  have hrange : ∀ s ∈ l.map psOf, s.k < 256 := by
    intro s hs
    have := hok s hs
    unfold PS.Ok at this
    omega
  have hmay := may_ok (w := w) r o q hC hc
  rw [hm] at hmay
  have H := look_yes A (l.map psOf) c r.toNat o.toNat q.toNat n.toNat w hst (by omega) (by omega) (by rw [el]; exact hl) (by omega) (by omega) hok (fun w1 hb1 => by
    have hst1 := steps_of (Kd.C_below hC hb1) ho hb
    refine write_yes A (l.map psOf) c r.toNat o.toNat q.toNat w1 hst1 (by omega) (by omega) (by rw [el]; exact hl) ?_ hrange (all_ok ho hb)
    intro w2 hb2
    rw [el, er, eo, eq]
    exact hmay w2 (hb1.trans (hb2.mono hb1.size)))
  rw [el, er, eo, eq, en] at H
  exact H
theorem look_bad {w : World} {A : Option Addr} {c : Nat} {l : List S59} {r o q n : Int} (hC : Kd.C k59 w A l.length l) (hc : l.length ≤ c) (h : n < 0 ∨ 64 < n ∨ mayB l r o = false) :
    Calls Try.prog 30 #[progV A l.length c r o q, .int .i64 n] w fun e w' => e = .returned (.tuple #[.pointer none, .int .i64 2]) ∧ Below w.heap.size w w' := by
  by_cases hn : n < 0 ∨ 64 < n
  · exact look_far A l.length c r o q n hn w
  · have hm : mayB l r o = false := by rcases h with h | h | h; exact absurd (.inl h) hn; exact absurd (.inr h) hn; exact h
    refine look_no A l.length c r o q n (by omega) (by omega) w (fun w1 hb1 => ?_)
    refine write_no A l.length c r o q w1 (fun w2 hb2 => ?_)
    have := may_ok (w := w) r o q hC hc w2 (hb1.trans (hb2.mono hb1.size))
    rw [hm] at this
    exact this
set_option maxRecDepth 100000 in
theorem check_calls {w : World} {A : Option Addr} {c : Nat} {l : List S59} {r o q n : Int} (hC : Kd.C k59 w A l.length l) (hc : l.length ≤ c) (hb : ∀ s ∈ l, byteB s.f3 = true) (hq : 0 ≤ q) (hq2 : q < 2 ^ 64) :
    Calls Try.prog 10 #[progV A l.length c r o q, .int .i64 n] w fun e w' => e = .returned (.tuple #[.int .i64 (checkV l r o q n).1, .int .i64 (checkV l r o q n).2]) ∧ Below w.heap.size w w' := by
  have q0 : ∀ o, Below w.heap.size w (w.alloc o) := fun o => (Below.refl _ _).alloc (Nat.le_refl _) _
  by_cases h : n < 0 ∨ 64 < n ∨ mayB l r o = false
  · have e : checkV l r o q n = (0, 2) := by unfold checkV; exact if_pos h
    rw [e]
    unfold progV
    go_enter Try.func10, Try.ntmps10
    go_wp2_with fail
    refine (look_bad (Kd.C_below hC (q0 _)) hc h).mono ?_
    rintro e w' ⟨rfl, hb'⟩
    go_wp2_with fail
    go_ret2
    exact ⟨rfl, (q0 _).trans (hb'.mono (by simp))⟩
  · have h' : mayB l r o = true := by
      cases hm : mayB l r o
      · exact absurd (.inr (.inr hm)) h
      · rfl
    have e : checkV l r o q n = match vAll r.toNat o.toNat q.toNat n.toNat (l.map psOf) with
      | (i, some _) => ((i : Int), 0)
      | (i, none) => ((i : Int), 250) := by unfold checkV; exact if_neg h
    rw [e]
    obtain ⟨⟨pl, st⟩, hv⟩ : ∃ v, v = vAll r.toNat o.toNat q.toNat n.toNat (l.map psOf) := ⟨_, rfl⟩
    rw [← hv]
    unfold progV
    go_enter Try.func10, Try.ntmps10
    go_wp2_with fail
    refine (look_all (Kd.C_below hC (q0 _)) hc hb hq hq2 (by omega) (by omega) h').mono ?_
    rintro e w' ⟨gk, gr, gs, go, gd, G, hbl, hy, hno⟩
    rw [← hv] at hy hno
    have hbl' := (q0 (.cells #[.slice A l.length c, .int .i64 r, .int .i64 o, .int .u64 q] 26)).trans (hbl.mono (by simp))
    cases st with
    | some st =>
      obtain ⟨rfl, hW⟩ := hy st rfl
      have k5 : w'.cell? ⟨gk, 5, none⟩ = some (.int .i64 (pl : Int)) := hW.hk.cell 5
      clear hy hno hW
      go_wp2_with fail
      go_ret2
      exact ⟨rfl, hbl'⟩
    | none =>
      obtain ⟨rfl, ld, hk⟩ := hno rfl
      have k5 : w'.cell? ⟨gk, 5, none⟩ = some (.int .i64 (pl : Int)) := hk.cell 5
      clear hy hno hk
      go_wp2_with fail
      go_ret2
      exact ⟨rfl, hbl'⟩
end Go.Proofs.Ythbjcafldbocpaa
namespace Go.Proofs.Ythbjcafldbocpaa
open Go.RowKit Go.Proofs.YthbjcafldbocpaaW.PrintWords Go.Proofs.Ythbjcafldbocpaa.P0
set_option linter.unusedVariables false
set_option linter.unusedSimpArgs false
def outsD (rs : List (Option (List UInt8))) : List UInt8 := (rs.map (·.getD [])).flatten
def MatE (w' : World) (base : Nat) (o n : Int) (l : List UInt8) (code : Int) (e : Ending) : Prop := ∃ v b, base ≤ b ∧ e = .returned (.tuple #[.agg #[.int .i64 o, .int .i64 n, v], .int .i64 code]) ∧ OwnV w' b v l
theorem vAll_some {nr no reads n i : Nat} {l : List PS} {st : VS} (h : vAll nr no reads n l = (i, some st)) : (∀ o ∈ st.outs, o.isSome = true) ∧ st.loads = reads := by
  unfold vAll at h
  split at h
  · split at h
    · rename_i hc
      injection h with _ h
      injection h with h
      rw [← h]
      exact hc
    · injection h with _ h; cases h
  · injection h with _ h; cases h
theorem out_row {rs : List (Option (List UInt8))} (h : ∀ o ∈ rs, o.isSome = true) {j : Nat} (hj : j < rs.length) : ∃ x, rs.getD j none = some x ∧ outsD (rs.take (j + 1)) = outsD (rs.take j) ++ x := by
  have h1 := h _ (List.getElem_mem hj)
  obtain ⟨x, hx⟩ := Option.isSome_iff_exists.1 h1
  refine ⟨x, by rw [List.getD_eq_getElem?_getD, List.getElem?_eq_getElem hj]; exact hx, ?_⟩
  unfold outsD
  rw [List.take_succ_eq_append_getElem hj, hx]
  simp
theorem pad_take {x : List UInt8} {n : Nat} (h : x.length = n) : (pad (some x)).take n = x := by
  show (x ++ List.replicate (64 - x.length) 0).take n = x
  rw [List.take_append_of_le_length (by omega), List.take_of_length_le (by omega)]
theorem layAt_all (zs vs : List Value) (h : zs.length = vs.length) : layAt zs 0 vs = vs := by
  unfold layAt
  rw [List.take_zero, List.nil_append, Nat.zero_add, List.drop_eq_nil_of_le (by omega), List.append_nil]
theorem rd_pre {w : World} {g n : Nat} {t : TypeId} {ys : List UInt8} (h : Row w g t (bVs ys)) (hn : n ≤ ys.length) : Rd w w.heap.size (some ⟨g, 0, none⟩) n (bVs (ys.take n)) := by
  refine ⟨by rw [bVs_length, List.length_take]; omega, fun _ => ⟨g, 0, rfl, h.lt, fun j u hu => ?_⟩⟩
  rw [Nat.zero_add, h.cell, ← hu]
  have hj : j < n := by
    rcases Nat.lt_or_ge j n with hlt | hge
    · exact hlt
    · rw [List.getElem?_eq_none (by rw [bVs_length, List.length_take]; omega)] at hu; cases hu
  simp only [bVs, List.getElem?_map, List.getElem?_take, if_pos hj]
theorem own_far2 {w : World} {base g i : Nat} {v : Value} {xs : List UInt8} (h : OwnV w base v xs) (hg : g < base) (u : Value) : OwnV (w.setCell ⟨g, i, none⟩ u) base v xs :=
  h.kept (row := some g) (grown_setCell (p := ⟨g, i, none⟩) (World.grownBy.refl w (some g)) (.inl rfl) u) (.inr (by intro e; have := (World.ownsRow.lt h g e).1; omega))
theorem new_there (w : World) (cs : List Value) (t : TypeId) (n : Nat) (h : n ≤ cs.length) : (w.alloc (.cells cs.toArray t)).there w.heap.size 0 n := by
  intro j hj
  have hr := Row.new w cs t
  refine ⟨?_, hr.frozen _⟩
  rw [hr.cell, List.getElem?_eq_getElem (by omega)]
  rfl
set_option maxHeartbeats 4000000 in
set_option maxRecDepth 100000 in
theorem makes_yes {w : World} {A : Option Addr} {c : Nat} {l : List S59} {r o q n : Int} (hC : Kd.C k59 w A l.length l) (hc : l.length ≤ c) (hb : ∀ s ∈ l, byteB s.f3 = true) (hq : 0 ≤ q) (hq2 : q < 2 ^ 64) (hn : 0 ≤ n) (hn2 : n ≤ 64) (hm : mayB l r o = true) (st : VS) (i : Nat) (hv : vAll r.toNat o.toNat q.toNat n.toNat (l.map psOf) = (i, some st)) :
    Calls Try.prog 13 #[progV A l.length c r o q, .int .i64 n] w fun e w' => MatE w' w.heap.size o n (outsD st.outs) 0 e ∧ Below w.heap.size w w' := by
  obtain ⟨nn, rfl⟩ : ∃ nn : Nat, n = (nn : Int) := ⟨n.toNat, (Int.toNat_of_nonneg hn).symm⟩
  unfold progV
  have ho0 : 0 ≤ o ∧ o ≤ 64 := by
    unfold mayB at hm
    rw [Bool.and_eq_true, decide_eq_true_eq] at hm
    omega
  go_enter Try.func13, Try.ntmps13
  go_wp2_with fail
  obtain ⟨W1, hW1⟩ : ∃ W1, W1 = (w.alloc (.cells #[.slice A l.length c, .int .i64 r, .int .i64 o, .int .u64 q] 26)).alloc (.cells #[.int .i64 0, .int .i64 0, .slice none 0 0] 37) := ⟨_, rfl⟩
  have q1 : Below w.heap.size w W1 := by rw [hW1]; exact ((Below.refl _ _).alloc (Nat.le_refl _) _).alloc (by simp) _
  have hp : Row W1 w.heap.size 26 [.slice A l.length c, .int .i64 r, .int .i64 o, .int .u64 q] := by rw [hW1]; exact (Row.new w _ _).alloc _
  have hm4 : Row W1 (w.heap.size + 1) 37 [.int .i64 0, .int .i64 0, .slice none 0 0] := by
    rw [hW1]
    have := Row.new (w.alloc (.cells #[.slice A l.length c, .int .i64 r, .int .i64 o, .int .u64 q] 26)) [.int .i64 0, .int .i64 0, .slice none 0 0] 37
    simpa using this
  rw [← hW1]
  clear hW1
  refine (look_all (Kd.C_below hC q1) hc hb hq hq2 hn hn2 hm).mono ?_
  rintro e w' ⟨gk, gr, gs, go, gd, G, hbl, hy, hno⟩
  rw [hv] at hy
  obtain ⟨rfl, hK⟩ := hy st rfl
  clear hno hy
  have hp2 := hp.below hbl hp.lt
  have hm2 := hm4.below hbl hm4.lt
  have p2 : w'.cell? ⟨w.heap.size, 2, none⟩ = some (.int .i64 o) := hp2.cell 2
  have q2 : Below w.heap.size w w' := q1.trans (hbl.mono q1.size)
  have k8 : w'.cell? ⟨gk, 8, none⟩ = some (.slice (some ⟨go, 0, none⟩) o.toNat o.toNat) := hK.hk.cell 8
  have HK := Lib.hid hK
  have HM := Lib.hid hm2
  have HQ := Lib.hid q2
  have hG := hK.ho
  have hok := hK.ok
  clear hp hm4 hp2 hbl q1 k8
  obtain ⟨no, hno⟩ : ∃ no, no = o.toNat := ⟨_, rfl⟩
  have eno : (no : Int) = o := by rw [hno]; exact Int.toNat_of_nonneg ho0.1
  have k8 : (w'.alloc (.cells #[.int .i64 o, .int .i64 (nn : Int), .slice none 0 0] 37)).cell? ⟨gk, 8, none⟩ = some (.slice (some ⟨go, 0, none⟩) no no) := by rw [hno]; exact (hK.hk.alloc _).cell 8
  have hm3 := Row.new w' [.int .i64 o, .int .i64 (nn : Int), .slice none 0 0] 37
  have hg3 := hG.alloc (.cells #[.int .i64 o, .int .i64 (nn : Int), .slice none 0 0] 37)
  have hr3 := hm2.alloc (.cells #[.int .i64 o, .int .i64 (nn : Int), .slice none 0 0] 37)
  have lgm := hm2.lt
  have lgo := hG.lt
  have q3 : Below w.heap.size w (w'.alloc (.cells #[.int .i64 o, .int .i64 (nn : Int), .slice none 0 0] 37)) := q2.alloc q2.size _
  have HM3 := Lib.hid hm3
  have HG3 := Lib.hid hg3
  have HR3 := Lib.hid hr3
  have HQ3 := Lib.hid q3
  have lno : st.outs.length = no := by rw [hok.lo, hno]
  have HOK := Lib.hid hok
  have HNO := Lib.hid hno
  clear hK hm2 hG hok hm3 hg3 hr3 q3 q2 hno
  go_wp2_with fail
  go_loopw [30] (fun v30 wr => ∃ (j : Nat) (v : Value), j ≤ no ∧ v30 = .int .i64 (j : Int) ∧ Row wr w'.heap.size 37 [.int .i64 o, .int .i64 (nn : Int), v] ∧ OwnV wr (w'.heap.size + 1) v (outsD (st.outs.take j)) ∧ (outsD (st.outs.take j)).length = j * nn ∧ Row wr go 87 (bVs (flatR st.outs)) ∧ Row wr (w.heap.size + 1) 37 [.int .i64 0, .int .i64 0, .slice none 0 0] ∧ Below w.heap.size w wr ∧ w'.heap.size + 1 ≤ wr.heap.size) (fun v30 _ => no - (intOf v30).toNat)
  case atStart => exact ⟨0, _, by omega, rfl, HM3.out, OwnV.nil _ _, by simp [outsD], HG3.out, HR3.out, HQ3.out, by simp⟩
  case round =>
    obtain ⟨j, v, hj, rfl, hmm, how, hjl, hgg, hrr, hqq, hss⟩ := hrel
    clear HM3 HG3 HR3 HQ3 k8
    have HMM := Lib.hid hmm
    have HOW := Lib.hid how
    have HGG := Lib.hid hgg
    have HRR := Lib.hid hrr
    have HQQ := Lib.hid hqq
    by_cases hlt : j < no
    · have i0 : (0 : Int) ≤ (j : Int) := by omega
      have i1 : (j : Int) < (no : Int) := by omega
      have so := Short.of_ok' HOK.out (n := (nn : Int).toNat) (by omega)
      have lf : (flatR st.outs).length = no * 64 := by rw [flatR_length so, lno]
      obtain ⟨cs, hcs⟩ : ∃ cs, cs = bVs (seg (flatR st.outs) j) := ⟨_, rfl⟩
      have lcs : cs.length = 64 := by rw [hcs, bVs_length, seg_length lf hlt]
      have z1 : ∀ v ∈ cs, v.oneCell' = true := by intro v hv; rw [hcs] at hv; exact bVs_one hv
      have z2 : (Try.prog.info? 87).map (·.size) = some cs.length := by rw [lcs]; kernel_rfl
      have z3 : Try.prog.underlying 87 = some (.array 64 5) := by kernel_rfl
      have z4 : (Try.prog.info? 87).map (·.size) = some cs.toArray.size := by rw [List.size_toArray]; exact z2
      have hra : wr.rangeAt go (j * 64) cs := by rw [hcs]; exact seg_cells hgg lf hlt
      have HCS := Lib.hid hcs
      have LCZ := Lib.hid (show cs.toArray.size = 64 by rw [List.size_toArray]; exact lcs)
      clear hcs hmm how hgg hrr hqq
      go_wp2_with (first | (refine wpList_load_mid rfl 87 (.tmp 32) rfl go (j * 64) rfl cs _ hra z3 rfl z2 ?_) | (refine wpList_store_mid rfl 87 (.tmp 10) (.tmp 33) rfl wr.heap.size 0 cs.toArray rfl rfl (by rw [LCZ.out]; exact new_there wr _ _ 64 (by decide)) z4 (all_oneCell_toArray z1) ?_; simp only [Act.put, List.setIfInBounds_toArray, List.set_cons_zero, List.set_cons_succ, List.toList_toArray]))
      obtain ⟨zs, hzs⟩ : ∃ zs : List Value, zs = [.int .u8 0, .int .u8 0, .int .u8 0, .int .u8 0, .int .u8 0, .int .u8 0, .int .u8 0, .int .u8 0, .int .u8 0, .int .u8 0, .int .u8 0, .int .u8 0, .int .u8 0, .int .u8 0, .int .u8 0, .int .u8 0, .int .u8 0, .int .u8 0, .int .u8 0, .int .u8 0, .int .u8 0, .int .u8 0, .int .u8 0, .int .u8 0, .int .u8 0, .int .u8 0, .int .u8 0, .int .u8 0, .int .u8 0, .int .u8 0, .int .u8 0, .int .u8 0, .int .u8 0, .int .u8 0, .int .u8 0, .int .u8 0, .int .u8 0, .int .u8 0, .int .u8 0, .int .u8 0, .int .u8 0, .int .u8 0, .int .u8 0, .int .u8 0, .int .u8 0, .int .u8 0, .int .u8 0, .int .u8 0, .int .u8 0, .int .u8 0, .int .u8 0, .int .u8 0, .int .u8 0, .int .u8 0, .int .u8 0, .int .u8 0, .int .u8 0, .int .u8 0, .int .u8 0, .int .u8 0, .int .u8 0, .int .u8 0, .int .u8 0, .int .u8 0] := ⟨_, rfl⟩
      have lzs : zs.length = 64 := by rw [hzs]; rfl
      obtain ⟨W4, hW4⟩ : ∃ W4, W4 = (wr.alloc (.cells zs.toArray 87)).setCells wr.heap.size 0 cs := ⟨_, rfl⟩
      have hrc : Row W4 wr.heap.size 87 cs := by
        have h9 := (Row.new wr zs 87).lay 0 cs (by rw [lcs, lzs]; decide)
        rw [layAt_all _ _ (by rw [lcs, lzs]), ← hW4] at h9
        exact h9
      have e4 : ∀ k, k < wr.heap.size → W4.heap[k]? = wr.heap[k]? := by
        intro k hk
        rw [hW4]
        exact (Go.Proofs.YthbjcafldbocpaaW.PrintWords.setCells_far cs 0 k (by omega)).trans (Below.heap_alloc wr _ k hk)
      have o4 : Below wr.heap.size wr W4 := by
        obtain ⟨g1, g2, g3, g4⟩ := Go.Proofs.YthbjcafldbocpaaW.PrintWords.setCells_same wr.heap.size cs 0 (wr.alloc (.cells zs.toArray 87))
        rw [hW4]
        exact ⟨g1, g2, g3, by rw [g4]; simp, fun k hk => by rw [← hW4]; exact e4 k hk⟩
      rw [← hzs, ← hW4]
      have HRC := Lib.hid hrc
      have HE4 := Lib.hid e4
      have HO4 := Lib.hid o4
      have HALL := Lib.hid (vAll_some hv).1
      clear hzs hW4 lzs hrc e4 o4 hra z1 z2 z3 z4
      obtain ⟨x, hx, hxo⟩ := out_row HALL.out (j := j) (by rw [lno]; exact hlt)
      have lx : x.length = nn := by have := HOK.out.wo j x hx; simpa using this
      have hm4 := HMM.out.below HO4.out HMM.out.lt
      have how4 := HOW.out.below HO4.out
      have hrd : Rd W4 W4.heap.size (some ⟨wr.heap.size, 0, none⟩) nn (bVs x) := by
        have h9 := HRC.out
        rw [HCS.out] at h9
        have h8 := rd_pre h9 (n := nn) (by rw [seg_length lf hlt]; omega)
        rw [seg_flat so (by rw [lno]; exact hlt), hx, pad_take lx] at h8
        exact h8
      have m0 : W4.cell? ⟨w'.heap.size, 2, none⟩ = some v := hm4.cell 2
      have hlo : (outsD (st.outs.take j)).length ≤ 4096 := by rw [hjl]; exact Nat.mul_le_mul (show j ≤ 64 by omega) (show nn ≤ 64 by omega)
      have b4 : w'.heap.size + 1 ≤ W4.heap.size := Nat.le_trans hss HO4.out.size
      have HM4 := Lib.hid hm4
      have HOW4 := Lib.hid how4
      have HRD := Lib.hid hrd
      have n0 : (0 : Int) ≤ (nn : Int) := by omega
      clear hm4 how4 hrd
      refine wp_region_held_drew (S := fun _ => True) (by kernel_rfl) trivial (fun hHeld => ?_)
      refine wpAnyH_take (i := 0) (v := ?_) rfl (by kernel_rfl) (by kernel_rfl) (by kernel_rfl) (fun _ _ _ h => h) (Or.inl ⟨by kernel_rfl, ?_⟩) (by assumption) ?_
      rotate_left
      · (intro w hSw; (try dsimp only at hSw); go_simp; (try with_reducible rfl))
      try simp only [List.getElem_toArray, List.getElem_cons_succ, List.getElem_cons_zero, Act.put, List.setIfInBounds_toArray, List.set_cons_zero, List.set_cons_succ]
      refine wpAnyH_take (i := 2) (v := ?_) rfl (by kernel_rfl) (by kernel_rfl) (by kernel_rfl) (fun _ _ _ h => h) (Or.inl ⟨by kernel_rfl, ?_⟩) (by assumption) ?_
      rotate_left
      · (intro w hSw; (try dsimp only at hSw); go_simp; (try with_reducible rfl))
      try simp only [List.getElem_toArray, List.getElem_cons_succ, List.getElem_cons_zero, Act.put, List.setIfInBounds_toArray, List.set_cons_zero, List.set_cons_succ]
      refine wpAnyH_take (i := 3) (v := ?_) rfl (by kernel_rfl) (by kernel_rfl) (by kernel_rfl) (fun _ _ _ h => h) (Or.inl ⟨by kernel_rfl, ?_⟩) (by assumption) ?_
      rotate_left
      · (intro w hSw; (try dsimp only at hSw); go_simp; (try with_reducible rfl))
      try simp only [List.getElem_toArray, List.getElem_cons_succ, List.getElem_cons_zero, Act.put, List.setIfInBounds_toArray, List.set_cons_zero, List.set_cons_succ]
      refine wpAnyH_ready (rs := [1]) (by kernel_rfl) (by simp) ?_
      refine AllReadyH.cons rfl (fun K hK => ?_) AllReadyH.nil
      go_simp
      refine hK.out _ _ trivial (fun hHeld => ?_)
      clear hK K
      try simp only [List.getElem_toArray, List.getElem_cons_succ, List.getElem_cons_zero, Act.put, List.setIfInBounds_toArray, List.set_cons_zero, List.set_cons_succ]
      refine wpAnyH_ready (rs := [4]) (by kernel_rfl) (by simp) ?_
      refine AllReadyH.cons rfl (fun K hK => ?_) AllReadyH.nil
      refine step_append_rd (.tmp 35) (.tmp 37) rfl rfl (w'.heap.size + 1) v _ x rfl (HOW4.out.drewN 1) _ (some ⟨wr.heap.size, 0, none⟩) nn 64 rfl HRD.out (by omega) b4 ?_
      intro v6 w6 ho6 hg6 hat6
      obtain ⟨A6, c6, rfl, _⟩ := ho6.slice
      generalize hm6 : (outsD (st.outs.take j) ++ x).length = m6 at *
      have HM6 := Lib.hid hm6
      clear hm6
      have hb6 : Below (w'.heap.size + 1) W4.drew w6 := grown_below hg6 b4 (fun k hk => (World.ownsRow.lt HOW4.out k hk).1)
      have hb6' : Below (w'.heap.size + 1) W4 w6 := ⟨hb6.os, hb6.tape, hb6.output, hb6.size, hb6.block⟩
      have hm6r := HM4.out.below hb6' (by omega)
      have c62 : w6.cell? ⟨w'.heap.size, 2, none⟩ = some v := hm6r.cell 2
      have f62 : w6.frozen? ⟨w'.heap.size, 2, none⟩ = false := hm6r.frozen 2
      have HF1 := Lib.hid (hm6r.set 2 (.slice A6 m6 c6))
      have HF2 := Lib.hid (own_far2 (g := w'.heap.size) (i := 2) ho6 (by omega) (.slice A6 m6 c6))
      have HF3 := Lib.hid (((HGG.out.below HO4.out HGG.out.lt).below hb6' (by omega)).far (p := ⟨w'.heap.size, 2, none⟩) (by simp; omega) (.slice A6 m6 c6))
      have HF4 := Lib.hid (((HRR.out.below HO4.out HRR.out.lt).below hb6' (by omega)).far (p := ⟨w'.heap.size, 2, none⟩) (by simp; omega) (.slice A6 m6 c6))
      have HF5 := Lib.hid (show Below w.heap.size w (w6.setCell ⟨w'.heap.size, 2, none⟩ (.slice A6 m6 c6)) from ((HQQ.out.trans (HO4.out.mono HQQ.out.size)).trans (hb6'.mono (by omega))).setCell (by simp; omega) _)
      have HF6 := Lib.hid (show w'.heap.size + 1 ≤ (w6.setCell ⟨w'.heap.size, 2, none⟩ (.slice A6 m6 c6)).heap.size by have := hb6'.size; simp [World.setCell]; omega)
      clear ho6 hg6 hat6 hb6 hb6' hm6r
      refine hK.out _ _ trivial (fun hHeld => ?_)
      clear hK K
      try simp only [List.getElem_toArray, List.getElem_cons_succ, List.getElem_cons_zero, Act.put, List.setIfInBounds_toArray, List.set_cons_zero, List.set_cons_succ]
      refine wpAnyH_take (i := 5) (v := ?_) rfl (by kernel_rfl) (by kernel_rfl) (by kernel_rfl) (fun _ _ _ h => h) (Or.inl ⟨by kernel_rfl, ?_⟩) (by assumption) ?_
      rotate_left
      · (intro w hSw; (try dsimp only at hSw); go_simp; (try with_reducible rfl))
      try simp only [List.getElem_toArray, List.getElem_cons_succ, List.getElem_cons_zero, Act.put, List.setIfInBounds_toArray, List.set_cons_zero, List.set_cons_succ]
      refine wpAnyH_ready (rs := [6]) (by kernel_rfl) (by simp) ?_
      refine AllReadyH.cons rfl (fun K hK => ?_) AllReadyH.nil
      go_simp
      refine hK.out _ _ trivial (fun hHeld => ?_)
      clear hK K
      try simp only [List.getElem_toArray, List.getElem_cons_succ, List.getElem_cons_zero, Act.put, List.setIfInBounds_toArray, List.set_cons_zero, List.set_cons_succ]
      refine wpAnyH_done (by kernel_rfl) ?_ _
      go_wp2_with fail
      go_roundw
      case rel => exact ⟨j + 1, _, by omega, by go_num, HF1.out, by rw [hxo]; exact HF2.out, by rw [hxo, List.length_append, hjl, lx, Nat.add_mul, Nat.one_mul], HF3.out, HF4.out, HF5.out, HF6.out⟩
      case measure => simp [intOf] <;> omega
    · obtain rfl : j = no := by omega
      rw [← lno, List.take_length] at how
      have m0 : wr.cell? ⟨w'.heap.size, 0, none⟩ = some (.int .i64 o) := hmm.cell 0
      have m1 : wr.cell? ⟨w'.heap.size, 1, none⟩ = some (.int .i64 (nn : Int)) := hmm.cell 1
      have m2 : wr.cell? ⟨w'.heap.size, 2, none⟩ = some v := hmm.cell 2
      obtain ⟨c40, c41, c42, f40, f41, f42⟩ := hrr.three
      obtain ⟨Av, cv, rfl, _⟩ := how.slice
      generalize hmv : (outsD st.outs).length = mv at *
      have HMV := Lib.hid hmv
      clear hmv
      have HOWF := Lib.hid how
      have R4 := hrr.set3 (.int .i64 o) (.int .i64 (nn : Int)) (.slice Av mv cv)
      obtain ⟨d0, d1, d2, _, _, _⟩ := R4.three
      have H9 := Lib.hid (own_far2 (i := 2) (own_far2 (i := 1) (own_far2 (i := 0) how (show w.heap.size + 1 < w'.heap.size + 1 by omega) (.int .i64 o)) (show w.heap.size + 1 < w'.heap.size + 1 by omega) (.int .i64 (nn : Int))) (show w.heap.size + 1 < w'.heap.size + 1 by omega) (.slice Av mv cv))
      have H10 := Lib.hid (((hqq.setCell (p := ⟨w.heap.size + 1, 0, none⟩) (by simp) (.int .i64 o)).setCell (p := ⟨w.heap.size + 1, 1, none⟩) (by simp) (.int .i64 (nn : Int))).setCell (p := ⟨w.heap.size + 1, 2, none⟩) (by simp) (.slice Av mv cv))
      clear hmm how hgg hrr hqq
      go_wp2_with fail
      refine bodyPost_ret (v := .tuple #[.agg #[.int .i64 o, .int .i64 (nn : Int), .slice Av mv cv], .int .i64 0]) (by simp [results, Try.results13, go_sem, d0, d1, d2]) rfl ?_
      exact ⟨⟨_, w'.heap.size + 1, by omega, rfl, H9.out⟩, H10.out⟩
end Go.Proofs.Ythbjcafldbocpaa
namespace Go.Proofs.Ythbjcafldbocpaa
open Go.RowKit Go.Proofs.YthbjcafldbocpaaW.PrintWords Go.Proofs.Ythbjcafldbocpaa.P0
set_option linter.unusedVariables false
set_option linter.unusedSimpArgs false
set_option maxRecDepth 100000 in
theorem makes_no {w : World} {A : Option Addr} {c : Nat} {l : List S59} {r o q n code : Int} (hcode : code ≠ 0)
    (hlook : ∀ w1, Below w.heap.size w w1 → Calls Try.prog 30 #[.agg #[.slice A l.length c, .int .i64 r, .int .i64 o, .int .u64 q], .int .i64 n] w1 fun e w' => ∃ p, e = .returned (.tuple #[.pointer p, .int .i64 code]) ∧ Below w1.heap.size w1 w') :
    Calls Try.prog 13 #[progV A l.length c r o q, .int .i64 n] w fun e w' => e = .returned (.tuple #[.agg #[.int .i64 0, .int .i64 0, .slice none 0 0], .int .i64 code]) ∧ Below w.heap.size w w' := by
  unfold progV
  have hcn : (code != 0) = true := by simpa using hcode
  go_enter Try.func13, Try.ntmps13
  go_wp2_with fail
  obtain ⟨W1, hW1⟩ : ∃ W1, W1 = (w.alloc (.cells #[.slice A l.length c, .int .i64 r, .int .i64 o, .int .u64 q] 26)).alloc (.cells #[.int .i64 0, .int .i64 0, .slice none 0 0] 37) := ⟨_, rfl⟩
  have q1 : Below w.heap.size w W1 := by rw [hW1]; exact ((Below.refl _ _).alloc (Nat.le_refl _) _).alloc (by simp) _
  have hm4 : Row W1 (w.heap.size + 1) 37 [.int .i64 0, .int .i64 0, .slice none 0 0] := by
    rw [hW1]
    have := Row.new (w.alloc (.cells #[.slice A l.length c, .int .i64 r, .int .i64 o, .int .u64 q] 26)) [.int .i64 0, .int .i64 0, .slice none 0 0] 37
    simpa using this
  rw [← hW1]
  clear hW1
  refine (hlook W1 q1).mono ?_
  rintro e w' ⟨p, rfl, hbl⟩
  have hm2 := hm4.below hbl hm4.lt
  have q2 : Below w.heap.size w w' := q1.trans (hbl.mono q1.size)
  obtain ⟨c40, c41, c42, f40, f41, f42⟩ := hm2.three
  have R4 := hm2.set3 (.int .i64 0) (.int .i64 0) (.slice none 0 0)
  obtain ⟨d0, d1, d2, _, _, _⟩ := R4.three
  have H10 := Lib.hid (((q2.setCell (p := ⟨w.heap.size + 1, 0, none⟩) (by simp) (.int .i64 0)).setCell (p := ⟨w.heap.size + 1, 1, none⟩) (by simp) (.int .i64 0)).setCell (p := ⟨w.heap.size + 1, 2, none⟩) (by simp) (.slice none 0 0))
  clear hm4 hm2 q1 q2 hbl R4 hlook
  go_wp2_with fail
  refine bodyPost_ret (v := .tuple #[.agg #[.int .i64 0, .int .i64 0, .slice none 0 0], .int .i64 code]) (by simp [results, Try.results13, go_sem, d0, d1, d2]) rfl ?_
  exact ⟨rfl, H10.out⟩
def makesV (l : List S59) (r o q n : Int) : Int × Int × List UInt8 × Int :=
  if n < 0 ∨ 64 < n ∨ mayB l r o = false then (0, 0, [], 2)
  else match vAll r.toNat o.toNat q.toNat n.toNat (l.map psOf) with
    | (_, some st) => (o, n, outsD st.outs, 0)
    | (_, none) => (0, 0, [], 250)
theorem makes_calls {w : World} {A : Option Addr} {c : Nat} {l : List S59} {r o q n : Int} (hC : Kd.C k59 w A l.length l) (hc : l.length ≤ c) (hb : ∀ s ∈ l, byteB s.f3 = true) (hq : 0 ≤ q) (hq2 : q < 2 ^ 64) :
    Calls Try.prog 13 #[progV A l.length c r o q, .int .i64 n] w fun e w' => MatE w' w.heap.size (makesV l r o q n).1 (makesV l r o q n).2.1 (makesV l r o q n).2.2.1 (makesV l r o q n).2.2.2 e ∧ Below w.heap.size w w' := by
  by_cases h : n < 0 ∨ 64 < n ∨ mayB l r o = false
  · have e : makesV l r o q n = (0, 0, [], 2) := by unfold makesV; exact if_pos h
    rw [e]
    refine (makes_no (code := 2) (by decide) (fun w1 h1 => ((look_bad (r := r) (o := o) (q := q) (n := n) (Kd.C_below hC h1) hc h).mono ?_))).mono ?_
    · rintro e w' ⟨rfl, hbl⟩
      exact ⟨none, rfl, hbl⟩
    · rintro e w' ⟨rfl, hbl⟩
      exact ⟨⟨_, w.heap.size, Nat.le_refl _, rfl, OwnV.nil _ _⟩, hbl⟩
  · have h' : mayB l r o = true := by
      cases hm : mayB l r o
      · exact absurd (.inr (.inr hm)) h
      · rfl
    cases hv : vAll r.toNat o.toNat q.toNat n.toNat (l.map psOf) with
    | mk i st =>
      cases st with
      | some st =>
        have e : makesV l r o q n = (o, n, outsD st.outs, 0) := by unfold makesV; rw [if_neg h, hv]
        rw [e]
        exact makes_yes hC hc hb hq hq2 (by omega) (by omega) h' st i hv
      | none =>
        have e : makesV l r o q n = (0, 0, [], 250) := by unfold makesV; rw [if_neg h, hv]
        rw [e]
        refine (makes_no (code := 250) (by decide) (fun w1 h1 => ((look_all (r := r) (o := o) (q := q) (n := n) (Kd.C_below hC h1) hc hb hq hq2 (by omega) (by omega) h').mono ?_))).mono ?_
        · rintro e w' ⟨gk, gr, gs, go, gd, G, hbl, hy, hno⟩
          rw [hv] at hno
          obtain ⟨rfl, _⟩ := hno rfl
          exact ⟨_, rfl, hbl⟩
        · rintro e w' ⟨rfl, hbl⟩
          exact ⟨⟨_, w.heap.size, Nat.le_refl _, rfl, OwnV.nil _ _⟩, hbl⟩
end Go.Proofs.Ythbjcafldbocpaa
namespace Go.Proofs.Ythbjcafldbocpaa
open Go.RowKit Go.Proofs.YthbjcafldbocpaaW.PrintWords Go.Proofs.Ythbjcafldbocpaa.P0
set_option linter.unusedVariables false
set_option linter.unusedSimpArgs false
theorem own_le {w : World} {base n cap : Nat} {A : Option Addr} {xs : List UInt8} (h : OwnB w base A n cap xs) : n ≤ cap := by
  rcases h.2.2 with ⟨h1, h2⟩ | ⟨g, c, cur, hv, hg, hh, h3, _⟩
  · omega
  · simp only [Value.slice.injEq] at hv
    obtain ⟨_, _, rfl⟩ := hv
    exact h3
def doesB (gr gc : Int) (ng : Nat) (wr wc : Int) (nw : Nat) : Bool := rightB gr gc ng && rightB wr wc nw && decide (gc = wc)
def doesM (a : Int × Int × List UInt8 × Int) (gr gc : Int) (xs : List UInt8) (wr wc : Int) (ys : List UInt8) : Bool × Int :=
  if doesB gr gc xs.length wr wc ys.length = false then (false, 3) else if a.2.2.2 ≠ 0 then (false, a.2.2.2)
  else (likeB a.1 gc (mulG a.1.toNat gr.toNat gc.toNat a.2.2.1 xs) wr wc ys, 0)
theorem doesB_cases {gr gc wr wc : Int} {ng nw : Nat} (h : doesB gr gc ng wr wc nw = false) : rightB gr gc ng = false ∨ (rightB gr gc ng = true ∧ rightB wr wc nw = false) ∨ (rightB gr gc ng = true ∧ rightB wr wc nw = true ∧ (gc != wc) = true) := by
  unfold doesB at h
  cases h1 : rightB gr gc ng
  · exact .inl rfl
  · cases h2 : rightB wr wc nw
    · exact .inr (.inl ⟨rfl, rfl⟩)
    · rw [h1, h2] at h; simp at h; exact .inr (.inr ⟨rfl, rfl, by simpa using h⟩)
set_option maxRecDepth 100000 in
set_option maxHeartbeats 1600000 in
theorem does_no {w : World} {A B D : Option Addr} {c nl ng kg nw kw : Nat} {r o q gr gc wr wc : Int} {xs ys : List UInt8} (hx : Rd w w.heap.size B ng (bVs xs)) (hy : Rd w w.heap.size D nw (bVs ys)) (h : doesB gr gc ng wr wc nw = false) :
    Calls Try.prog 26 #[progV A nl c r o q, mV gr gc B ng kg, mV wr wc D nw kw] w fun e w' => e = .returned (.tuple #[.bool false, .int .i64 3]) ∧ Below w.heap.size w w' := by
  unfold progV
  have HR1 := Lib.hid (fun w => right_calls gr gc B ng kg w)
  have HR2 := Lib.hid (fun w => right_calls wr wc D nw kw w)
  have S := ((((Cx.start w).add hx).add hy).box 26 [.slice A nl c, .int .i64 r, .int .i64 o, .int .u64 q]).box 37 [.int .i64 gr, .int .i64 gc, .slice B ng kg] |>.box 37 [.int .i64 wr, .int .i64 wc, .slice D nw kw]
  simp only [World.size_alloc] at S
  obtain ⟨c0, c1, c2⟩ := S.cells3 1 rfl
  obtain ⟨d0, d1, d2⟩ := S.cells3 0 rfl
  obtain ⟨p0, p1, p2, p3⟩ := S.cells4 2 rfl
  clear hx hy
  rcases doesB_cases h with h1 | ⟨h1, h2⟩ | ⟨h1, h2, h3⟩
  · rw [h1] at HR1
    clear h h1
    go_enter Try.func26, Try.ntmps26
    go_wp2_with (go_at_call 43; (first | (with_reducible refine (HR1.out _).mono ?_) | (with_reducible refine (HR2.out _).mono ?_)); rintro e w1 ⟨rfl, hb⟩; replace S := S.go hb; clear hb c0 c1 c2 d0 d1 d2 p0 p1 p2 p3; obtain ⟨c0, c1, c2⟩ := S.cells3 1 rfl; obtain ⟨d0, d1, d2⟩ := S.cells3 0 rfl; obtain ⟨p0, p1, p2, p3⟩ := S.cells4 2 rfl)
    go_ret2
    exact ⟨rfl, S.below⟩
  · rw [h1] at HR1
    rw [h2] at HR2
    clear h h1 h2
    go_enter Try.func26, Try.ntmps26
    go_wp2_with (go_at_call 43; (first | (with_reducible refine (HR1.out _).mono ?_) | (with_reducible refine (HR2.out _).mono ?_)); rintro e w1 ⟨rfl, hb⟩; replace S := S.go hb; clear hb c0 c1 c2 d0 d1 d2 p0 p1 p2 p3; obtain ⟨c0, c1, c2⟩ := S.cells3 1 rfl; obtain ⟨d0, d1, d2⟩ := S.cells3 0 rfl; obtain ⟨p0, p1, p2, p3⟩ := S.cells4 2 rfl)
    go_ret2
    exact ⟨rfl, S.below⟩
  · rw [h1] at HR1
    rw [h2] at HR2
    clear h h1 h2
    go_enter Try.func26, Try.ntmps26
    go_wp2_with (go_at_call 43; (first | (with_reducible refine (HR1.out _).mono ?_) | (with_reducible refine (HR2.out _).mono ?_)); rintro e w1 ⟨rfl, hb⟩; replace S := S.go hb; clear hb c0 c1 c2 d0 d1 d2 p0 p1 p2 p3; obtain ⟨c0, c1, c2⟩ := S.cells3 1 rfl; obtain ⟨d0, d1, d2⟩ := S.cells3 0 rfl; obtain ⟨p0, p1, p2, p3⟩ := S.cells4 2 rfl)
    go_ret2
    exact ⟨rfl, S.below⟩
set_option maxRecDepth 100000 in
set_option maxHeartbeats 1600000 in
theorem does_err {w : World} {A B D : Option Addr} {c nl ng kg nw kw : Nat} {r o q gr gc wr wc : Int} {xs ys : List UInt8} {ar ac code : Int} {ad : List UInt8} (hcode : code ≠ 0) (hx : Rd w w.heap.size B ng (bVs xs)) (hy : Rd w w.heap.size D nw (bVs ys)) (h1 : rightB gr gc ng = true) (h2 : rightB wr wc nw = true) (h3 : gc = wc)
    (H : Hid (∀ w1, Below w.heap.size w w1 → Calls Try.prog 13 #[.agg #[.slice A nl c, .int .i64 r, .int .i64 o, .int .u64 q], .int .i64 gr] w1 fun e w' => MatE w' w1.heap.size ar ac ad code e ∧ Below w1.heap.size w1 w')) :
    Calls Try.prog 26 #[progV A nl c r o q, mV gr gc B ng kg, mV wr wc D nw kw] w fun e w' => e = .returned (.tuple #[.bool false, .int .i64 code]) ∧ Below w.heap.size w w' := by
  subst h3
  unfold progV
  have hcn : (code != 0) = true := by simpa using hcode
  have hcc : (gc != gc) = false := by simp
  have HR1 := Lib.hid (fun w => right_calls gr gc B ng kg w)
  have HR2 := Lib.hid (fun w => right_calls wr gc D nw kw w)
  have S := ((((Cx.start w).add hx).add hy).box 26 [.slice A nl c, .int .i64 r, .int .i64 o, .int .u64 q]).box 37 [.int .i64 gr, .int .i64 gc, .slice B ng kg] |>.box 37 [.int .i64 wr, .int .i64 gc, .slice D nw kw]
  simp only [World.size_alloc] at S
  obtain ⟨c0, c1, c2⟩ := S.cells3 1 rfl
  obtain ⟨d0, d1, d2⟩ := S.cells3 0 rfl
  obtain ⟨p0, p1, p2, p3⟩ := S.cells4 2 rfl
  clear hx hy hcode
  rw [h1] at HR1
  rw [h2] at HR2
  clear h1 h2
  go_enter Try.func26, Try.ntmps26
  go_wp2_with (first | (go_at_call 43; (first | (with_reducible refine (HR1.out _).mono ?_) | (with_reducible refine (HR2.out _).mono ?_)); rintro e w1 ⟨rfl, hb⟩; replace S := S.go hb; clear hb c0 c1 c2 d0 d1 d2 p0 p1 p2 p3; obtain ⟨c0, c1, c2⟩ := S.cells3 1 rfl; obtain ⟨d0, d1, d2⟩ := S.cells3 0 rfl; obtain ⟨p0, p1, p2, p3⟩ := S.cells4 2 rfl) | (go_at_call 13; refine (H.out _ S.below).mono ?_; rintro e w1 ⟨⟨va, ba, hba, rfl, oa⟩, hb1⟩; obtain ⟨Aa, ca, rfl, hxa⟩ := oa.slice; replace S := ((S.go hb1).add hxa.rd).box 37 [.int .i64 ar, .int .i64 ac, .slice Aa ad.length ca]; have HLE := Lib.hid (own_le hxa); clear hb1 oa hxa c0 c1 c2 d0 d1 d2 p0 p1 p2 p3; obtain ⟨c0, c1, c2⟩ := S.cells3 2 rfl; obtain ⟨d0, d1, d2⟩ := S.cells3 1 rfl; obtain ⟨e0, e1, e2⟩ := S.cells3 0 rfl))
  go_ret2
  exact ⟨rfl, S.below⟩
set_option maxRecDepth 100000 in
set_option maxHeartbeats 1600000 in
theorem does_yes {w : World} {A B D : Option Addr} {c nl ng kg nw kw no m k : Nat} {r o q wr wc : Int} {ad xs ys : List UInt8} (hx : Rd w w.heap.size B ng (bVs xs)) (hy : Rd w w.heap.size D nw (bVs ys)) (hkg : ng ≤ kg) (hno : no ≤ 64) (hm : m ≤ 64) (hk : k ≤ 64) (hng : ng = m * k) (had : ad.length = no * m) (h2 : rightB wr (k : Int) nw = true)
    (H : Hid (∀ w1, Below w.heap.size w w1 → Calls Try.prog 13 #[.agg #[.slice A nl c, .int .i64 r, .int .i64 o, .int .u64 q], .int .i64 (m : Int)] w1 fun e w' => MatE w' w1.heap.size (no : Int) (m : Int) ad 0 e ∧ Below w1.heap.size w1 w')) :
    Calls Try.prog 26 #[progV A nl c r o q, mV (m : Int) (k : Int) B ng kg, mV wr (k : Int) D nw kw] w fun e w' => e = .returned (.tuple #[.bool (likeB (no : Int) (k : Int) (mulG no m k ad xs) wr (k : Int) ys), .int .i64 0]) ∧ Below w.heap.size w w' := by
  unfold progV
  have hcc : (((k : Nat) : Int) != ((k : Nat) : Int)) = false := by simp
  have h1 : rightB (m : Int) (k : Int) ng = true := by rw [hng]; simp [rightB]; omega
  have HR1 := Lib.hid (fun w => right_calls (m : Int) (k : Int) B ng kg w)
  have HR2 := Lib.hid (fun w => right_calls wr (k : Int) D nw kw w)
  have S := ((((Cx.start w).add hx).add hy).box 26 [.slice A nl c, .int .i64 r, .int .i64 o, .int .u64 q]).box 37 [.int .i64 (m : Int), .int .i64 (k : Int), .slice B ng kg] |>.box 37 [.int .i64 wr, .int .i64 (k : Int), .slice D nw kw]
  simp only [World.size_alloc] at S
  obtain ⟨c0, c1, c2⟩ := S.cells3 1 rfl
  obtain ⟨d0, d1, d2⟩ := S.cells3 0 rfl
  obtain ⟨p0, p1, p2, p3⟩ := S.cells4 2 rfl
  have HN := Lib.hid hng
  have HAD := Lib.hid had
  clear hx hy hng had
  rw [h1] at HR1
  rw [h2] at HR2
  have H2 := Lib.hid h2
  clear h1 h2
  obtain ⟨p, hp⟩ : ∃ p, p = no * k := ⟨_, rfl⟩
  have HP := Lib.hid hp
  clear hp
  go_enter Try.func26, Try.ntmps26
  go_wp2_with (first | (go_at_call 43; (first | (with_reducible refine (HR1.out _).mono ?_) | (with_reducible refine (HR2.out _).mono ?_)); rintro e w1 ⟨rfl, hb⟩; replace S := S.go hb; clear hb c0 c1 c2 d0 d1 d2 p0 p1 p2 p3; obtain ⟨c0, c1, c2⟩ := S.cells3 1 rfl; obtain ⟨d0, d1, d2⟩ := S.cells3 0 rfl; obtain ⟨p0, p1, p2, p3⟩ := S.cells4 2 rfl) | (go_at_call 13; refine (H.out _ S.below).mono ?_; rintro e w1 ⟨⟨va, ba, hba, rfl, oa⟩, hb1⟩; obtain ⟨Aa, ca, rfl, hxa⟩ := oa.slice; replace S := ((S.go hb1).add hxa.rd).box 37 [.int .i64 (no : Int), .int .i64 (m : Int), .slice Aa ad.length ca]; have HLE := Lib.hid (own_le hxa); clear hb1 oa hxa c0 c1 c2 d0 d1 d2 p0 p1 p2 p3; obtain ⟨c0, c1, c2⟩ := S.cells3 2 rfl; obtain ⟨d0, d1, d2⟩ := S.cells3 1 rfl; obtain ⟨e0, e1, e2⟩ := S.cells3 0 rfl))
  generalize hna : ad.length = na at *
  have HNA := Lib.hid (show na = no * m from HAD.out)
  clear hna
  refine (mul_yes no m k na ng p Aa B ca kg ad xs _ hno hm hk HNA HN HP (S.rd 0 rfl) (S.rd 2 rfl) HLE.out hkg).mono ?_
  rintro e w2 ⟨g, rfl, hg, hgl, hb2⟩
  have hlg : (mulG no m k ad xs).length = p := by rw [HP.out]; exact grid_length _ _ _
  have hrg : Rd w2 w2.heap.size (some ⟨g, 0, none⟩) p (bVs (mulG no m k ad xs)) := by rw [← hlg]; exact (RdT.of_row hg).rd
  replace S := ((S.go hb2).add hrg).box 37 [.int .i64 (no : Int), .int .i64 (k : Int), .slice (some ⟨g, 0, none⟩) p p]
  clear hb2 hg hgl hlg hrg c0 c1 c2 d0 d1 d2 e0 e1 e2
  obtain ⟨c0, c1, c2⟩ := S.cells3 3 rfl
  obtain ⟨d0, d1, d2⟩ := S.cells3 2 rfl
  obtain ⟨e0, e1, e2⟩ := S.cells3 0 rfl
  go_wp2_with fail
  refine (msame_calls (no : Int) (k : Int) _ _ _ _ _ _ _ _ _ _ _ (S.rd 0 rfl) (S.rd 2 rfl) (by rw [HP.out]; simp [rightB]; omega) H2.out).mono ?_
  rintro e w3 ⟨rfl, hb3⟩
  replace S := S.go hb3
  clear hb3
  go_wp2_with fail
  go_ret2
  exact ⟨rfl, S.below⟩
end Go.Proofs.Ythbjcafldbocpaa
namespace Go.Proofs.Ythbjcafldbocpaa
open Go.RowKit Go.Proofs.YthbjcafldbocpaaW.PrintWords Go.Proofs.Ythbjcafldbocpaa.P0
set_option linter.unusedVariables false
set_option linter.unusedSimpArgs false

theorem pu_right (r c : Int) (l : List Int) : recoupref03_Right.f r c l = some (rightB r c l.length) := by
  unfold recoupref03_Right.f rightB
  by_cases h1 : r ≥ 0
  · rw [if_pos h1]
    by_cases h2 : r ≤ 64
    · rw [if_pos h2]
      by_cases h3 : c ≥ 0
      · rw [if_pos h3]
        by_cases h4 : c ≤ 64
        · rw [if_pos h4]
          have b := prod_bd h1 h2 h3 h4
          rw [w64 (by omega) (by omega)]
          congr 1
          rw [Bool.eq_iff_iff, beq_iff_eq, decide_eq_true_eq]
          exact ⟨fun h => ⟨⟨h1, h2⟩, ⟨h3, h4⟩, h⟩, fun h => h.2.2⟩
        · rw [if_neg h4]; congr 1; exact (decide_eq_false (fun h => h4 h.2.1.2)).symm
      · rw [if_neg h3]; congr 1; exact (decide_eq_false (fun h => h3 h.2.1.1)).symm
    · rw [if_neg h2]; congr 1; exact (decide_eq_false (fun h => h2 h.1.2)).symm
  · rw [if_neg h1]; congr 1; exact (decide_eq_false (fun h => h1 h.1.1)).symm
theorem pu_at {r : Int} {c i j : Nat} {xs : List UInt8} (h : i * c + j < xs.length) (hb : i * c + j ≤ 9223372036854775807) : recoupref03_At.f r (c : Int) (nI xs) (i : Int) (j : Int) = some ((xs.getD (i * c + j) 0).toNat : Int) := by
  unfold recoupref03_At.f
  rw [w64_place hb, if_pos (by omega), if_pos (by rw [nI_length]; omega), rd_nI]
theorem pu_mul8 (a b : UInt8) : recoupref01_Mul.f (a.toNat : Int) (b.toNat : Int) = some ((Gf.mul a b).toNat : Int) := by
  unfold recoupref01_Mul.f
  rw [byteB_nat, byteB_nat, toU_nat, toU_nat]
  rfl
theorem pu_zero {r c : Nat} (h : r * c ≤ 281474976710656) : recoupref03_Zero.f (r : Int) (c : Int) = some ((r : Int), (c : Int), nI (List.replicate (r * c) 0)) := by
  unfold recoupref03_Zero.f
  rw [w64_mul (by omega), if_pos (by omega), Int.toNat_natCast, if_pos h, nI_rep]
section
variable {ra ca cb : Nat} {xs ys : List UInt8}
theorem pu_mul_l2 (hra : ra ≤ 64) (hca : ca ≤ 64) (hcb : cb ≤ 64) (hx : xs.length = ra * ca) (hy : ys.length = ca * cb) {i j : Nat} (hi : i < ra) (hj : j < cb) {r : Int × Int × List Int × Int}
    (hr : Ev (fun k => recoupref03_Mul.l1 k (i : Int) ((j + 1 : Nat) : Int) ra ca (nI xs) ca cb (nI ys) ra cb (nI (fillT ra cb (mulF ca cb xs ys) i (j + 1)))) r) :
    ∀ d q, q + d = ca → Ev (fun k => recoupref03_Mul.l2 k (i : Int) (j : Int) (q : Int) ra ca (nI xs) ca cb (nI ys) ra cb (nI ((fillT ra cb (mulF ca cb xs ys) i j).set (i * cb + j) (sumF q fun t => Gf.mul (xs.getD (i * ca + t) 0) (ys.getD (t * cb + j) 0))))) r := by
  have hp := place_lt hi hj
  have hpb : ra * cb ≤ 64 * 64 := Nat.mul_le_mul hra hcb
  have hab : ra * ca ≤ 64 * 64 := Nat.mul_le_mul hra hca
  have hbb : ca * cb ≤ 64 * 64 := Nat.mul_le_mul hca hcb
  intro d
  induction d with
  | zero =>
    intro q hq
    obtain rfl : q = ca := by omega
    refine Ev.step (fun k => ?_) hr
    rw [recoupref03_Mul.l2, if_neg (by omega), w64_succ (by omega)]
    have e := fillT_set (R := ra) (C := cb) (mulF q cb xs ys) hi hj
    rw [← e]
    rfl
  | succ d ih =>
    intro q hq
    refine Ev.step (fun k => ?_) (ih (q + 1) (by omega))
    have h1 := place_lt hi (show q < ca by omega)
    have h2 := place_lt (show q < ca by omega) hj
    rw [recoupref03_Mul.l2, if_pos (by omega), w64_place (by omega), if_pos (by omega), if_pos (by rw [nI_length, List.length_set, fillT_length]; omega),
      pu_at (by omega) (by omega), Option.bind_some, pu_at (by omega) (by omega), Option.bind_some, pu_mul8, Option.bind_some, w64_succ (by omega), Int.toNat_natCast, rd_nI,
      getD_set_same _ _ _ (by rw [fillT_length]; omega), add_xor, nI_set, List.set_set]
    rfl
theorem pu_mul_l1 (hra : ra ≤ 64) (hca : ca ≤ 64) (hcb : cb ≤ 64) (hx : xs.length = ra * ca) (hy : ys.length = ca * cb) {i : Nat} (hi : i < ra) {r : Int × Int × List Int × Int}
    (hr : Ev (fun k => recoupref03_Mul.l0 k ((i + 1 : Nat) : Int) ra ca (nI xs) ca cb (nI ys) ra cb (nI (fillT ra cb (mulF ca cb xs ys) (i + 1) 0))) r) :
    ∀ d j, j + d = cb → Ev (fun k => recoupref03_Mul.l1 k (i : Int) (j : Int) ra ca (nI xs) ca cb (nI ys) ra cb (nI (fillT ra cb (mulF ca cb xs ys) i j))) r := by
  intro d
  induction d with
  | zero =>
    intro j hj
    obtain rfl : j = cb := by omega
    refine Ev.step (fun k => ?_) hr
    rw [recoupref03_Mul.l1, if_neg (by omega), w64_succ (by omega), fillT_next]
  | succ d ih =>
    intro j hj
    have h0 := pu_mul_l2 hra hca hcb hx hy hi (show j < cb by omega) (ih (j + 1) (by omega)) ca 0 (by omega)
    refine Ev.step (fun k => ?_) h0
    rw [recoupref03_Mul.l1, if_pos (by omega)]
    have e := fillT_at (R := ra) (C := cb) (mulF ca cb xs ys) hi (show j < cb by omega)
    simp only [sumF]
    rw [e]
    rfl
theorem pu_mul_l0 (hra : ra ≤ 64) (hca : ca ≤ 64) (hcb : cb ≤ 64) (hx : xs.length = ra * ca) (hy : ys.length = ca * cb) :
    ∀ d i, i + d = ra → Ev (fun k => recoupref03_Mul.l0 k (i : Int) ra ca (nI xs) ca cb (nI ys) ra cb (nI (fillT ra cb (mulF ca cb xs ys) i 0))) ((ra : Int), (cb : Int), nI (mulG ra ca cb xs ys), 0) := by
  intro d
  induction d with
  | zero =>
    intro i hi
    obtain rfl : i = ra := by omega
    refine Ev.step (fun k => ?_) (Ev.now _)
    rw [recoupref03_Mul.l0, if_neg (by omega), fillT_end]
    rfl
  | succ d ih =>
    intro i hi
    have h0 := pu_mul_l1 hra hca hcb hx hy (show i < ra by omega) (ih (i + 1) (by omega)) cb 0 (by omega)
    refine Ev.step (fun k => ?_) h0
    rw [recoupref03_Mul.l0, if_pos (by omega)]
    rfl
end
theorem pu_mul (ra ca rb cb : Int) (xs ys : List UInt8) :
    Ev (fun k => recoupref03_Mul.f k ra ca (nI xs) rb cb (nI ys)) (if mulB ra ca xs.length rb cb ys.length = true then (ra, cb, nI (mulG ra.toNat ca.toNat cb.toNat xs ys), 0) else (0, 0, [], 3)) := by
  unfold recoupref03_Mul.f
  simp only [pu_right, nI_length, Option.bind_some]
  by_cases h1 : rightB ra ca xs.length = true
  · by_cases h2 : rightB rb cb ys.length = true
    · simp only [h1, h2, if_true]
      by_cases h3 : ca = rb
      · have hm : mulB ra ca xs.length rb cb ys.length = true := by unfold mulB; rw [h1, h2]; simp [h3]
        rw [if_pos hm]
        obtain ⟨a, b, c, rfl, rfl, rfl, rfl, k1, k2, k3, k4, k5⟩ := mulB_natW hm
        have hpb : a * c ≤ 64 * 64 := Nat.mul_le_mul k1 k3
        have h0 := pu_mul_l0 k1 k2 k3 k4 k5 a 0 (by omega)
        refine Ev.step (fun k => ?_) h0
        rw [recoupref03_Mul.j0, if_neg (by simp), pu_zero (by omega), Option.bind_some, fillT_start a c (mulF b c xs ys)]
        rfl
      · have hm : ¬ mulB ra ca xs.length rb cb ys.length = true := by simp [mulB, h3]
        rw [if_neg hm]
        refine Ev.step (fun k => ?_) (Ev.now _)
        rw [recoupref03_Mul.j0, if_pos (by simpa using h3)]
    · have hm : ¬ mulB ra ca xs.length rb cb ys.length = true := by simp [mulB, h2]
      simp only [h1, h2, if_true, Bool.false_eq_true, if_false]
      rw [if_neg hm]
      refine Ev.step (fun k => ?_) (Ev.now _)
      rw [recoupref03_Mul.j0, if_pos rfl]
  · have hm : ¬ mulB ra ca xs.length rb cb ys.length = true := by simp [mulB, h1]
    simp only [h1, Bool.false_eq_true, if_false]
    rw [if_neg hm]
    refine Ev.step (fun k => ?_) (Ev.now _)
    rw [recoupref03_Mul.j0, if_pos rfl]
end Go.Proofs.Ythbjcafldbocpaa
namespace Go.Proofs.Ythbjcafldbocpaa
open Go.RowKit Go.Proofs.YthbjcafldbocpaaW.PrintWords Go.Proofs.Ythbjcafldbocpaa.P0
set_option linter.unusedVariables false
set_option linter.unusedSimpArgs false
theorem rmul3_calls (ra ca : Int) (A : Option Addr) (na ka : Nat) (xs : List UInt8) (rb cb : Int) (B : Option Addr) (nb kb : Nat) (ys : List UInt8) (w : World)
    (rx : Rd w w.heap.size A na (bVs xs)) (lx : na ≤ ka) (kx : na ≤ 140737488355328) (ry : Rd w w.heap.size B nb (bVs ys)) (ly : nb ≤ kb) (ky : nb ≤ 140737488355328) :
    Calls Try.prog 28 #[mV ra ca A na ka, mV rb cb B nb kb] w fun e w' => ∃ g cap, e = .returned (.tuple #[mV (muR (mulB ra ca na rb cb nb) ra) (muR (mulB ra ca na rb cb nb) cb) g (muN (mulB ra ca na rb cb nb) ra cb) cap, .int .i64 (muE (mulB ra ca na rb cb nb))]) ∧
      OwnB w' w.heap.size g (muN (mulB ra ca na rb cb nb) ra cb) cap (muD (mulB ra ca na rb cb nb) ra ca cb xs ys) ∧ Below w.heap.size w w' := by
  obtain rfl : xs.length = na := by have := rx.len; rw [bVs_length] at this; exact this
  obtain rfl : ys.length = nb := by have := ry.len; rw [bVs_length] at this; exact this
  obtain ⟨k, h⟩ := (pu_mul ra ca rb cb xs ys).rounds
  have hpair : (if mulB ra ca xs.length rb cb ys.length = true then (ra, cb, nI (mulG ra.toNat ca.toNat cb.toNat xs ys), (0 : Int)) else (0, 0, [], 3)) = (muR (mulB ra ca xs.length rb cb ys.length) ra, muR (mulB ra ca xs.length rb cb ys.length) cb, nI (muD (mulB ra ca xs.length rb cb ys.length) ra ca cb xs ys), muE (mulB ra ca xs.length rb cb ys.length)) := by
    cases mulB ra ca xs.length rb cb ys.length <;> rfl
  rw [hpair] at h
  have hc := recoupref03_Mul.calls k ra ca A ka (nI xs) rb cb B kb (nI ys) _ _ _ _ w (C_of_rd rx (by omega)) (by rw [nI_length]; exact lx) (C_of_rd ry (by omega)) (by rw [nI_length]; exact ly) h
  rw [nI_length, nI_length] at hc
  refine hc.mono ?_
  rintro e w' ⟨v, rfl, hv, hb⟩
  obtain ⟨A', c', rfl, hc', ho⟩ := own_of_R hv (inU_nI _)
  rw [nI_toU] at ho
  have hlen : (muD (mulB ra ca xs.length rb cb ys.length) ra ca cb xs ys).length = muN (mulB ra ca xs.length rb cb ys.length) ra cb := by
    cases mulB ra ca xs.length rb cb ys.length
    · rfl
    · exact grid_length _ _ _
  rw [nI_length, hlen] at ho
  rw [nI_length, hlen]
  exact ⟨A', c', rfl, ho, hb⟩
theorem refMul_nat (ra ca cb : Nat) (A : Option Addr) (na ka : Nat) (xs : List UInt8) (B : Option Addr) (nb kb : Nat) (ys : List UInt8) (w : World) (hra : ra ≤ 64) (hca : ca ≤ 64) (hcb : cb ≤ 64) (hna : na = ra * ca) (hnb : nb = ca * cb)
    (rx : Rd w w.heap.size A na (bVs xs)) (lx : na ≤ ka) (ry : Rd w w.heap.size B nb (bVs ys)) (ly : nb ≤ kb) :
    Calls Try.prog 28 #[mV (ra : Int) (ca : Int) A na ka, mV (ca : Int) (cb : Int) B nb kb] w fun e w' => ∃ g cap, e = .returned (.tuple #[mV (ra : Int) (cb : Int) g (ra * cb) cap, .int .i64 0]) ∧ OwnB w' w.heap.size g (ra * cb) cap (mulG ra ca cb xs ys) ∧ Below w.heap.size w w' := by
  have hm : mulB (ra : Int) (ca : Int) na (ca : Int) (cb : Int) nb = true := by
    simp [mulB, rightB, hna, hnb]
    omega
  have h1 : na ≤ 64 * 64 := by rw [hna]; exact Nat.mul_le_mul hra hca
  have h2 : nb ≤ 64 * 64 := by rw [hnb]; exact Nat.mul_le_mul hca hcb
  have h := rmul3_calls (ra : Int) (ca : Int) A na ka xs (ca : Int) (cb : Int) B nb kb ys w rx lx (by omega) ry ly (by omega)
  rw [hm] at h
  exact h
end Go.Proofs.Ythbjcafldbocpaa
namespace Go.Proofs.Ythbjcafldbocpaa
open Go.RowKit Go.Proofs.YthbjcafldbocpaaW.PrintWords Go.Proofs.Ythbjcafldbocpaa.P0
set_option linter.unusedVariables false
set_option linter.unusedSimpArgs false
set_option maxRecDepth 100000 in
set_option maxHeartbeats 1600000 in
theorem rdoes_no {w : World} {A B D : Option Addr} {c nl ng kg nw kw : Nat} {r o q gr gc wr wc : Int} {xs ys : List UInt8} (hx : Rd w w.heap.size B ng (bVs xs)) (hy : Rd w w.heap.size D nw (bVs ys)) (h : doesB gr gc ng wr wc nw = false) :
    Calls Try.prog 27 #[progV A nl c r o q, mV gr gc B ng kg, mV wr wc D nw kw] w fun e w' => e = .returned (.tuple #[.bool false, .int .i64 3]) ∧ Below w.heap.size w w' := by
  unfold progV
  have HR1 := Lib.hid (fun w => refRight_calls gr gc B ng kg w)
  have HR2 := Lib.hid (fun w => refRight_calls wr wc D nw kw w)
  have S := ((((Cx.start w).add hx).add hy).box 26 [.slice A nl c, .int .i64 r, .int .i64 o, .int .u64 q]).box 37 [.int .i64 gr, .int .i64 gc, .slice B ng kg] |>.box 37 [.int .i64 wr, .int .i64 wc, .slice D nw kw]
  simp only [World.size_alloc] at S
  obtain ⟨c0, c1, c2⟩ := S.cells3 1 rfl
  obtain ⟨d0, d1, d2⟩ := S.cells3 0 rfl
  obtain ⟨p0, p1, p2, p3⟩ := S.cells4 2 rfl
  clear hx hy
  rcases doesB_cases h with h1 | ⟨h1, h2⟩ | ⟨h1, h2, h3⟩
  · rw [h1] at HR1
    clear h h1
    go_enter Try.func27, Try.ntmps27
    go_wp2_with (go_at_call 15; (first | (with_reducible refine (HR1.out _).mono ?_) | (with_reducible refine (HR2.out _).mono ?_)); rintro e w1 ⟨rfl, hb⟩; replace S := S.go hb; clear hb c0 c1 c2 d0 d1 d2 p0 p1 p2 p3; obtain ⟨c0, c1, c2⟩ := S.cells3 1 rfl; obtain ⟨d0, d1, d2⟩ := S.cells3 0 rfl; obtain ⟨p0, p1, p2, p3⟩ := S.cells4 2 rfl)
    go_ret2
    exact ⟨rfl, S.below⟩
  · rw [h1] at HR1
    rw [h2] at HR2
    clear h h1 h2
    go_enter Try.func27, Try.ntmps27
    go_wp2_with (go_at_call 15; (first | (with_reducible refine (HR1.out _).mono ?_) | (with_reducible refine (HR2.out _).mono ?_)); rintro e w1 ⟨rfl, hb⟩; replace S := S.go hb; clear hb c0 c1 c2 d0 d1 d2 p0 p1 p2 p3; obtain ⟨c0, c1, c2⟩ := S.cells3 1 rfl; obtain ⟨d0, d1, d2⟩ := S.cells3 0 rfl; obtain ⟨p0, p1, p2, p3⟩ := S.cells4 2 rfl)
    go_ret2
    exact ⟨rfl, S.below⟩
  · rw [h1] at HR1
    rw [h2] at HR2
    clear h h1 h2
    go_enter Try.func27, Try.ntmps27
    go_wp2_with (go_at_call 15; (first | (with_reducible refine (HR1.out _).mono ?_) | (with_reducible refine (HR2.out _).mono ?_)); rintro e w1 ⟨rfl, hb⟩; replace S := S.go hb; clear hb c0 c1 c2 d0 d1 d2 p0 p1 p2 p3; obtain ⟨c0, c1, c2⟩ := S.cells3 1 rfl; obtain ⟨d0, d1, d2⟩ := S.cells3 0 rfl; obtain ⟨p0, p1, p2, p3⟩ := S.cells4 2 rfl)
    go_ret2
    exact ⟨rfl, S.below⟩
set_option maxRecDepth 100000 in
set_option maxHeartbeats 1600000 in
theorem rdoes_err {w : World} {A B D : Option Addr} {c nl ng kg nw kw : Nat} {r o q gr gc wr wc : Int} {xs ys : List UInt8} {ar ac code : Int} {ad : List UInt8} (hcode : code ≠ 0) (hx : Rd w w.heap.size B ng (bVs xs)) (hy : Rd w w.heap.size D nw (bVs ys)) (h1 : rightB gr gc ng = true) (h2 : rightB wr wc nw = true) (h3 : gc = wc)
    (H : Hid (∀ w1, Below w.heap.size w w1 → Calls Try.prog 23 #[.agg #[.slice A nl c, .int .i64 r, .int .i64 o, .int .u64 q], .int .i64 gr] w1 fun e w' => MatE w' w1.heap.size ar ac ad code e ∧ Below w1.heap.size w1 w')) :
    Calls Try.prog 27 #[progV A nl c r o q, mV gr gc B ng kg, mV wr wc D nw kw] w fun e w' => e = .returned (.tuple #[.bool false, .int .i64 code]) ∧ Below w.heap.size w w' := by
  subst h3
  unfold progV
  have hcn : (code != 0) = true := by simpa using hcode
  have hcc : (gc != gc) = false := by simp
  have HR1 := Lib.hid (fun w => refRight_calls gr gc B ng kg w)
  have HR2 := Lib.hid (fun w => refRight_calls wr gc D nw kw w)
  have S := ((((Cx.start w).add hx).add hy).box 26 [.slice A nl c, .int .i64 r, .int .i64 o, .int .u64 q]).box 37 [.int .i64 gr, .int .i64 gc, .slice B ng kg] |>.box 37 [.int .i64 wr, .int .i64 gc, .slice D nw kw]
  simp only [World.size_alloc] at S
  obtain ⟨c0, c1, c2⟩ := S.cells3 1 rfl
  obtain ⟨d0, d1, d2⟩ := S.cells3 0 rfl
  obtain ⟨p0, p1, p2, p3⟩ := S.cells4 2 rfl
  clear hx hy hcode
  rw [h1] at HR1
  rw [h2] at HR2
  clear h1 h2
  go_enter Try.func27, Try.ntmps27
  go_wp2_with (first | (go_at_call 15; (first | (with_reducible refine (HR1.out _).mono ?_) | (with_reducible refine (HR2.out _).mono ?_)); rintro e w1 ⟨rfl, hb⟩; replace S := S.go hb; clear hb c0 c1 c2 d0 d1 d2 p0 p1 p2 p3; obtain ⟨c0, c1, c2⟩ := S.cells3 1 rfl; obtain ⟨d0, d1, d2⟩ := S.cells3 0 rfl; obtain ⟨p0, p1, p2, p3⟩ := S.cells4 2 rfl) | (go_at_call 23; refine (H.out _ S.below).mono ?_; rintro e w1 ⟨⟨va, ba, hba, rfl, oa⟩, hb1⟩; obtain ⟨Aa, ca, rfl, hxa⟩ := oa.slice; replace S := ((S.go hb1).add hxa.rd).box 37 [.int .i64 ar, .int .i64 ac, .slice Aa ad.length ca]; have HLE := Lib.hid (own_le hxa); clear hb1 oa hxa c0 c1 c2 d0 d1 d2 p0 p1 p2 p3; obtain ⟨c0, c1, c2⟩ := S.cells3 2 rfl; obtain ⟨d0, d1, d2⟩ := S.cells3 1 rfl; obtain ⟨e0, e1, e2⟩ := S.cells3 0 rfl))
  go_ret2
  exact ⟨rfl, S.below⟩
set_option maxRecDepth 100000 in
set_option maxHeartbeats 1600000 in
theorem rdoes_yes {w : World} {A B D : Option Addr} {c nl ng kg nw kw no m k : Nat} {r o q wr wc : Int} {ad xs ys : List UInt8} (hx : Rd w w.heap.size B ng (bVs xs)) (hy : Rd w w.heap.size D nw (bVs ys)) (hkg : ng ≤ kg) (hno : no ≤ 64) (hm : m ≤ 64) (hk : k ≤ 64) (hng : ng = m * k) (had : ad.length = no * m) (h2 : rightB wr (k : Int) nw = true)
    (H : Hid (∀ w1, Below w.heap.size w w1 → Calls Try.prog 23 #[.agg #[.slice A nl c, .int .i64 r, .int .i64 o, .int .u64 q], .int .i64 (m : Int)] w1 fun e w' => MatE w' w1.heap.size (no : Int) (m : Int) ad 0 e ∧ Below w1.heap.size w1 w')) :
    Calls Try.prog 27 #[progV A nl c r o q, mV (m : Int) (k : Int) B ng kg, mV wr (k : Int) D nw kw] w fun e w' => e = .returned (.tuple #[.bool (likeB (no : Int) (k : Int) (mulG no m k ad xs) wr (k : Int) ys), .int .i64 0]) ∧ Below w.heap.size w w' := by
  unfold progV
  have hcc : (((k : Nat) : Int) != ((k : Nat) : Int)) = false := by simp
  have h1 : rightB (m : Int) (k : Int) ng = true := by rw [hng]; simp [rightB]; omega
  have HR1 := Lib.hid (fun w => refRight_calls (m : Int) (k : Int) B ng kg w)
  have HR2 := Lib.hid (fun w => refRight_calls wr (k : Int) D nw kw w)
  have S := ((((Cx.start w).add hx).add hy).box 26 [.slice A nl c, .int .i64 r, .int .i64 o, .int .u64 q]).box 37 [.int .i64 (m : Int), .int .i64 (k : Int), .slice B ng kg] |>.box 37 [.int .i64 wr, .int .i64 (k : Int), .slice D nw kw]
  simp only [World.size_alloc] at S
  obtain ⟨c0, c1, c2⟩ := S.cells3 1 rfl
  obtain ⟨d0, d1, d2⟩ := S.cells3 0 rfl
  obtain ⟨p0, p1, p2, p3⟩ := S.cells4 2 rfl
  have HN := Lib.hid hng
  have HAD := Lib.hid had
  clear hx hy hng had
  rw [h1] at HR1
  rw [h2] at HR2
  have H2 := Lib.hid h2
  clear h1 h2
  obtain ⟨p, hp⟩ : ∃ p, p = no * k := ⟨_, rfl⟩
  have HP := Lib.hid hp
  clear hp
  go_enter Try.func27, Try.ntmps27
  go_wp2_with (first | (go_at_call 15; (first | (with_reducible refine (HR1.out _).mono ?_) | (with_reducible refine (HR2.out _).mono ?_)); rintro e w1 ⟨rfl, hb⟩; replace S := S.go hb; clear hb c0 c1 c2 d0 d1 d2 p0 p1 p2 p3; obtain ⟨c0, c1, c2⟩ := S.cells3 1 rfl; obtain ⟨d0, d1, d2⟩ := S.cells3 0 rfl; obtain ⟨p0, p1, p2, p3⟩ := S.cells4 2 rfl) | (go_at_call 23; refine (H.out _ S.below).mono ?_; rintro e w1 ⟨⟨va, ba, hba, rfl, oa⟩, hb1⟩; obtain ⟨Aa, ca, rfl, hxa⟩ := oa.slice; replace S := ((S.go hb1).add hxa.rd).box 37 [.int .i64 (no : Int), .int .i64 (m : Int), .slice Aa ad.length ca]; have HLE := Lib.hid (own_le hxa); clear hb1 oa hxa c0 c1 c2 d0 d1 d2 p0 p1 p2 p3; obtain ⟨c0, c1, c2⟩ := S.cells3 2 rfl; obtain ⟨d0, d1, d2⟩ := S.cells3 1 rfl; obtain ⟨e0, e1, e2⟩ := S.cells3 0 rfl))
  generalize hna : ad.length = na at *
  have HNA := Lib.hid (show na = no * m from HAD.out)
  clear hna
  refine (refMul_nat no m k Aa na ca ad B ng kg xs _ hno hm hk HNA.out HN.out (S.rd 0 rfl) HLE.out (S.rd 2 rfl) hkg).mono ?_
  rintro e w2 ⟨g, cg, rfl, hg, hb2⟩
  rw [← HP.out] at hg ⊢
  replace S := ((S.go hb2).add hg.rd).box 37 [.int .i64 (no : Int), .int .i64 (k : Int), .slice g p cg]
  have hgl := True.intro
  have hlg := True.intro
  have hrg := True.intro
  clear hb2 hg hgl hlg hrg c0 c1 c2 d0 d1 d2 e0 e1 e2
  obtain ⟨c0, c1, c2⟩ := S.cells3 3 rfl
  obtain ⟨d0, d1, d2⟩ := S.cells3 2 rfl
  obtain ⟨e0, e1, e2⟩ := S.cells3 0 rfl
  go_wp2_with fail
  refine (likeAny_calls (no : Int) (k : Int) _ _ _ _ _ _ _ _ _ _ _ (S.rd 0 rfl) (S.rd 2 rfl)).mono ?_
  rintro e w3 ⟨rfl, hb3⟩
  replace S := S.go hb3
  clear hb3
  go_wp2_with fail
  go_ret2
  exact ⟨rfl, S.below⟩
end Go.Proofs.Ythbjcafldbocpaa
namespace Go.Proofs.Ythbjcafldbocpaa
open Go.RowKit Go.Proofs.YthbjcafldbocpaaW.PrintWords Go.Proofs.Ythbjcafldbocpaa.P0
set_option linter.unusedVariables false
set_option linter.unusedSimpArgs false
theorem outs_all {st : VS} {nr no n : Nat} (hok : st.Ok nr no n) (h : ∀ o ∈ st.outs, o.isSome = true) : ∀ o ∈ st.outs, ∃ x, o = some x ∧ x.length = n := by
  intro o ho
  obtain ⟨x, hx⟩ := Option.isSome_iff_exists.1 (h o ho)
  obtain ⟨i, hi, rfl⟩ := List.getElem_of_mem ho
  exact ⟨x, hx, hok.wo i x (by rw [List.getD_eq_getElem?_getD, List.getElem?_eq_getElem hi]; simpa using hx)⟩
end Go.Proofs.Ythbjcafldbocpaa
namespace Go.Proofs.Ythbjcafldbocpaa
open Go.RowKit Go.Proofs.YthbjcafldbocpaaW.PrintWords Go.Proofs.Ythbjcafldbocpaa.P0
set_option linter.unusedVariables false
set_option linter.unusedSimpArgs false
end Go.Proofs.Ythbjcafldbocpaa
namespace Go.Proofs.Ythbjcafldbocpaa
open Go.RowKit Go.Proofs.YthbjcafldbocpaaW.PrintWords Go.Proofs.Ythbjcafldbocpaa.P0
set_option linter.unusedVariables false
set_option linter.unusedSimpArgs false
theorem do_calls (gt ga gz nr no n reads nS cS : Nat) (AS : Option Addr) (s : PS) (hs : s.Ok) (st : VS) (W : World) (h : DW W gt ga gz nr no n st) (hn : n ≤ 64) (hnr : nr ≤ 256) (hrd : reads < 2 ^ 64) :
    Calls Try.prog 51 #[.pointer (some ⟨gt, 0, none⟩), .agg #[.slice AS nS cS, .int .i64 (nr : Int), .int .i64 (no : Int), .int .u64 (reads : Int)], .agg #[.int .u8 (s.k : Int), .int .i64 (s.D : Int), .int .i64 (s.S : Int), .int .u8 (s.C.toNat : Int)], .int .i64 (n : Int)] W fun e W' =>
      Chg3 W.heap.size gt ga gz W W' ∧ (∀ st', vStep nr no reads n st s.k s.D s.S s.C = some st' → e = .returned (.bool true) ∧ DW W' gt ga gz nr no n st') ∧ (vStep nr no reads n st s.k s.D s.S s.C = none → e = .returned (.bool false)) := by
  obtain ⟨k, D, S, C⟩ := s
  rcases hs with h1 | h1 | h1 | h1 <;> (simp only at h1; subst h1)
  · exact do_clear gt ga gz nr no n reads nS cS AS D S C st W h hn hnr
  · exact do_load gt ga gz nr no n reads nS cS AS D S C st W h hn hnr hrd
  · exact do_mac gt ga gz nr no n reads nS cS AS D S C st W h hn hnr
  · exact do_out gt ga gz nr no n reads nS cS AS D S C st W h hn hnr
theorem nil_info : (Try.prog.info? 35).map (fun i => (i.zero, i.size, i.bytes)) = some (some (.slice none 0 0), 1, 24) := by kernel_rfl
theorem make_nils (n : Nat) (hn : n ≤ 256) (w : World) :
    (Instr.makeSlice 34 (.int .i64 (n : Int)) (.int .i64 (n : Int))).run Try.prog w = .ok (.slice (some ⟨w.heap.size, 0, none⟩) n n) (w.alloc (.cells (List.replicate n (.slice none 0 0)).toArray 35)) := by
  obtain ⟨i, hi, hz, hs, hb⟩ := info_parts nil_info
  have h := run_make (P := Try.prog) w 34 35 i _ Try.underlying34 hi hz .i64 .i64 (n : Int) (n : Int) (by omega) (by omega) (by rw [hb]; omega) (by omega)
  rw [hs, Nat.mul_one, Int.toNat_natCast] at h
  rw [h, show (Value.slice none 0 0).cells = #[Value.slice none 0 0] from rfl, made_same _ (Value.slice none 0 0) _ (by simp) (by intro i hi; simp at hi; subst hi; rfl)]
theorem vals_nil (W : World) (n : Nat) : Vals W (List.replicate n (.slice none 0 0)) (List.replicate n none) := by
  refine ⟨by simp, fun i hi => ?_⟩
  rw [List.length_replicate] at hi
  rw [List.getD_eq_getElem?_getD, List.getElem?_replicate, if_pos hi, List.getD_eq_getElem?_getD, List.getElem?_replicate, if_pos hi]
  rfl
def RunMid (w : World) (regs outs n : Nat) (ps : List Value) (v : Value) (x : World) : Prop :=
  ∃ gt ga gz : Nat, v = .pointer (some ⟨gt, 0, none⟩) ∧ DW x gt ga gz regs outs n ⟨List.replicate regs none, List.replicate outs none, 0⟩ ∧ w.heap.size < gt ∧ w.heap.size < ga ∧ w.heap.size < gz ∧ Below w.heap.size w x ∧ Row x w.heap.size 26 ps
theorem runmid_of {w x : World} {regs outs n gt ga gz : Nat} {v : Value} {ps L1 L2 : List Value} (e1 : L1 = List.replicate regs (.slice none 0 0)) (e2 : L2 = List.replicate outs (.slice none 0 0)) (hv : v = .pointer (some ⟨gt, 0, none⟩)) (ht : Row x gt 113 [.slice (some ⟨ga, 0, none⟩) regs regs, .slice (some ⟨gz, 0, none⟩) outs outs, .int .u64 0])
    (ha : Row x ga 35 L1) (hz : Row x gz 35 L2) (lo : w.heap.size < gt ∧ w.heap.size < ga ∧ w.heap.size < gz) (ne : ga ≠ gt ∧ gz ≠ gt ∧ gz ≠ ga) (hb : Below w.heap.size w x) (hp : Row x w.heap.size 26 ps) : RunMid w regs outs n ps v x := by
  subst e1 e2
  have hok : VS.Ok ⟨List.replicate regs none, List.replicate outs none, 0⟩ regs outs n := by
    refine ⟨by simp, by simp, fun i l h => ?_, fun i l h => ?_⟩ <;> (rw [List.getD_eq_getElem?_getD, List.getElem?_replicate] at h; split at h <;> cases h)
  exact ⟨gt, ga, gz, hv, ⟨ht, ⟨_, ha, vals_nil _ _⟩, ⟨_, hz, vals_nil _ _⟩, hok, show (0 : Nat) < 2 ^ 64 by decide, ne⟩, lo.1, lo.2.1, lo.2.2, hb, hp⟩
theorem rbelow_al {w x : World} (h : Below w.heap.size w x) (o : Obj) : Below w.heap.size w (x.alloc o) := h.alloc h.size o
theorem rbelow_dr {w x : World} (h : Below w.heap.size w x) : Below w.heap.size w x.drew := ⟨h.os, h.tape, h.output, h.size, h.block⟩
theorem cs_alloc2 {x : World} {a b : Addr} {p q : Value} (h : x.cell? a = some p ∧ x.cell? b = some q) (o : Obj) : (x.alloc o).cell? a = some p ∧ (x.alloc o).cell? b = some q := by
  have hc : ∀ {a : Addr} {p : Value}, x.cell? a = some p → (x.alloc o).cell? a = some p := fun h => (World.cell?_alloc_some x _ o (by rw [h]; rfl)).trans h
  exact ⟨hc h.1, hc h.2⟩
def RunPost (w : World) (regs outs reads n : Nat) (l : List PS) (e : Ending) (w' : World) : Prop :=
  Below w.heap.size w w' ∧
    (∀ st, (vAll regs outs reads n l).2 = some st → ∃ gt ga gz, e = .returned (.tuple #[.slice (some ⟨gz, 0, none⟩) outs outs, .int .i64 ((vAll regs outs reads n l).1 : Int), .int .i64 0]) ∧ DW w' gt ga gz regs outs n st ∧ w.heap.size < gz) ∧
    ((vAll regs outs reads n l).2 = none → e = .returned (.tuple #[.slice none 0 0, .int .i64 ((vAll regs outs reads n l).1 : Int), .int .i64 250]))
set_option maxHeartbeats 4000000 in
set_option maxRecDepth 100000 in
theorem run_yes (AS : Option Addr) (l : List PS) (cS regs outs reads n : Nat) (w : World) (hl : StepsAt w w.heap.size AS l) (hr : regs ≤ 256) (ho : outs ≤ 64) (hlen : l.length ≤ 65536) (hn : n ≤ 64) (hrd : reads < 2 ^ 64) (hok : ∀ s ∈ l, s.Ok)
    (hcan : ∀ w1, Below w.heap.size w w1 → Calls Try.prog 50 #[.agg #[.slice AS l.length cS, .int .i64 (regs : Int), .int .i64 (outs : Int), .int .u64 (reads : Int)]] w1 fun e w' => e = .returned (.bool true) ∧ Below w1.heap.size w1 w') :
    Calls Try.prog 31 #[.agg #[.slice AS l.length cS, .int .i64 (regs : Int), .int .i64 (outs : Int), .int .u64 (reads : Int)], .int .i64 (n : Int)] w fun e w' => RunPost w regs outs reads n l e w' := by
  have h0 : decide ((n : Int) < 0) = false := decide_eq_false (by omega)
  have h1 : decide ((64 : Int) < (n : Int)) = false := decide_eq_false (by omega)
  go_enter Try.func31, Try.ntmps31
  go_wp2_with fail
  have q : Below w.heap.size w (w.alloc (.cells #[.slice AS l.length cS, .int .i64 (regs : Int), .int .i64 (outs : Int), .int .u64 (reads : Int)] 26)) := (Below.refl _ _).alloc (Nat.le_refl _) _
  have hp0 := Row.new w [.slice AS l.length cS, .int .i64 (regs : Int), .int .i64 (outs : Int), .int .u64 (reads : Int)] 26
  refine (hcan _ q).mono ?_
  rintro e w1 ⟨rfl, hb⟩
  have hp1 := hp0.below hb hp0.lt
  have q1 : Below w.heap.size w w1 := q.trans (hb.mono (by simp))
  have p1 : w1.cell? ⟨w.heap.size, 1, none⟩ = some (.int .i64 (regs : Int)) := hp1.cell 1
  have p2 : w1.cell? ⟨w.heap.size, 2, none⟩ = some (.int .i64 (outs : Int)) := hp1.cell 2
  have hm1 := fun w => make_nils regs hr w
  have hm2 := fun w => make_nils outs (by omega) w
  obtain ⟨L1, hL1⟩ : ∃ L1, L1 = List.replicate regs (Value.slice none 0 0) := ⟨_, rfl⟩
  obtain ⟨L2, hL2⟩ : ∃ L2, L2 = List.replicate outs (Value.slice none 0 0) := ⟨_, rfl⟩
  rw [← hL1] at hm1
  rw [← hL2] at hm2
  have HL1 := Lib.hid hL1
  have HL2 := Lib.hid hL2
  have HP1 := Lib.hid hp1
  have HQ1 := Lib.hid q1
  have LT1 := Lib.hid (show w.heap.size < w1.heap.size from hp1.lt)
  clear hL1 hL2 hp1 q1 hcan q hp0 hb
  go_wp2_with fail
  go_cut [7] from 21 to 28 (fun s7 wx => RunMid w regs outs n [.slice AS l.length cS, .int .i64 (regs : Int), .int .i64 (outs : Int), .int .u64 (reads : Int)] s7 wx)
  case first =>
    refine wp_region_held_drew (S := (fun x => x.cell? ⟨w.heap.size, 1, none⟩ = some (.int .i64 (regs : Int)) ∧ x.cell? ⟨w.heap.size, 2, none⟩ = some (.int .i64 (outs : Int)))) (by kernel_rfl) ⟨p1, p2⟩ (fun hHeld => ?_)
    refine wpAnyH_take (i := 0) (v := ?_) rfl (by kernel_rfl) (by kernel_rfl) (by kernel_rfl) (fun _ _ _ h => h) (Or.inl ⟨by kernel_rfl, ?_⟩) (by assumption) ?_
    rotate_left
    · (intro w hSw; (try dsimp only at hSw); go_simp; (try with_reducible rfl))
    try simp only [List.getElem_toArray, List.getElem_cons_succ, List.getElem_cons_zero, Act.put, List.setIfInBounds_toArray, List.set_cons_zero, List.set_cons_succ]
    refine wpAnyH_take (i := 1) (v := ?_) rfl (by kernel_rfl) (by kernel_rfl) (by kernel_rfl) (fun _ _ _ h => h) (Or.inl ⟨by kernel_rfl, ?_⟩) (by assumption) ?_
    rotate_left
    · (intro w hSw; (try dsimp only at hSw); go_simp; (try with_reducible rfl))
    try simp only [List.getElem_toArray, List.getElem_cons_succ, List.getElem_cons_zero, Act.put, List.setIfInBounds_toArray, List.set_cons_zero, List.set_cons_succ]
    refine wpAnyH_take (i := 3) (v := ?_) rfl (by kernel_rfl) (by kernel_rfl) (by kernel_rfl) (fun _ _ _ h => h) (Or.inl ⟨by kernel_rfl, ?_⟩) (by assumption) ?_
    rotate_left
    · (intro w hSw; (try dsimp only at hSw); go_simp; (try with_reducible rfl))
    try simp only [List.getElem_toArray, List.getElem_cons_succ, List.getElem_cons_zero, Act.put, List.setIfInBounds_toArray, List.set_cons_zero, List.set_cons_succ]
    refine wpAnyH_take (i := 4) (v := ?_) rfl (by kernel_rfl) (by kernel_rfl) (by kernel_rfl) (fun _ _ _ h => h) (Or.inl ⟨by kernel_rfl, ?_⟩) (by assumption) ?_
    rotate_left
    · (intro w hSw; (try dsimp only at hSw); go_simp; (try with_reducible rfl))
    try simp only [List.getElem_toArray, List.getElem_cons_succ, List.getElem_cons_zero, Act.put, List.setIfInBounds_toArray, List.set_cons_zero, List.set_cons_succ]
    refine wpAnyH_ready (rs := [2, 5]) (by kernel_rfl) (by simp) ?_
    refine AllReadyH.cons rfl (fun K hK => ?_) (AllReadyH.cons rfl (fun K hK => ?_) AllReadyH.nil)
    · go_simp
      refine hK.out _ _ (cs_alloc2 hHeld _) (fun hHeld => ?_)
      clear hK K
      try simp only [List.getElem_toArray, List.getElem_cons_succ, List.getElem_cons_zero, Act.put, List.setIfInBounds_toArray, List.set_cons_zero, List.set_cons_succ]
      refine wpAnyH_ready (rs := [5]) (by kernel_rfl) (by simp) ?_
      refine AllReadyH.cons rfl (fun K hK => ?_) AllReadyH.nil
      go_simp
      refine hK.out _ _ (cs_alloc2 hHeld _) (fun hHeld => ?_)
      clear hK K
      try simp only [List.getElem_toArray, List.getElem_cons_succ, List.getElem_cons_zero, Act.put, List.setIfInBounds_toArray, List.set_cons_zero, List.set_cons_succ]
      refine wpAnyH_ready (rs := [6]) (by kernel_rfl) (by simp) ?_
      refine AllReadyH.cons rfl (fun K hK => ?_) AllReadyH.nil
      go_simp
      refine hK.out _ _ hHeld (fun hHeld => ?_)
      clear hK K
      try simp only [List.getElem_toArray, List.getElem_cons_succ, List.getElem_cons_zero, Act.put, List.setIfInBounds_toArray, List.set_cons_zero, List.set_cons_succ]
      refine wpAnyH_ready (rs := [7]) (by kernel_rfl) (by simp) ?_
      refine AllReadyH.cons rfl (fun K hK => ?_) AllReadyH.nil
      go_simp
      refine hK.out _ _ (cs_alloc2 hHeld _) (fun hHeld => ?_)
      clear hK K
      try simp only [List.getElem_toArray, List.getElem_cons_succ, List.getElem_cons_zero, Act.put, List.setIfInBounds_toArray, List.set_cons_zero, List.set_cons_succ]
      refine wpAnyH_ready (rs := [8]) (by kernel_rfl) (by simp) ?_
      refine AllReadyH.cons rfl (fun K hK => ?_) AllReadyH.nil
      go_simp
      refine hK.out _ _ hHeld (fun hHeld => ?_)
      clear hK K
      try simp only [List.getElem_toArray, List.getElem_cons_succ, List.getElem_cons_zero, Act.put, List.setIfInBounds_toArray, List.set_cons_zero, List.set_cons_succ]
      refine wpAnyH_done (by kernel_rfl) ?_ _
      go_wp2_with fail
      go_meet
      exact runmid_of HL1.out HL2.out rfl (by repeat' (first | with_reducible refine Row.drew ?_ | with_reducible refine Row.newE _ _ _ (by simp) | exact Row.newE _ _ _ (by simp) | with_reducible refine Row.alloc ?_ _)) (by repeat' (first | with_reducible refine Row.drew ?_ | with_reducible refine Row.newE _ _ _ (by simp) | exact Row.newE _ _ _ (by simp) | with_reducible refine Row.alloc ?_ _)) (by repeat' (first | with_reducible refine Row.drew ?_ | with_reducible refine Row.newE _ _ _ (by simp) | exact Row.newE _ _ _ (by simp) | with_reducible refine Row.alloc ?_ _)) (by have := LT1.out; refine ⟨?_, ?_, ?_⟩ <;> omega) (by refine ⟨?_, ?_, ?_⟩ <;> omega) (by repeat' (first | with_reducible exact HQ1.out | with_reducible refine rbelow_dr ?_ | with_reducible refine rbelow_al ?_ _)) (by repeat' (first | with_reducible exact HP1.out | with_reducible refine Row.drew ?_ | with_reducible refine Row.alloc ?_ _))
    · go_simp
      refine hK.out _ _ (cs_alloc2 hHeld _) (fun hHeld => ?_)
      clear hK K
      try simp only [List.getElem_toArray, List.getElem_cons_succ, List.getElem_cons_zero, Act.put, List.setIfInBounds_toArray, List.set_cons_zero, List.set_cons_succ]
      refine wpAnyH_ready (rs := [2]) (by kernel_rfl) (by simp) ?_
      refine AllReadyH.cons rfl (fun K hK => ?_) AllReadyH.nil
      go_simp
      refine hK.out _ _ (cs_alloc2 hHeld _) (fun hHeld => ?_)
      clear hK K
      try simp only [List.getElem_toArray, List.getElem_cons_succ, List.getElem_cons_zero, Act.put, List.setIfInBounds_toArray, List.set_cons_zero, List.set_cons_succ]
      refine wpAnyH_ready (rs := [6]) (by kernel_rfl) (by simp) ?_
      refine AllReadyH.cons rfl (fun K hK => ?_) AllReadyH.nil
      go_simp
      refine hK.out _ _ hHeld (fun hHeld => ?_)
      clear hK K
      try simp only [List.getElem_toArray, List.getElem_cons_succ, List.getElem_cons_zero, Act.put, List.setIfInBounds_toArray, List.set_cons_zero, List.set_cons_succ]
      refine wpAnyH_ready (rs := [7]) (by kernel_rfl) (by simp) ?_
      refine AllReadyH.cons rfl (fun K hK => ?_) AllReadyH.nil
      go_simp
      refine hK.out _ _ (cs_alloc2 hHeld _) (fun hHeld => ?_)
      clear hK K
      try simp only [List.getElem_toArray, List.getElem_cons_succ, List.getElem_cons_zero, Act.put, List.setIfInBounds_toArray, List.set_cons_zero, List.set_cons_succ]
      refine wpAnyH_ready (rs := [8]) (by kernel_rfl) (by simp) ?_
      refine AllReadyH.cons rfl (fun K hK => ?_) AllReadyH.nil
      go_simp
      refine hK.out _ _ hHeld (fun hHeld => ?_)
      clear hK K
      try simp only [List.getElem_toArray, List.getElem_cons_succ, List.getElem_cons_zero, Act.put, List.setIfInBounds_toArray, List.set_cons_zero, List.set_cons_succ]
      refine wpAnyH_done (by kernel_rfl) ?_ _
      go_wp2_with fail
      go_meet
      exact runmid_of HL1.out HL2.out rfl (by repeat' (first | with_reducible refine Row.drew ?_ | with_reducible refine Row.newE _ _ _ (by simp) | exact Row.newE _ _ _ (by simp) | with_reducible refine Row.alloc ?_ _)) (by repeat' (first | with_reducible refine Row.drew ?_ | with_reducible refine Row.newE _ _ _ (by simp) | exact Row.newE _ _ _ (by simp) | with_reducible refine Row.alloc ?_ _)) (by repeat' (first | with_reducible refine Row.drew ?_ | with_reducible refine Row.newE _ _ _ (by simp) | exact Row.newE _ _ _ (by simp) | with_reducible refine Row.alloc ?_ _)) (by have := LT1.out; refine ⟨?_, ?_, ?_⟩ <;> omega) (by refine ⟨?_, ?_, ?_⟩ <;> omega) (by repeat' (first | with_reducible exact HQ1.out | with_reducible refine rbelow_dr ?_ | with_reducible refine rbelow_al ?_ _)) (by repeat' (first | with_reducible exact HP1.out | with_reducible refine Row.drew ?_ | with_reducible refine Row.alloc ?_ _))
  case rest =>
    obtain ⟨gt, ga, gz, rfl, hD, lt1, la1, lz1, hbl, hp⟩ := hcut
    have HD := Lib.hid hD
    have HBL := Lib.hid hbl
    have HP := Lib.hid hp
    clear hm1 hm2 HL1 HL2 HP1 HQ1 LT1 p1 p2 hD hbl hp
    go_wp2_with fail
    go_loopw [8] (fun v8 wr => ∃ i st, i ≤ l.length ∧ v8 = .int .i64 ((i : Nat) : Int) ∧ vRun regs outs reads n l 0 ⟨List.replicate regs none, List.replicate outs none, 0⟩ = vRun regs outs reads n (l.drop i) i st ∧ DW wr gt ga gz regs outs n st ∧ Below w.heap.size w wr ∧ Row wr w.heap.size 26 [.slice AS l.length cS, .int .i64 (regs : Int), .int .i64 (outs : Int), .int .u64 (reads : Int)]) (fun v8 _ => l.length - (intOf v8).toNat)
    case atStart => exact ⟨0, _, by omega, rfl, rfl, HD.out, HBL.out, HP.out⟩
    case round =>
      obtain ⟨i, st, hi, rfl, hv, hD, hbl, hp⟩ := hrel
      clear HD HBL HP
      have p0 : wr.cell? ⟨w.heap.size, 0, none⟩ = some (.slice AS l.length cS) := hp.cell 0
      have HD := Lib.hid hD
      have HBL := Lib.hid hbl
      have HP := Lib.hid hp
      have HV := Lib.hid hv
      by_cases hlt : i < l.length
      · obtain ⟨g, o, rfl, hg, hc⟩ := (hl.below hbl) (by omega)
        obtain ⟨s, hs⟩ : ∃ s, l[i]? = some s := ⟨l[i], List.getElem?_eq_getElem hlt⟩
        obtain ⟨s0, s1, s2, s3⟩ := hc i s hs
        have p1 : wr.cell? ⟨w.heap.size, 1, none⟩ = some (.int .i64 (regs : Int)) := hp.cell 1
        have p2 : wr.cell? ⟨w.heap.size, 2, none⟩ = some (.int .i64 (outs : Int)) := hp.cell 2
        have p3 : wr.cell? ⟨w.heap.size, 3, none⟩ = some (.int .u64 (reads : Int)) := hp.cell 3
        have i0 : (0 : Int) ≤ (i : Int) := by omega
        have i1 : (i : Int) < (l.length : Int) := by omega
        have HDO := Lib.hid (do_calls gt ga gz regs outs n reads l.length cS (some ⟨g, o, none⟩) s (hok s (List.mem_of_getElem? hs)) st wr.drew (hD.drewN 1) hn hr hrd)
        have HS := Lib.hid hs
        clear hc hs hD hbl hp hv
        go_wp2_with fail
        refine wp_region_held_drew (S := (fun x => x.cell? ⟨w.heap.size, 0, none⟩ = some (.slice (some ⟨g, o, none⟩) l.length cS) ∧ x.cell? ⟨w.heap.size, 1, none⟩ = some (.int .i64 (regs : Int)) ∧ x.cell? ⟨w.heap.size, 2, none⟩ = some (.int .i64 (outs : Int)) ∧ x.cell? ⟨w.heap.size, 3, none⟩ = some (.int .u64 (reads : Int)) ∧ x.cell? ⟨g, o + i * 4, none⟩ = some (.int .u8 (s.k : Int)) ∧ x.cell? ⟨g, o + i * 4 + 1, none⟩ = some (.int .i64 (s.D : Int)) ∧ x.cell? ⟨g, o + i * 4 + 2, none⟩ = some (.int .i64 (s.S : Int)) ∧ x.cell? ⟨g, o + i * 4 + 3, none⟩ = some (.int .u8 (s.C.toNat : Int)))) (by kernel_rfl) ⟨p0, p1, p2, p3, s0, s1, s2, s3⟩ (fun hHeld => ?_)
        refine wpAnyH_take (i := 0) (v := ?_) rfl (by kernel_rfl) (by kernel_rfl) (by kernel_rfl) (fun _ _ _ h => h) (Or.inl ⟨by kernel_rfl, ?_⟩) (by assumption) ?_
        rotate_left
        · (intro w hSw; (try dsimp only at hSw); go_simp; (try with_reducible rfl))
        try simp only [List.getElem_toArray, List.getElem_cons_succ, List.getElem_cons_zero, Act.put, List.setIfInBounds_toArray, List.set_cons_zero, List.set_cons_succ]
        refine wpAnyH_take (i := 1) (v := ?_) rfl (by kernel_rfl) (by kernel_rfl) (by kernel_rfl) (fun _ _ _ h => h) (Or.inl ⟨by kernel_rfl, ?_⟩) (by assumption) ?_
        rotate_left
        · (intro w hSw; (try dsimp only at hSw); go_simp; (try with_reducible rfl))
        try simp only [List.getElem_toArray, List.getElem_cons_succ, List.getElem_cons_zero, Act.put, List.setIfInBounds_toArray, List.set_cons_zero, List.set_cons_succ]
        refine wpAnyH_take (i := 2) (v := ?_) rfl (by kernel_rfl) (by kernel_rfl) (by kernel_rfl) (fun _ _ _ h => h) (Or.inl ⟨by kernel_rfl, ?_⟩) (by assumption) ?_
        rotate_left
        · (intro w hSw; (try dsimp only at hSw); go_simp; (try with_reducible rfl))
        try simp only [List.getElem_toArray, List.getElem_cons_succ, List.getElem_cons_zero, Act.put, List.setIfInBounds_toArray, List.set_cons_zero, List.set_cons_succ]
        refine wpAnyH_take (i := 3) (v := ?_) rfl (by kernel_rfl) (by kernel_rfl) (by kernel_rfl) (fun _ _ _ h => h) (Or.inl ⟨by kernel_rfl, ?_⟩) (by assumption) ?_
        rotate_left
        · (intro w hSw; (try dsimp only at hSw); go_simp; (try with_reducible rfl))
        try simp only [List.getElem_toArray, List.getElem_cons_succ, List.getElem_cons_zero, Act.put, List.setIfInBounds_toArray, List.set_cons_zero, List.set_cons_succ]
        refine wpAnyH_take (i := 4) (v := ?_) rfl (by kernel_rfl) (by kernel_rfl) (by kernel_rfl) (fun _ _ _ h => h) (Or.inl ⟨by kernel_rfl, ?_⟩) (by assumption) ?_
        rotate_left
        · (intro w hSw; (try dsimp only at hSw); go_simp; (try with_reducible rfl))
        try simp only [List.getElem_toArray, List.getElem_cons_succ, List.getElem_cons_zero, Act.put, List.setIfInBounds_toArray, List.set_cons_zero, List.set_cons_succ]
        refine wpAnyH_take (i := 5) (v := ?_) rfl (by kernel_rfl) (by kernel_rfl) (by kernel_rfl) (fun _ _ _ h => h) (Or.inl ⟨by kernel_rfl, ?_⟩) (by assumption) ?_
        rotate_left
        · (intro w hSw; (try dsimp only at hSw); go_simp; (try with_reducible rfl))
        try simp only [List.getElem_toArray, List.getElem_cons_succ, List.getElem_cons_zero, Act.put, List.setIfInBounds_toArray, List.set_cons_zero, List.set_cons_succ]
        refine wpAnyH_take (i := 6) (v := ?_) rfl (by kernel_rfl) (by kernel_rfl) (by kernel_rfl) (fun _ _ _ h => h) (Or.inl ⟨by kernel_rfl, ?_⟩) (by assumption) ?_
        rotate_left
        · (intro w hSw; (try dsimp only at hSw); go_simp; (try with_reducible rfl))
        try simp only [List.getElem_toArray, List.getElem_cons_succ, List.getElem_cons_zero, Act.put, List.setIfInBounds_toArray, List.set_cons_zero, List.set_cons_succ]
        refine wpAnyH_take (i := 7) (v := ?_) rfl (by kernel_rfl) (by kernel_rfl) (by kernel_rfl) (fun _ _ _ h => h) (Or.inl ⟨by kernel_rfl, ?_⟩) (by assumption) ?_
        rotate_left
        · (intro w hSw; (try dsimp only at hSw); go_simp; (try with_reducible rfl))
        try simp only [List.getElem_toArray, List.getElem_cons_succ, List.getElem_cons_zero, Act.put, List.setIfInBounds_toArray, List.set_cons_zero, List.set_cons_succ]
        refine wpAnyH_ready (rs := [8]) (by kernel_rfl) (by simp) ?_
        refine AllReadyH.cons rfl (fun K hK => ?_) AllReadyH.nil
        go_simp
        refine HDO.out.mono ?_
        rintro e w4 ⟨hc4, hy, hno⟩
        have lwr : w.heap.size < wr.heap.size := HP.out.lt
        have hb4 : Below w.heap.size w w4 := HBL.out.trans ⟨hc4.os, hc4.tape, hc4.output, hc4.size, fun k hk => hc4.block k (show k < wr.heap.size by omega) (by omega) (by omega) (by omega)⟩
        have hp4 : Row w4 w.heap.size 26 [.slice (some ⟨g, o, none⟩) l.length cS, .int .i64 (regs : Int), .int .i64 (outs : Int), .int .u64 (reads : Int)] := hc4.row (w := wr.drew) (HP.out.drewN 1) lwr (by omega) (by omega) (by omega)
        have hcell : ∀ p : Addr, p.block = g → w4.cell? p = wr.cell? p := fun p hp => World.cell?_of_block (hc4.block _ (by rw [hp]; exact Nat.lt_trans hg lwr) (by rw [hp]; omega) (by rw [hp]; omega) (by rw [hp]; omega))
        have hS4 := And.intro (hp4.cell 0) (And.intro (hp4.cell 1) (And.intro (hp4.cell 2) (And.intro (hp4.cell 3) (And.intro ((hcell _ rfl).trans s0) (And.intro ((hcell _ rfl).trans s1) (And.intro ((hcell _ rfl).trans s2) ((hcell _ rfl).trans s3)))))))
        cases hvs : vStep regs outs reads n st s.k s.D s.S s.C with
        | none =>
          obtain rfl := hno hvs
          have hall : vAll regs outs reads n l = (i, none) := by
            unfold vAll
            rw [HV.out, vRun_at HS.out, hvs]
          have HS4 := Lib.hid hS4
          clear hy hno hc4 hcell hS4 hp4
          go_wp2_with fail
          refine hK.out _ _ HS4.out (fun hHeld => ?_)
          clear hK K
          try simp only [List.getElem_toArray, List.getElem_cons_succ, List.getElem_cons_zero, Act.put, List.setIfInBounds_toArray, List.set_cons_zero, List.set_cons_succ]
          refine wpAnyH_take (i := 9) (v := ?_) rfl (by kernel_rfl) (by kernel_rfl) (by kernel_rfl) (fun _ _ _ h => h) (Or.inl ⟨by kernel_rfl, ?_⟩) (by assumption) ?_
          rotate_left
          · (intro w hSw; (try dsimp only at hSw); go_simp; (try with_reducible rfl))
          try simp only [List.getElem_toArray, List.getElem_cons_succ, List.getElem_cons_zero, Act.put, List.setIfInBounds_toArray, List.set_cons_zero, List.set_cons_succ]
          refine wpAnyH_done (by kernel_rfl) ?_ _
          go_wp2_with fail
          go_ret3
          refine ⟨hb4, fun st2 h2 => ?_, fun _ => ?_⟩
          · rw [hall] at h2; cases h2
          · rw [hall]; rfl
        | some st' =>
          obtain ⟨rfl, hD4⟩ := hy st' hvs
          have HS4 := Lib.hid hS4
          have HD4 := Lib.hid hD4
          have HB4 := Lib.hid hb4
          have HP4 := Lib.hid hp4
          have HVS := Lib.hid hvs
          clear hy hno hc4 hcell hS4 hp4 hD4 hb4 hvs
          go_wp2_with fail
          refine hK.out _ _ HS4.out (fun hHeld => ?_)
          clear hK K
          try simp only [List.getElem_toArray, List.getElem_cons_succ, List.getElem_cons_zero, Act.put, List.setIfInBounds_toArray, List.set_cons_zero, List.set_cons_succ]
          refine wpAnyH_take (i := 9) (v := ?_) rfl (by kernel_rfl) (by kernel_rfl) (by kernel_rfl) (fun _ _ _ h => h) (Or.inl ⟨by kernel_rfl, ?_⟩) (by assumption) ?_
          rotate_left
          · (intro w hSw; (try dsimp only at hSw); go_simp; (try with_reducible rfl))
          try simp only [List.getElem_toArray, List.getElem_cons_succ, List.getElem_cons_zero, Act.put, List.setIfInBounds_toArray, List.set_cons_zero, List.set_cons_succ]
          refine wpAnyH_done (by kernel_rfl) ?_ _
          clear hHeld s0 s1 s2 s3 p0 p1 p2 p3
          go_wp2_with fail
          go_roundw
          case rel => exact ⟨i + 1, st', by omega, by go_num, by rw [HV.out, vRun_at HS.out, HVS.out], HD4.out, HB4.out, HP4.out⟩
          case measure => simp [intOf] <;> omega
      · have hd1 : decide (i < l.length) = false := decide_eq_false hlt
        have hd2 : decide ((i : Int) < (l.length : Int)) = false := decide_eq_false (by omega)
        obtain rfl : i = l.length := by omega
        have hv1 : vRun regs outs reads n l 0 ⟨List.replicate regs none, List.replicate outs none, 0⟩ = (l.length, some st) := by rw [hv, List.drop_length]; rfl
        have HV1 := Lib.hid hv1
        clear hd1 hd2 hD hbl hp hv hv1
        go_wp2_with fail
        go_loopw [9] (fun v9 wr => ∃ j : Nat, j ≤ outs ∧ v9 = .int .i64 (j : Int) ∧ (∀ q, q < j → (somes st.outs)[q]? = some true) ∧ DW wr gt ga gz regs outs n st ∧ Below w.heap.size w wr ∧ Row wr w.heap.size 26 [.slice AS l.length cS, .int .i64 (regs : Int), .int .i64 (outs : Int), .int .u64 (reads : Int)]) (fun v9 _ => outs - (intOf v9).toNat)
        case atStart => exact ⟨0, by omega, rfl, fun q hq => absurd hq (by omega), HD.out, HBL.out, HP.out⟩
        case round =>
          obtain ⟨j, hj, rfl, hall, hD, hbl, hp⟩ := hrel
          clear HD HBL HP p0
          have p0 : wr.cell? ⟨w.heap.size, 0, none⟩ = some (.slice AS l.length cS) := hp.cell 0
          have p2 : wr.cell? ⟨w.heap.size, 2, none⟩ = some (.int .i64 (outs : Int)) := hp.cell 2
          have t1 : wr.cell? ⟨gt, 1, none⟩ = some (.slice (some ⟨gz, 0, none⟩) outs outs) := hD.ht.cell 1
          have HD := Lib.hid hD
          have HBL := Lib.hid hbl
          have HP := Lib.hid hp
          have HALL := Lib.hid hall
          by_cases hlt2 : j < outs
          · obtain ⟨lz, hrz, hvz⟩ := hD.lz
            obtain ⟨v, cv, ov⟩ := hvz.cell hrz (i := j) (by rw [hD.ok.lo]; exact hlt2)
            have i0 : (0 : Int) ≤ (j : Int) := by omega
            have i1 : (j : Int) < (outs : Int) := by omega
            cases hx : st.outs.getD j none with
            | some x =>
              rw [hx] at ov
              obtain ⟨g, k, rfl, _, _⟩ := ov
              have HX := Lib.hid (isReg_of hx).2
              have heq := fun w : World => Lib.run_eql_slice_nil (P := Try.prog) w 35 5 (some ⟨g, 0, none⟩) x.length k 0 0 Try.underlying35
              clear hrz hvz hD hbl hp hall
              go_wp2_with fail
              go_roundw
              case rel =>
                refine ⟨j + 1, by omega, by go_num, fun q hq => ?_, HD.out, HBL.out, HP.out⟩
                rcases Nat.lt_or_ge q j with h | h
                · exact HALL.out q h
                · obtain rfl : q = j := by omega
                  exact HX.out
              case measure => simp [intOf] <;> omega
            | none =>
              rw [hx] at ov
              obtain rfl : v = .slice none 0 0 := ov
              have hv2 : vAll regs outs reads n l = (l.length, none) := vAll_no HV1.out (fun h => by
                have h3 := h.1 (st.outs.getD j none) (by rw [List.getD_eq_getElem?_getD, List.getElem?_eq_getElem (by rw [hD.ok.lo]; exact hlt2)]; exact List.getElem_mem _)
                rw [hx] at h3
                cases h3)
              have heq := fun w : World => Lib.run_eql_slice_nil (P := Try.prog) w 35 5 none 0 0 0 0 Try.underlying35
              clear hrz hvz hD hbl hp hall
              go_wp2_with fail
              go_quiet (fail)
              go_wp2_with fail
              go_ret3
              refine ⟨below_drewN HBL.out _, fun st2 h2 => ?_, fun _ => ?_⟩
              · rw [hv2] at h2; cases h2
              · rw [hv2]; rfl
          · obtain rfl : j = outs := by omega
            have t2 : wr.cell? ⟨gt, 2, none⟩ = some (.int .u64 (st.loads : Int)) := hD.ht.cell 2
            have p3 : wr.cell? ⟨w.heap.size, 3, none⟩ = some (.int .u64 (reads : Int)) := hp.cell 3
            have hso : ∀ o ∈ st.outs, o.isSome = true := somes_all hD.ok.lo hall
            clear hD hbl hp hall
            go_wp2_with fail
            by_cases hrd2 : st.loads = reads
            · have r1 : ((st.loads : Int) != (reads : Int)) = false := by simp [hrd2]
              have r2 : decide (st.loads = reads) = true := decide_eq_true hrd2
              have hv2 : vAll regs j reads n l = (l.length, some st) := vAll_yes HV1.out ⟨hso, hrd2⟩
              go_quiet (fail)
              go_wp2_with fail
              obtain ⟨W2, hW2⟩ : ∃ W2, W2 = wr.drewN nq := ⟨_, rfl⟩
              have p0 : W2.cell? ⟨w.heap.size, 0, none⟩ = some (.slice AS l.length cS) := by rw [hW2]; exact p0
              have t1 : W2.cell? ⟨gt, 1, none⟩ = some (.slice (some ⟨gz, 0, none⟩) j j) := by rw [hW2]; exact t1
              have hd2 : DW W2 gt ga gz regs j n st := by rw [hW2]; exact HD.out.drewN nq
              have hb2 : Below w.heap.size w W2 := by rw [hW2]; exact below_drewN HBL.out nq
              rw [← hW2]
              have HD2 := Lib.hid hd2
              have HB2 := Lib.hid hb2
              clear hW2 hd2 hb2
              go_quiet (fail)
              go_wp2_with fail
              go_ret3
              refine ⟨below_drewN HB2.out _, fun st2 h2 => ?_, fun h2 => ?_⟩
              · rw [hv2] at h2 ⊢
                injection h2 with h2
                subst h2
                exact ⟨gt, ga, gz, rfl, HD2.out.drewN _, lz1⟩
              · rw [hv2] at h2; cases h2
            · have r1 : ((st.loads : Int) != (reads : Int)) = true := by simp; omega
              have r2 : decide (st.loads = reads) = false := decide_eq_false hrd2
              have hv2 : vAll regs j reads n l = (l.length, none) := vAll_no HV1.out (fun h => hrd2 h.2)
              go_quiet (fail)
              go_wp2_with fail
              obtain ⟨W2, hW2⟩ : ∃ W2, W2 = wr.drewN nq := ⟨_, rfl⟩
              have p0 : W2.cell? ⟨w.heap.size, 0, none⟩ = some (.slice AS l.length cS) := by rw [hW2]; exact p0
              have t1 : W2.cell? ⟨gt, 1, none⟩ = some (.slice (some ⟨gz, 0, none⟩) j j) := by rw [hW2]; exact t1
              have hd2 : DW W2 gt ga gz regs j n st := by rw [hW2]; exact HD.out.drewN nq
              have hb2 : Below w.heap.size w W2 := by rw [hW2]; exact below_drewN HBL.out nq
              rw [← hW2]
              have HD2 := Lib.hid hd2
              have HB2 := Lib.hid hb2
              clear hW2 hd2 hb2
              go_quiet (fail)
              go_wp2_with fail
              go_ret3
              refine ⟨below_drewN HB2.out _, fun st2 h2 => ?_, fun _ => ?_⟩
              · rw [hv2] at h2; cases h2
              · rw [hv2]; rfl
end Go.Proofs.Ythbjcafldbocpaa
namespace Go.Proofs.Ythbjcafldbocpaa
open Go.RowKit Go.Proofs.YthbjcafldbocpaaW.PrintWords Go.Proofs.Ythbjcafldbocpaa.P0
set_option linter.unusedVariables false
set_option linter.unusedSimpArgs false
theorem run_bad {w : World} {A : Option Addr} {c : Nat} {l : List S59} {r o q n : Int} (hC : Kd.C k59 w A l.length l) (hc : l.length ≤ c) (h : n < 0 ∨ 64 < n ∨ mayB l r o = false) :
    Calls Try.prog 31 #[.agg #[.slice A l.length c, .int .i64 r, .int .i64 o, .int .u64 q], .int .i64 n] w fun e w' => e = .returned (.tuple #[.slice none 0 0, .int .i64 0, .int .i64 2]) ∧ Below w.heap.size w w' := by
  have q0 : ∀ o, Below w.heap.size w (w.alloc o) := fun o => (Below.refl _ _).alloc (Nat.le_refl _) _
  obtain ⟨b, hb⟩ : ∃ b, mayB l r o = b := ⟨_, rfl⟩
  have hcan := fun w1 h1 => can_ok (w := w) r o q hC hc w1 h1
  rw [hb] at hcan
  cases b with
  | false =>
    go_enter Try.func31, Try.ntmps31
    go_wp2_with fail
    refine (hcan _ (q0 _)).mono ?_
    rintro e w1 ⟨rfl, hb1⟩
    go_wp2_with fail
    go_ret3
    exact ⟨rfl, (q0 _).trans (hb1.mono (by simp))⟩
  | true =>
    by_cases h0 : n < 0
    · have h1 : decide (n < 0) = true := decide_eq_true h0
      go_enter Try.func31, Try.ntmps31
      go_wp2_with fail
      refine (hcan _ (q0 _)).mono ?_
      rintro e w1 ⟨rfl, hb1⟩
      go_wp2_with fail
      go_ret3
      exact ⟨rfl, (q0 _).trans (hb1.mono (by simp))⟩
    · have h1 : decide (n < 0) = false := decide_eq_false h0
      have h2 : decide (64 < n) = true := decide_eq_true (by rcases h with h | h | h; exact absurd h h0; exact h; rw [hb] at h; cases h)
      go_enter Try.func31, Try.ntmps31
      go_wp2_with fail
      refine (hcan _ (q0 _)).mono ?_
      rintro e w1 ⟨rfl, hb1⟩
      go_wp2_with fail
      go_ret3
      exact ⟨rfl, (q0 _).trans (hb1.mono (by simp))⟩
theorem run_all {w : World} {A : Option Addr} {c : Nat} {l : List S59} {r o q n : Int} (hC : Kd.C k59 w A l.length l) (hc : l.length ≤ c) (hb : ∀ s ∈ l, byteB s.f3 = true) (hq : 0 ≤ q) (hq2 : q < 2 ^ 64) (hn : 0 ≤ n) (hn2 : n ≤ 64) (hm : mayB l r o = true) :
    Calls Try.prog 31 #[.agg #[.slice A l.length c, .int .i64 r, .int .i64 o, .int .u64 q], .int .i64 n] w fun e w' => RunPost w r.toNat o.toNat q.toNat n.toNat (l.map psOf) e w' := by
  have h1 := hm
  unfold mayB at h1
  rw [Bool.and_eq_true, decide_eq_true_eq, List.all_eq_true] at h1
  obtain ⟨⟨r1, r2, o1, o2, hl⟩, ho⟩ := h1
  have hst := steps_of hC ho hb
  have er : ((r.toNat : Nat) : Int) = r := Int.toNat_of_nonneg r1
  have eo : ((o.toNat : Nat) : Int) = o := Int.toNat_of_nonneg o1
  have eq : ((q.toNat : Nat) : Int) = q := Int.toNat_of_nonneg hq
  have en : ((n.toNat : Nat) : Int) = n := Int.toNat_of_nonneg hn
  have el : (l.map psOf).length = l.length := List.length_map _
  have hok : ∀ s ∈ l.map psOf, s.Ok := by
    intro s hs
    obtain ⟨x, hx, rfl⟩ := List.mem_map.1 hs
    exact psOf_ok (ho x hx)
  have hcan := can_ok (w := w) r o q hC hc
  rw [hm] at hcan
  have H := run_yes A (l.map psOf) c r.toNat o.toNat q.toNat n.toNat w hst (by omega) (by omega) (by rw [el]; exact hl) (by omega) (by omega) hok (by rw [el, er, eo, eq]; exact hcan)
  rw [el, er, eo, eq, en] at H
  exact H
end Go.Proofs.Ythbjcafldbocpaa
namespace Go.Proofs.Ythbjcafldbocpaa
open Go.RowKit Go.Proofs.YthbjcafldbocpaaW.PrintWords Go.Proofs.Ythbjcafldbocpaa.P0
set_option linter.unusedVariables false
set_option linter.unusedSimpArgs false
set_option maxHeartbeats 4000000 in
set_option maxRecDepth 100000 in
theorem rmakes_yes {w : World} {A : Option Addr} {c : Nat} {l : List S59} {r o q n : Int} (hC : Kd.C k59 w A l.length l) (hc : l.length ≤ c) (hb : ∀ s ∈ l, byteB s.f3 = true) (hq : 0 ≤ q) (hq2 : q < 2 ^ 64) (hn : 0 ≤ n) (hn2 : n ≤ 64) (hm : mayB l r o = true) (st : VS) (i : Nat) (hv : vAll r.toNat o.toNat q.toNat n.toNat (l.map psOf) = (i, some st)) :
    Calls Try.prog 23 #[progV A l.length c r o q, .int .i64 n] w fun e w' => MatE w' w.heap.size o n (outsD st.outs) 0 e ∧ Below w.heap.size w w' := by
  obtain ⟨nn, rfl⟩ : ∃ nn : Nat, n = (nn : Int) := ⟨n.toNat, (Int.toNat_of_nonneg hn).symm⟩
  unfold progV
  have ho0 : 0 ≤ o ∧ o ≤ 64 := by
    unfold mayB at hm
    rw [Bool.and_eq_true, decide_eq_true_eq] at hm
    omega
  go_enter Try.func23, Try.ntmps23
  go_wp2_with fail
  obtain ⟨W1, hW1⟩ : ∃ W1, W1 = (w.alloc (.cells #[.slice A l.length c, .int .i64 r, .int .i64 o, .int .u64 q] 26)).alloc (.cells #[.int .i64 0, .int .i64 0, .slice none 0 0] 37) := ⟨_, rfl⟩
  have q1 : Below w.heap.size w W1 := by rw [hW1]; exact ((Below.refl _ _).alloc (Nat.le_refl _) _).alloc (by simp) _
  have hm4 : Row W1 (w.heap.size + 1) 37 [.int .i64 0, .int .i64 0, .slice none 0 0] := by
    rw [hW1]
    have := Row.new (w.alloc (.cells #[.slice A l.length c, .int .i64 r, .int .i64 o, .int .u64 q] 26)) [.int .i64 0, .int .i64 0, .slice none 0 0] 37
    simpa using this
  rw [← hW1]
  clear hW1
  refine (run_all (Kd.C_below hC q1) hc hb hq hq2 hn hn2 hm).mono ?_
  rintro e w' ⟨hbl, hy, hno⟩
  rw [hv] at hy
  obtain ⟨gt, ga, gz, rfl, hD, hgz⟩ := hy st rfl
  clear hno hy
  have hm2 := hm4.below hbl hm4.lt
  have q2 : Below w.heap.size w w' := q1.trans (hbl.mono q1.size)
  obtain ⟨no, hno⟩ : ∃ no, no = o.toNat := ⟨_, rfl⟩
  have eno : (no : Int) = o := by rw [hno]; exact Int.toNat_of_nonneg ho0.1
  obtain ⟨lz, hrz, hvz⟩ := hD.lz
  have hok := hD.ok
  have lno : st.outs.length = no := by rw [hok.lo, hno]
  rw [← hno]
  have hm3 := Row.new w' [.int .i64 (no : Int), .int .i64 (nn : Int), .slice none 0 0] 37
  have hr3 := hm2.alloc (.cells #[.int .i64 (no : Int), .int .i64 (nn : Int), .slice none 0 0] 37)
  have lgm := hm2.lt
  have lgz := hrz.lt
  have q3 : Below w.heap.size w (w'.alloc (.cells #[.int .i64 (no : Int), .int .i64 (nn : Int), .slice none 0 0] 37)) := q2.alloc q2.size _
  have HM3 := Lib.hid hm3
  have HZ3 := Lib.hid hrz
  have HV3 := Lib.hid hvz
  have HR3 := Lib.hid hr3
  have HQ3 := Lib.hid q3
  have HOK := Lib.hid hok
  have HNO := Lib.hid hno
  have HENO := Lib.hid eno
  have HALL := Lib.hid (vAll_some hv).1
  clear hm4 hm2 hD hrz hvz hok hm3 hr3 q3 q2 q1 hbl hno eno
  go_wp2_with fail
  go_loopw [10] (fun v10 wr => ∃ (j : Nat) (v : Value), j ≤ no ∧ v10 = .int .i64 (j : Int) ∧ Row wr w'.heap.size 37 [.int .i64 (no : Int), .int .i64 (nn : Int), v] ∧ OwnV wr (w'.heap.size + 1) v (outsD (st.outs.take j)) ∧ (outsD (st.outs.take j)).length = j * nn ∧ Below w'.heap.size w' wr ∧ Row wr (w.heap.size + 1) 37 [.int .i64 0, .int .i64 0, .slice none 0 0] ∧ Below w.heap.size w wr ∧ w'.heap.size + 1 ≤ wr.heap.size) (fun v10 _ => no - (intOf v10).toNat)
  case atStart => exact ⟨0, _, by omega, rfl, HM3.out, OwnV.nil _ _, by simp [outsD], (Below.refl _ _).alloc (Nat.le_refl _) _, HR3.out, HQ3.out, by simp⟩
  case round =>
    obtain ⟨j, v, hj, rfl, hmm, how, hjl, hww, hrr, hqq, hss⟩ := hrel
    clear HM3 HR3 HQ3
    have HMM := Lib.hid hmm
    have HOW := Lib.hid how
    have HWW := Lib.hid hww
    have HRR := Lib.hid hrr
    have HQQ := Lib.hid hqq
    have hno64 : no ≤ 64 := by have := HENO.out; omega
    by_cases hlt : j < no
    · have i0 : (0 : Int) ≤ (j : Int) := by omega
      have i1 : (j : Int) < (no : Int) := by omega
      obtain ⟨x, hx, hxo⟩ := out_row HALL.out (j := j) (by rw [lno]; exact hlt)
      have lx : x.length = nn := by have := HOK.out.wo j x hx; simpa using this
      have hvw : Vals wr lz st.outs := HV3.out.keep (fun g cells hg => hww.block g (heap_lt hg))
      obtain ⟨vx, cx, ox⟩ := hvw.cell (HZ3.out.below hww HZ3.out.lt) (i := j) (by rw [lno]; exact hlt)
      rw [hx] at ox
      obtain ⟨gx, kx, rfl, _, rx⟩ := ox
      rw [lx] at cx
      have hrd := rx.rd
      rw [lx] at hrd
      have HRD := Lib.hid (show Rd wr.drew wr.drew.heap.size (some ⟨gx, 0, none⟩) nn (bVs x) from hrd)
      have m0 : wr.cell? ⟨w'.heap.size, 2, none⟩ = some v := hmm.cell 2
      have hlo : (outsD (st.outs.take j)).length ≤ 4096 := by rw [hjl]; exact Nat.mul_le_mul (show j ≤ 64 by have := HENO.out; omega) (show nn ≤ 64 by omega)
      clear hmm how hww hrr hqq hvw rx hrd
      go_wp2_with fail
      refine wp_region_held_drew (S := fun x => x.cell? ⟨gz, j, none⟩ = some (.slice (some ⟨gx, 0, none⟩) nn kx)) (by kernel_rfl) cx (fun hHeld => ?_)
      refine wpAnyH_take (i := 0) (v := ?_) rfl (by kernel_rfl) (by kernel_rfl) (by kernel_rfl) (fun _ _ _ h => h) (Or.inl ⟨by kernel_rfl, ?_⟩) (by assumption) ?_
      rotate_left
      · (intro w hSw; (try dsimp only at hSw); go_simp; (try with_reducible rfl))
      try simp only [List.getElem_toArray, List.getElem_cons_succ, List.getElem_cons_zero, Act.put, List.setIfInBounds_toArray, List.set_cons_zero, List.set_cons_succ]
      refine wpAnyH_take (i := 2) (v := ?_) rfl (by kernel_rfl) (by kernel_rfl) (by kernel_rfl) (fun _ _ _ h => h) (Or.inl ⟨by kernel_rfl, ?_⟩) (by assumption) ?_
      rotate_left
      · (intro w hSw; (try dsimp only at hSw); go_simp; (try with_reducible rfl))
      try simp only [List.getElem_toArray, List.getElem_cons_succ, List.getElem_cons_zero, Act.put, List.setIfInBounds_toArray, List.set_cons_zero, List.set_cons_succ]
      refine wpAnyH_take (i := 3) (v := ?_) rfl (by kernel_rfl) (by kernel_rfl) (by kernel_rfl) (fun _ _ _ h => h) (Or.inl ⟨by kernel_rfl, ?_⟩) (by assumption) ?_
      rotate_left
      · (intro w hSw; (try dsimp only at hSw); go_simp; (try with_reducible rfl))
      try simp only [List.getElem_toArray, List.getElem_cons_succ, List.getElem_cons_zero, Act.put, List.setIfInBounds_toArray, List.set_cons_zero, List.set_cons_succ]
      refine wpAnyH_take (i := 4) (v := ?_) rfl (by kernel_rfl) (by kernel_rfl) (by kernel_rfl) (fun _ _ _ h => h) (Or.inl ⟨by kernel_rfl, ?_⟩) (by assumption) ?_
      rotate_left
      · (intro w hSw; (try dsimp only at hSw); go_simp; (try with_reducible rfl))
      try simp only [List.getElem_toArray, List.getElem_cons_succ, List.getElem_cons_zero, Act.put, List.setIfInBounds_toArray, List.set_cons_zero, List.set_cons_succ]
      refine wpAnyH_take (i := 5) (v := ?_) rfl (by kernel_rfl) (by kernel_rfl) (by kernel_rfl) (fun _ _ _ h => h) (Or.inl ⟨by kernel_rfl, ?_⟩) (by assumption) ?_
      rotate_left
      · (intro w hSw; (try dsimp only at hSw); go_simp; (try with_reducible rfl))
      try simp only [List.getElem_toArray, List.getElem_cons_succ, List.getElem_cons_zero, Act.put, List.setIfInBounds_toArray, List.set_cons_zero, List.set_cons_succ]
      refine wpAnyH_ready (rs := [1]) (by kernel_rfl) (by simp) ?_
      refine AllReadyH.cons rfl (fun K hK => ?_) AllReadyH.nil
      go_simp
      refine hK.out _ _ hHeld (fun hHeld => ?_)
      clear hK K
      try simp only [List.getElem_toArray, List.getElem_cons_succ, List.getElem_cons_zero, Act.put, List.setIfInBounds_toArray, List.set_cons_zero, List.set_cons_succ]
      refine wpAnyH_ready (rs := [6]) (by kernel_rfl) (by simp) ?_
      refine AllReadyH.cons rfl (fun K hK => ?_) AllReadyH.nil
      refine step_append_rd (.tmp 33) (.tmp 37) rfl rfl (w'.heap.size + 1) v _ x rfl (HOW.out.drewN 1) _ (some ⟨gx, 0, none⟩) nn kx rfl HRD.out (by omega) hss ?_
      intro v6 w6 ho6 hg6 hat6
      obtain ⟨A6, c6, rfl, _⟩ := ho6.slice
      generalize hm6 : (outsD (st.outs.take j) ++ x).length = m6 at *
      have HM6 := Lib.hid hm6
      clear hm6
      have hb6 : Below (w'.heap.size + 1) wr.drew w6 := grown_below hg6 hss (fun k hk => (World.ownsRow.lt HOW.out k hk).1)
      have hb6' : Below (w'.heap.size + 1) wr w6 := ⟨hb6.os, hb6.tape, hb6.output, hb6.size, hb6.block⟩
      have hm6r := HMM.out.below hb6' (by omega)
      have c62 : w6.cell? ⟨w'.heap.size, 2, none⟩ = some v := hm6r.cell 2
      have f62 : w6.frozen? ⟨w'.heap.size, 2, none⟩ = false := hm6r.frozen 2
      have cx6 : w6.cell? ⟨gz, j, none⟩ = some (.slice (some ⟨gx, 0, none⟩) nn kx) := (hb6'.cell (p := ⟨gz, j, none⟩) (by simp; omega)).trans cx
      have cx7 : (w6.setCell ⟨w'.heap.size, 2, none⟩ (.slice A6 m6 c6)).cell? ⟨gz, j, none⟩ = some (.slice (some ⟨gx, 0, none⟩) nn kx) := (World.cell?_setCell_other w6 _ ⟨gz, j, none⟩ _ (by intro e; injection e with e; omega)).trans cx6
      have HF1 := Lib.hid (hm6r.set 2 (.slice A6 m6 c6))
      have HF2 := Lib.hid (own_far2 (g := w'.heap.size) (i := 2) ho6 (by omega) (.slice A6 m6 c6))
      have HF3 := Lib.hid (show Below w'.heap.size w' (w6.setCell ⟨w'.heap.size, 2, none⟩ (.slice A6 m6 c6)) from (HWW.out.trans (hb6'.mono (by omega))).setCell (by simp) _)
      have HF4 := Lib.hid ((HRR.out.below hb6' (by omega)).far (p := ⟨w'.heap.size, 2, none⟩) (by simp; omega) (.slice A6 m6 c6))
      have HF5 := Lib.hid (show Below w.heap.size w (w6.setCell ⟨w'.heap.size, 2, none⟩ (.slice A6 m6 c6)) from (HQQ.out.trans (hb6'.mono (by omega))).setCell (by simp; omega) _)
      have HF6 := Lib.hid (show w'.heap.size + 1 ≤ (w6.setCell ⟨w'.heap.size, 2, none⟩ (.slice A6 m6 c6)).heap.size by have := hb6'.size; simp [World.setCell]; omega)
      clear ho6 hg6 hat6 hb6 hb6' hm6r
      refine hK.out _ _ cx6 (fun hHeld => ?_)
      clear hK K
      try simp only [List.getElem_toArray, List.getElem_cons_succ, List.getElem_cons_zero, Act.put, List.setIfInBounds_toArray, List.set_cons_zero, List.set_cons_succ]
      refine wpAnyH_take (i := 7) (v := ?_) rfl (by kernel_rfl) (by kernel_rfl) (by kernel_rfl) (fun _ _ _ h => h) (Or.inl ⟨by kernel_rfl, ?_⟩) (by assumption) ?_
      rotate_left
      · (intro w hSw; (try dsimp only at hSw); go_simp; (try with_reducible rfl))
      try simp only [List.getElem_toArray, List.getElem_cons_succ, List.getElem_cons_zero, Act.put, List.setIfInBounds_toArray, List.set_cons_zero, List.set_cons_succ]
      refine wpAnyH_ready (rs := [8]) (by kernel_rfl) (by simp) ?_
      refine AllReadyH.cons rfl (fun K hK => ?_) AllReadyH.nil
      go_simp
      refine hK.out _ _ cx7 (fun hHeld => ?_)
      clear hK K
      try simp only [List.getElem_toArray, List.getElem_cons_succ, List.getElem_cons_zero, Act.put, List.setIfInBounds_toArray, List.set_cons_zero, List.set_cons_succ]
      refine wpAnyH_done (by kernel_rfl) ?_ _
      go_wp2_with fail
      go_roundw
      case rel =>
        exact ⟨j + 1, _, by omega, by go_num, HF1.out, by rw [hxo]; exact HF2.out, by rw [hxo, List.length_append, hjl, lx, Nat.add_mul, Nat.one_mul], HF3.out, HF4.out, HF5.out, HF6.out⟩
      case measure => simp [intOf] <;> omega
    · obtain rfl : j = no := by omega
      rw [← lno, List.take_length] at how
      have m0 : wr.cell? ⟨w'.heap.size, 0, none⟩ = some (.int .i64 (j : Int)) := hmm.cell 0
      have m1 : wr.cell? ⟨w'.heap.size, 1, none⟩ = some (.int .i64 (nn : Int)) := hmm.cell 1
      have m2 : wr.cell? ⟨w'.heap.size, 2, none⟩ = some v := hmm.cell 2
      obtain ⟨c40, c41, c42, f40, f41, f42⟩ := hrr.three
      obtain ⟨Av, cv, rfl, _⟩ := how.slice
      generalize hmv : (outsD st.outs).length = mv at *
      have HMV := Lib.hid hmv
      clear hmv
      have R4 := hrr.set3 (.int .i64 (j : Int)) (.int .i64 (nn : Int)) (.slice Av mv cv)
      obtain ⟨d0, d1, d2, _, _, _⟩ := R4.three
      have H9 := Lib.hid (own_far2 (i := 2) (own_far2 (i := 1) (own_far2 (i := 0) how (show w.heap.size + 1 < w'.heap.size + 1 by omega) (.int .i64 (j : Int))) (show w.heap.size + 1 < w'.heap.size + 1 by omega) (.int .i64 (nn : Int))) (show w.heap.size + 1 < w'.heap.size + 1 by omega) (.slice Av mv cv))
      have H10 := Lib.hid (((hqq.setCell (p := ⟨w.heap.size + 1, 0, none⟩) (by simp) (.int .i64 (j : Int))).setCell (p := ⟨w.heap.size + 1, 1, none⟩) (by simp) (.int .i64 (nn : Int))).setCell (p := ⟨w.heap.size + 1, 2, none⟩) (by simp) (.slice Av mv cv))
      clear hmm how hww hrr hqq
      go_wp2_with fail
      refine bodyPost_ret (v := .tuple #[.agg #[.int .i64 (j : Int), .int .i64 (nn : Int), .slice Av mv cv], .int .i64 0]) (by simp [results, Try.results23, go_sem, d0, d1, d2]) rfl ?_
      rw [← HENO.out]
      exact ⟨⟨_, w'.heap.size + 1, by omega, rfl, H9.out⟩, H10.out⟩
end Go.Proofs.Ythbjcafldbocpaa
namespace Go.Proofs.Ythbjcafldbocpaa
open Go.RowKit Go.Proofs.YthbjcafldbocpaaW.PrintWords Go.Proofs.Ythbjcafldbocpaa.P0
set_option linter.unusedVariables false
set_option linter.unusedSimpArgs false
set_option maxRecDepth 100000 in
theorem rmakes_no {w : World} {A : Option Addr} {c : Nat} {l : List S59} {r o q n code : Int} (hcode : code ≠ 0)
    (hrun : ∀ w1, Below w.heap.size w w1 → Calls Try.prog 31 #[.agg #[.slice A l.length c, .int .i64 r, .int .i64 o, .int .u64 q], .int .i64 n] w1 fun e w' => ∃ p : Int, e = .returned (.tuple #[.slice none 0 0, .int .i64 p, .int .i64 code]) ∧ Below w1.heap.size w1 w') :
    Calls Try.prog 23 #[progV A l.length c r o q, .int .i64 n] w fun e w' => e = .returned (.tuple #[.agg #[.int .i64 0, .int .i64 0, .slice none 0 0], .int .i64 code]) ∧ Below w.heap.size w w' := by
  unfold progV
  have hcn : (code != 0) = true := by simpa using hcode
  go_enter Try.func23, Try.ntmps23
  go_wp2_with fail
  obtain ⟨W1, hW1⟩ : ∃ W1, W1 = (w.alloc (.cells #[.slice A l.length c, .int .i64 r, .int .i64 o, .int .u64 q] 26)).alloc (.cells #[.int .i64 0, .int .i64 0, .slice none 0 0] 37) := ⟨_, rfl⟩
  have q1 : Below w.heap.size w W1 := by rw [hW1]; exact ((Below.refl _ _).alloc (Nat.le_refl _) _).alloc (by simp) _
  have hm4 : Row W1 (w.heap.size + 1) 37 [.int .i64 0, .int .i64 0, .slice none 0 0] := by
    rw [hW1]
    have := Row.new (w.alloc (.cells #[.slice A l.length c, .int .i64 r, .int .i64 o, .int .u64 q] 26)) [.int .i64 0, .int .i64 0, .slice none 0 0] 37
    simpa using this
  rw [← hW1]
  clear hW1
  refine (hrun W1 q1).mono ?_
  rintro e w' ⟨p, rfl, hbl⟩
  have hm2 := hm4.below hbl hm4.lt
  have q2 : Below w.heap.size w w' := q1.trans (hbl.mono q1.size)
  obtain ⟨c40, c41, c42, f40, f41, f42⟩ := hm2.three
  have R4 := hm2.set3 (.int .i64 0) (.int .i64 0) (.slice none 0 0)
  obtain ⟨d0, d1, d2, _, _, _⟩ := R4.three
  have H10 := Lib.hid (((q2.setCell (p := ⟨w.heap.size + 1, 0, none⟩) (by simp) (.int .i64 0)).setCell (p := ⟨w.heap.size + 1, 1, none⟩) (by simp) (.int .i64 0)).setCell (p := ⟨w.heap.size + 1, 2, none⟩) (by simp) (.slice none 0 0))
  clear hm4 hm2 q1 q2 hbl R4 hrun
  go_wp2_with fail
  refine bodyPost_ret (v := .tuple #[.agg #[.int .i64 0, .int .i64 0, .slice none 0 0], .int .i64 code]) (by simp [results, Try.results23, go_sem, d0, d1, d2]) rfl ?_
  exact ⟨rfl, H10.out⟩
theorem rmakes_calls {w : World} {A : Option Addr} {c : Nat} {l : List S59} {r o q n : Int} (hC : Kd.C k59 w A l.length l) (hc : l.length ≤ c) (hb : ∀ s ∈ l, byteB s.f3 = true) (hq : 0 ≤ q) (hq2 : q < 2 ^ 64) :
    Calls Try.prog 23 #[progV A l.length c r o q, .int .i64 n] w fun e w' => MatE w' w.heap.size (makesV l r o q n).1 (makesV l r o q n).2.1 (makesV l r o q n).2.2.1 (makesV l r o q n).2.2.2 e ∧ Below w.heap.size w w' := by
  by_cases h : n < 0 ∨ 64 < n ∨ mayB l r o = false
  · have e : makesV l r o q n = (0, 0, [], 2) := by unfold makesV; exact if_pos h
    rw [e]
    refine (rmakes_no (code := 2) (by decide) (fun w1 h1 => ((run_bad (r := r) (o := o) (q := q) (n := n) (Kd.C_below hC h1) hc h).mono ?_))).mono ?_
    · rintro e w' ⟨rfl, hbl⟩
      exact ⟨0, rfl, hbl⟩
    · rintro e w' ⟨rfl, hbl⟩
      exact ⟨⟨_, w.heap.size, Nat.le_refl _, rfl, OwnV.nil _ _⟩, hbl⟩
  · have h' : mayB l r o = true := by
      cases hm : mayB l r o
      · exact absurd (.inr (.inr hm)) h
      · rfl
    cases hv : vAll r.toNat o.toNat q.toNat n.toNat (l.map psOf) with
    | mk i st =>
      cases st with
      | some st =>
        have e : makesV l r o q n = (o, n, outsD st.outs, 0) := by unfold makesV; rw [if_neg h, hv]
        rw [e]
        exact rmakes_yes hC hc hb hq hq2 (by omega) (by omega) h' st i hv
      | none =>
        have e : makesV l r o q n = (0, 0, [], 250) := by unfold makesV; rw [if_neg h, hv]
        rw [e]
        refine (rmakes_no (code := 250) (by decide) (fun w1 h1 => ((run_all (r := r) (o := o) (q := q) (n := n) (Kd.C_below hC h1) hc hb hq hq2 (by omega) (by omega) h').mono ?_))).mono ?_
        · rintro e w' ⟨hbl, hy, hno⟩
          rw [hv] at hno
          obtain rfl := hno rfl
          exact ⟨_, rfl, hbl⟩
        · rintro e w' ⟨rfl, hbl⟩
          exact ⟨⟨_, w.heap.size, Nat.le_refl _, rfl, OwnV.nil _ _⟩, hbl⟩
end Go.Proofs.Ythbjcafldbocpaa
namespace Go.Proofs.Ythbjcafldbocpaa
open Go.RowKit Go.Proofs.YthbjcafldbocpaaW.PrintWords Go.Proofs.Ythbjcafldbocpaa.P0
set_option linter.unusedVariables false
set_option linter.unusedSimpArgs false
end Go.Proofs.Ythbjcafldbocpaa
namespace Go.Proofs.Ythbjcafldbocpaa
open Go.RowKit Go.Proofs.YthbjcafldbocpaaW.PrintWords Go.Proofs.Ythbjcafldbocpaa.P0
set_option linter.unusedVariables false
set_option linter.unusedSimpArgs false
theorem vRun_ok {nr no reads n : Nat} : ∀ (l : List PS) (i : Nat) (st : VS) (j : Nat) (st' : VS), st.Ok nr no n → vRun nr no reads n l i st = (j, some st') → st'.Ok nr no n
  | [], i, st, j, st', h, e => by
    unfold vRun at e
    injection e with _ e
    injection e with e
    exact e ▸ h
  | s :: l, i, st, j, st', h, e => by
    unfold vRun at e
    split at e
    · rename_i st1 hs
      exact vRun_ok l (i + 1) st1 j st' (vStep_ok h hs) e
    · cases e
theorem vAll_ok {nr no reads n i : Nat} {l : List PS} {st : VS} (h : vAll nr no reads n l = (i, some st)) : st.Ok nr no n := by
  unfold vAll at h
  split at h
  · rename_i j st' hr
    split at h
    · injection h with _ e
      injection e with e
      exact e ▸ vRun_ok l 0 _ j st' (st0_ok nr no n) hr
    · cases h
  · cases h
end Go.Proofs.Ythbjcafldbocpaa
namespace Go.Proofs.Ythbjcafldbocpaa
open Go.RowKit Go.Proofs.YthbjcafldbocpaaW.PrintWords Go.Proofs.Ythbjcafldbocpaa.P0
set_option linter.unusedVariables false
set_option linter.unusedSimpArgs false
def fiveL : List S59 := [⟨1, 0, 0, 0⟩, ⟨2, 1, 0, 0⟩, ⟨3, 0, 1, 5⟩, ⟨4, 0, 0, 0⟩]
theorem five_check : checkV fiveL 2 1 1 2 = (4, 0) := by decide +kernel
theorem five_may : mayB fiveL 2 1 = true := by decide +kernel
theorem five_run : vAll 2 1 1 2 (fiveL.map psOf) = (4, some ⟨[some [5, 0], some [1, 0]], [some [5, 0]], 1⟩) := by
  rfl
theorem five_bytes : ∀ s ∈ fiveL, byteB s.f3 = true := by decide +kernel
def cs59 (s : S59) : List Value := [.int .u8 s.f0, .int .i64 s.f1, .int .i64 s.f2, .int .u8 s.f3]
theorem fm_get : ∀ (l : List S59) (j i : Nat) (s : S59), l[j]? = some s → i < 4 → (l.flatMap cs59)[j * 4 + i]? = (cs59 s)[i]?
  | [], j, i, s, h, _ => by simp at h
  | x :: l, 0, i, s, h, hi => by
    simp at h
    subst h
    rw [List.flatMap_cons, Nat.zero_mul, Nat.zero_add, List.getElem?_append_left (by simpa [cs59] using hi)]
  | x :: l, j + 1, i, s, h, hi => by
    rw [List.flatMap_cons, List.getElem?_append_right (by simp [cs59]; omega), show (j + 1) * 4 + i - (cs59 x).length = j * 4 + i by simp [cs59]; omega]
    exact fm_get l j i s (by simpa using h) hi
theorem C_of_row {W : World} {g : Nat} {t : TypeId} {l : List S59} (h : Row W g t (l.flatMap cs59)) (hl : l.length ≤ 9223372036854775807) : Kd.C k59 W (some ⟨g, 0, none⟩) l.length l := by
  refine ⟨rfl, hl, fun _ => ⟨⟨g, 0, none⟩, rfl, fun j s hs => ⟨cs59 s, rfl, k59_mk W s, fun i u hu => ?_⟩⟩⟩
  have hi : i < 4 := by
    rcases Nat.lt_or_ge i 4 with h | h
    · exact h
    · rw [List.getElem?_eq_none (by simpa [cs59] using h)] at hu; cases hu
  rw [addr_add, Nat.zero_add, show k59.sz = 4 from rfl, h.cell, fm_get l j i s hs hi]
  exact hu
theorem five_calls (w : World) : Calls Try.prog 32 #[] w fun e w' => ∃ A c, e = .returned (progV A fiveL.length c 2 1 1) ∧ Kd.C k59 w' A fiveL.length fiveL ∧ fiveL.length ≤ c ∧ Below w.heap.size w w' := by
  have h0 := Row.new w [.slice (some ⟨w.heap.size + 1, 0, none⟩) 4 4, .int .i64 2, .int .i64 1, .int .u64 1] 26
  have h1 := h0.alloc (.cells (fiveL.flatMap cs59).toArray 59)
  have d0 := h1.cell 0
  have d1 := h1.cell 1
  have d2 := h1.cell 2
  have d3 := h1.cell 3
  have h2 := Row.new (w.alloc (.cells [.slice (some ⟨w.heap.size + 1, 0, none⟩) 4 4, .int .i64 2, .int .i64 1, .int .u64 1].toArray 26)) (fiveL.flatMap cs59) 59
  rw [show (w.alloc (.cells [Value.slice (some ⟨w.heap.size + 1, 0, none⟩) 4 4, .int .i64 2, .int .i64 1, .int .u64 1].toArray 26)).heap.size = w.heap.size + 1 by simp] at h2
  have HC := Lib.hid (C_of_row h2 (by decide))
  have HB := Lib.hid (show Below w.heap.size w ((w.alloc (.cells [.slice (some ⟨w.heap.size + 1, 0, none⟩) 4 4, .int .i64 2, .int .i64 1, .int .u64 1].toArray 26)).alloc (.cells (fiveL.flatMap cs59).toArray 59)) from ((Below.refl _ _).alloc (Nat.le_refl _) _).alloc (by simp) _)
  obtain ⟨W2, hW2⟩ : ∃ W2, W2 = (w.alloc (.cells [.slice (some ⟨w.heap.size + 1, 0, none⟩) 4 4, .int .i64 2, .int .i64 1, .int .u64 1].toArray 26)).alloc (.cells (fiveL.flatMap cs59).toArray 59) := ⟨_, rfl⟩
  rw [← hW2] at d0 d1 d2 d3 HC HB
  have HW2 := Lib.hid hW2
  clear hW2 h0 h1 h2
  go_enter Try.func32, Try.ntmps32
  go_wp2_with fail
  have e2 : (w.alloc (.cells #[.slice (some ⟨w.heap.size + 1, 0, none⟩) 4 4, .int .i64 2, .int .i64 1, .int .u64 1] 26)).alloc (.cells #[.int .u8 1, .int .i64 0, .int .i64 0, .int .u8 0, .int .u8 2, .int .i64 1, .int .i64 0, .int .u8 0, .int .u8 3, .int .i64 0, .int .i64 1, .int .u8 5, .int .u8 4, .int .i64 0, .int .i64 0, .int .u8 0] 59) = W2 := HW2.out.symm
  rw [e2]
  simp only [List.getElem?_cons_zero, List.getElem?_cons_succ] at d0 d1 d2 d3
  refine bodyPost_ret (v := progV (some ⟨w.heap.size + 1, 0, none⟩) 4 4 2 1 1) (by simp [progV, results, Try.results32, go_sem, d0, d1, d2, d3]) rfl ?_
  exact ⟨_, 4, rfl, HC.out, by decide, HB.out⟩
end Go.Proofs.Ythbjcafldbocpaa
namespace Go.Proofs.Ythbjcafldbocpaa
open Go.RowKit Go.Proofs.YthbjcafldbocpaaW.PrintWords Go.Proofs.Ythbjcafldbocpaa.P0
set_option linter.unusedVariables false
set_option linter.unusedSimpArgs false
theorem five_makes {w : World} {A : Option Addr} {c : Nat} (hC : Kd.C k59 w A fiveL.length fiveL) (hc : fiveL.length ≤ c) :
    Calls Try.prog 13 #[progV A fiveL.length c 2 1 1, .int .i64 2] w fun e w' => MatE w' w.heap.size 1 2 [5, 0] 0 e ∧ Below w.heap.size w w' :=
  makes_yes hC hc five_bytes (by decide) (by decide) (by decide) (by decide) five_may ⟨[some [5, 0], some [1, 0]], [some [5, 0]], 1⟩ 4 five_run
set_option maxRecDepth 100000 in
set_option maxHeartbeats 1600000 in
theorem anchored25_calls (w : World) : Calls Try.prog 12 #[] w fun e w' => e = .returned (.bool true) ∧ Below w.heap.size w w' := by
  go_enter Try.func12, Try.ntmps12
  go_wp2_with fail
  refine (five_calls w).mono ?_
  rintro e w1 ⟨A, c, rfl, hC, hc, hb1⟩
  go_wp2_with fail
  refine (five_makes hC hc).mono ?_
  rintro e w2 ⟨⟨v, b, hbb, rfl, ho⟩, hb2⟩
  obtain ⟨Av, cv, rfl, hox⟩ := ho.slice
  have ho3 : OwnB w2 b Av 2 cv [5, 0] := hox
  have HB2 := Lib.hid (hb1.trans (hb2.mono hb1.size))
  have HO := Lib.hid ho3
  clear hC hc hb1 hb2 ho hox ho3
  go_wp2_with fail
  have hrow := Row.new w2 [.int .i64 1, .int .i64 2, .slice Av 2 cv] 37
  have hB3 : Below w2.heap.size w2 (w2.alloc (.cells [Value.int .i64 1, .int .i64 2, .slice Av 2 cv].toArray 37)) := (Below.refl _ _).alloc (Nat.le_refl _) _
  obtain ⟨w3, hw3⟩ : ∃ w3, w3 = w2.alloc (.cells [Value.int .i64 1, .int .i64 2, .slice Av 2 cv].toArray 37) := ⟨_, rfl⟩
  rw [← hw3] at hrow hB3
  rw [show w2.alloc (.cells #[Value.int .i64 1, .int .i64 2, .slice Av 2 cv] 37) = w3 from hw3.symm]
  clear hw3
  refine (five_calls w3).mono ?_
  rintro e w4 ⟨A4, c4, rfl, hC4, hc4, hb4⟩
  go_wp2_with fail
  have hck := check_calls (r := 2) (o := 1) (q := 1) (n := 2) hC4 hc4 five_bytes (by decide) (by decide)
  rw [five_check] at hck
  refine hck.mono ?_
  rintro e w5 ⟨rfl, hb5⟩
  have hb35 : Below w3.heap.size w3 w5 := hb4.trans (hb5.mono hb4.size)
  have hr5 := hrow.below hb35 hrow.lt
  obtain ⟨m0, m1, m2, _, _, _⟩ := hr5.three
  have hb25 : Below w2.heap.size w2 w5 := hB3.trans (hb35.mono hB3.size)
  have rd5 : Rd w5 w5.heap.size Av 2 (bVs [5, 0]) := HO.out.rd.go hb25
  have hn : Row (w5.alloc (.cells #[.int .u8 5, .int .u8 0] 5)) w5.heap.size 5 (bVs [5, 0]) := Row.new w5 _ _
  have rb : Rd (w5.alloc (.cells #[.int .u8 5, .int .u8 0] 5)) _ (some ⟨w5.heap.size, 0, none⟩) 2 (bVs [5, 0]) := (RdT.of_row hn).rd
  have ra : Rd (w5.alloc (.cells #[.int .u8 5, .int .u8 0] 5)) _ Av 2 (bVs [5, 0]) := rd5.go ((Below.refl _ _).alloc (Nat.le_refl _) _)
  have HR := Lib.hid ra
  have HRB := Lib.hid rb
  have HBF := Lib.hid (show Below w.heap.size w (w5.alloc (.cells #[.int .u8 5, .int .u8 0] 5)) from (HB2.out.trans (hb25.mono HB2.out.size)).alloc (Nat.le_trans HB2.out.size hb25.size) _)
  clear hC4 hc4 hb4 hck hb5 hb35 hr5 hb25 rd5 hn rb ra hrow hB3
  go_wp2_with fail
  refine (like_self 1 2 Av 2 cv (some ⟨w5.heap.size, 0, none⟩) 2 2 [5, 0] _ HR.out HRB.out).mono ?_
  rintro e w6 ⟨rfl, hb6⟩
  go_wp2_with fail
  go_ret
  exact ⟨rfl, HBF.out.trans (hb6.mono HBF.out.size)⟩
end Go.Proofs.Ythbjcafldbocpaa
namespace Go.Proofs.Ythbjcafldbocpaa
open Go.RowKit Go.Proofs.YthbjcafldbocpaaW.PrintWords Go.Proofs.Ythbjcafldbocpaa.P0
set_option linter.unusedVariables false
set_option linter.unusedSimpArgs false
theorem makes_shape {l : List S59} {r o q n : Int} (h : (makesV l r o q n).2.2.2 = 0) :
    ∃ (st : VS) (no m i : Nat), o = no ∧ n = m ∧ no ≤ 64 ∧ m ≤ 64 ∧ makesV l r o q n = (o, n, outsD st.outs, 0) ∧ (∀ x ∈ st.outs, ∃ y, x = some y ∧ y.length = m) ∧ st.outs.length = no ∧ mayB l r o = true ∧ vAll r.toNat o.toNat q.toNat n.toNat (l.map psOf) = (i, some st) := by
  by_cases hh : n < 0 ∨ 64 < n ∨ mayB l r o = false
  · have e : makesV l r o q n = (0, 0, [], 2) := by unfold makesV; exact if_pos hh
    rw [e] at h
    exact absurd h (by decide)
  · have h' : mayB l r o = true := by
      cases hm : mayB l r o
      · exact absurd (.inr (.inr hm)) hh
      · rfl
    have ho0 : 0 ≤ o ∧ o ≤ 64 := by
      have hm := h'
      unfold mayB at hm
      rw [Bool.and_eq_true, decide_eq_true_eq] at hm
      omega
    have hn0 : 0 ≤ n ∧ n ≤ 64 := by omega
    cases hv : vAll r.toNat o.toNat q.toNat n.toNat (l.map psOf) with
    | mk i st =>
      cases st with
      | none =>
        have e : makesV l r o q n = (0, 0, [], 250) := by unfold makesV; rw [if_neg hh, hv]
        rw [e] at h
        exact absurd h (by decide)
      | some st =>
        have hok : st.Ok r.toNat o.toNat n.toNat := vAll_ok hv
        exact ⟨st, o.toNat, n.toNat, i, (Int.toNat_of_nonneg ho0.1).symm, (Int.toNat_of_nonneg hn0.1).symm, by omega, by omega, by unfold makesV; rw [if_neg hh, hv], outs_all hok (vAll_some hv).1, hok.lo, h', rfl⟩
theorem outsD_length {m : Nat} : ∀ (sa : List (Option (List UInt8))), (∀ o ∈ sa, ∃ x, o = some x ∧ x.length = m) → (outsD sa).length = sa.length * m
  | [], _ => by simp [outsD]
  | a :: sa, ha => by
    obtain ⟨x, rfl, lx⟩ := ha a (by simp)
    have ih := outsD_length sa (fun o h => ha o (by simp [h]))
    show (x ++ outsD sa).length = _
    rw [List.length_append, ih, lx, List.length_cons, Nat.add_mul, Nat.one_mul, Nat.add_comm]
theorem does_all {w : World} {A B D : Option Addr} {c kg kw : Nat} {l : List S59} {r o q gr gc wr wc : Int} {xs ys : List UInt8} {ng nw : Nat} (hC : Kd.C k59 w A l.length l) (hc : l.length ≤ c) (hb : ∀ s ∈ l, byteB s.f3 = true) (hq : 0 ≤ q) (hq2 : q < 2 ^ 64)
    (hx : Rd w w.heap.size B ng (bVs xs)) (hkg : ng ≤ kg) (hy : Rd w w.heap.size D nw (bVs ys)) :
    (Calls Try.prog 26 #[progV A l.length c r o q, mV gr gc B ng kg, mV wr wc D nw kw] w fun e w' => e = .returned (.tuple #[.bool (doesM (makesV l r o q gr) gr gc xs wr wc ys).1, .int .i64 (doesM (makesV l r o q gr) gr gc xs wr wc ys).2]) ∧ Below w.heap.size w w') ∧
    (Calls Try.prog 27 #[progV A l.length c r o q, mV gr gc B ng kg, mV wr wc D nw kw] w fun e w' => e = .returned (.tuple #[.bool (doesM (makesV l r o q gr) gr gc xs wr wc ys).1, .int .i64 (doesM (makesV l r o q gr) gr gc xs wr wc ys).2]) ∧ Below w.heap.size w w') := by
  obtain rfl : xs.length = ng := by have := hx.len; rw [bVs_length] at this; exact this
  obtain rfl : ys.length = nw := by have := hy.len; rw [bVs_length] at this; exact this
  by_cases h : doesB gr gc xs.length wr wc ys.length = false
  · have e : doesM (makesV l r o q gr) gr gc xs wr wc ys = (false, 3) := by unfold doesM; exact if_pos h
    rw [e]
    exact ⟨does_no hx hy h, rdoes_no hx hy h⟩
  · have h' : rightB gr gc xs.length = true ∧ rightB wr wc ys.length = true ∧ gc = wc := by simpa [doesB, and_assoc] using h
    obtain ⟨h1, h2, rfl⟩ := h'
    have H1 := Lib.hid (fun w1 (hw : Below w.heap.size w w1) => makes_calls (r := r) (o := o) (n := gr) (Kd.C_below hC hw) hc hb hq hq2)
    have H2 := Lib.hid (fun w1 (hw : Below w.heap.size w w1) => rmakes_calls (r := r) (o := o) (n := gr) (Kd.C_below hC hw) hc hb hq hq2)
    by_cases he : (makesV l r o q gr).2.2.2 = 0
    · obtain ⟨st, no, m, i, e1, e2, a1, a2, a3, a4, a5, _, _⟩ := makes_shape he
      obtain ⟨m', k, f1, f2, f3, f4, f5⟩ := right_nat h1
      obtain rfl : m = m' := by omega
      have had : (outsD st.outs).length = no * m := by rw [outsD_length _ a4, a5]
      have e : doesM (makesV l r o q gr) gr gc xs wr gc ys = (likeB (no : Int) (k : Int) (mulG no m k (outsD st.outs) xs) wr (k : Int) ys, 0) := by
        unfold doesM
        rw [if_neg h, if_neg (fun x => x he), a3, e1, f1, f2]
        rfl
      rw [e]
      subst f1 f2
      rw [a3, e1] at H1 H2
      exact ⟨does_yes (wc := 0) hx hy hkg a1 a2 f4 f5 had h2 (by rw [e1]; exact H1), rdoes_yes (wc := 0) hx hy hkg a1 a2 f4 f5 had h2 (by rw [e1]; exact H2)⟩
    · have e : doesM (makesV l r o q gr) gr gc xs wr gc ys = (false, (makesV l r o q gr).2.2.2) := by unfold doesM; rw [if_neg h]; exact if_pos he
      rw [e]
      exact ⟨does_err he hx hy h1 h2 rfl H1, rdoes_err he hx hy h1 h2 rfl H2⟩
set_option maxRecDepth 100000 in
set_option maxHeartbeats 1600000 in
theorem verifyDoes_core {w : World} {A B D : Option Addr} {c nl ng kg nw kw : Nat} {r o q gr gc wr wc : Int} (b : Bool × Int)
    (H1 : Hid (∀ w1, Below w.heap.size w w1 → Calls Try.prog 26 #[.agg #[.slice A nl c, .int .i64 r, .int .i64 o, .int .u64 q], .agg #[.int .i64 gr, .int .i64 gc, .slice B ng kg], .agg #[.int .i64 wr, .int .i64 wc, .slice D nw kw]] w1 fun e w' => e = .returned (.tuple #[.bool b.1, .int .i64 b.2]) ∧ Below w1.heap.size w1 w'))
    (H2 : Hid (∀ w1, Below w.heap.size w w1 → Calls Try.prog 27 #[.agg #[.slice A nl c, .int .i64 r, .int .i64 o, .int .u64 q], .agg #[.int .i64 gr, .int .i64 gc, .slice B ng kg], .agg #[.int .i64 wr, .int .i64 wc, .slice D nw kw]] w1 fun e w' => e = .returned (.tuple #[.bool b.1, .int .i64 b.2]) ∧ Below w1.heap.size w1 w')) :
    Calls Try.prog 8 #[progV A nl c r o q, mV gr gc B ng kg, mV wr wc D nw kw] w fun e w' => e = .returned (.bool true) ∧ Below w.heap.size w w' := by
  obtain ⟨b1, b2⟩ := b
  unfold progV
  have S := (((Cx.start w).box 26 [.slice A nl c, .int .i64 r, .int .i64 o, .int .u64 q]).box 37 [.int .i64 gr, .int .i64 gc, .slice B ng kg]).box 37 [.int .i64 wr, .int .i64 wc, .slice D nw kw]
  simp only [World.size_alloc] at S
  have t2 : (b1 == b1) = true := by simp
  have t3 : (b2 == b2) = true := by simp
  go_enter Try.func8, Try.ntmps8
  go_wp2_with fail
  refine (H1.out _ S.below).mono ?_
  rintro e w1 ⟨rfl, hb1⟩
  replace S := S.go hb1
  clear hb1
  obtain ⟨c0, c1, c2, c3⟩ := S.cells4 2 rfl
  obtain ⟨d0, d1, d2⟩ := S.cells3 1 rfl
  obtain ⟨e0, e1, e2⟩ := S.cells3 0 rfl
  go_wp2_with fail
  refine (H2.out _ S.below).mono ?_
  rintro e w2 ⟨rfl, hb2⟩
  replace S := S.go hb2
  clear hb2 c0 c1 c2 c3 d0 d1 d2 e0 e1 e2
  go_wp2_with fail
  refine (anchored25_calls _).mono ?_
  rintro e w3 ⟨rfl, hb3⟩
  replace S := S.go hb3
  clear hb3
  go_wp2_with fail
  go_ret
  exact ⟨rfl, S.below⟩
theorem verifyDoes_calls (A : Option Addr) (c : Nat) (l : List S59) (r o q : Int) (gr gc : Int) (B : Option Addr) (ng kg : Nat) (xs : List UInt8) (wr wc : Int) (D : Option Addr) (nw kw : Nat) (ys : List UInt8) (w : World) (hC : Kd.C k59 w A l.length l) (hc : l.length ≤ c) (hb : ∀ s ∈ l, byteB s.f3 = true) (hq : 0 ≤ q) (hq2 : q < 2 ^ 64)
    (b1 : -9223372036854775808 ≤ gr ∧ gr ≤ 9223372036854775807) (b2 : -9223372036854775808 ≤ gc ∧ gc ≤ 9223372036854775807) (rx : Rd w w.heap.size B ng (bVs xs)) (lx : ng ≤ kg) (kx : kg ≤ 140737488351232)
    (b3 : -9223372036854775808 ≤ wr ∧ wr ≤ 9223372036854775807) (b4 : -9223372036854775808 ≤ wc ∧ wc ≤ 9223372036854775807) (ry : Rd w w.heap.size D nw (bVs ys)) (ly : nw ≤ kw) (ky : kw ≤ 140737488351232) :
    Calls Try.prog 8 #[progV A l.length c r o q, mV gr gc B ng kg, mV wr wc D nw kw] w fun e w' => e = .returned (.bool true) ∧ Below w.heap.size w w' :=
  verifyDoes_core (doesM (makesV l r o q gr) gr gc xs wr wc ys) (Lib.hid fun w1 h1 => (does_all (Kd.C_below hC h1) hc hb hq hq2 (rx.go h1) lx (ry.go h1)).1) (Lib.hid fun w1 h1 => (does_all (Kd.C_below hC h1) hc hb hq hq2 (rx.go h1) lx (ry.go h1)).2)
end Go.Proofs.Ythbjcafldbocpaa
namespace Go.Proofs.Ythbjcafldbocpaa
open Go.ChangeShapes Go.WideShapes Go.ChangeAt Go.RowKit Go.Joins Go.Proofs.YthbjcafldbocpaaW.PrintWords Go.Proofs.Ythbjcafldbocpaa.P0
set_option linter.unusedVariables false
set_option linter.unusedSimpArgs false
theorem cells_step : Try.prog.cellsOf 59 = 4 := by kernel_rfl
theorem cells_k57 : Try.prog.cellsOf 57 = 1 := by kernel_rfl
theorem cells_int : Try.prog.cellsOf 3 = 1 := by kernel_rfl
theorem cells_u8 : Try.prog.cellsOf 5 = 1 := by kernel_rfl
theorem cells_prog : Try.prog.cellsOf 26 = 4 := by kernel_rfl
theorem byteB_wf {a : Int} (h : (Lit.int .u8 a).wf = true) : byteB a = true := by
  obtain ⟨x, rfl⟩ := u8_of h
  exact byteB_nat x
set_option maxRecDepth 100000 in
theorem step_cells {H : Type} {enc : TypeId × Value → H} {W : World} {n : Nat} {cs : List Value} {x : DataW H × List MemPlace} (h : DataW.trod enc Try.prog W 0 (fun _ => true) true n 59 cs = some x) : ∃ s : S59, cs = cs59 s ∧ byteB s.f3 = true := by
  obtain ⟨y0, y1, y2, y3, m, _, hl, h0, h1, h2, h3⟩ := Go.Joins.trod_struct4 Try.underlying59 h
  rw [cells_step] at hl
  match cs, hl with
  | [c0, c1, c2, c3], _ =>
    have e0 : [c0] = [c0] := rfl
    obtain ⟨a0, q0, _, _⟩ := DataW.trod_int Try.underlying57 h0
    obtain ⟨a1, q1, _, _⟩ := DataW.trod_int Try.underlying3 h1
    obtain ⟨a2, q2, _, _⟩ := DataW.trod_int Try.underlying3 h2
    obtain ⟨a3, q3, _, w3⟩ := DataW.trod_int Try.underlying5 h3
    simp [cells_k57, cells_int, cells_u8] at q0 q1 q2 q3
    subst q0 q1 q2 q3
    exact ⟨⟨a0, a1, a2, a3⟩, rfl, byteB_wf w3⟩
instance : Inhabited S59 := ⟨z59⟩
theorem steps_field {H : Type} {enc : TypeId × Value → H} {W : World} {fuel : Nat} {v : Value} {y : DataW H × List MemPlace}
    (hf : DataW.trod enc Try.prog W 0 (fun _ => true) true fuel 22 [v] = some y) :
    ∃ (a : Option Addr) (cap : Nat) (l : List S59), v = .slice a l.length cap ∧ Kd.C k59 W a l.length l ∧ l.length ≤ cap ∧ ∀ s ∈ l, byteB s.f3 = true := by
  rcases Go.Deep.open_slice Try.underlying22 hf with ⟨hcs, _⟩ | ⟨a, len, cap, m, n, D, Pl, hcs, _, hl, hm, hmm, _, hx⟩
  · simp at hcs
    exact ⟨none, 0, [], hcs, ⟨rfl, by simp, fun h => absurd h (by simp)⟩, Nat.le_refl _, fun s hs => by cases hs⟩
  · simp at hcs
    subst hcs
    have hlm : len ≤ m := by simp at hmm; omega
    obtain ⟨f, hf2⟩ := Go.Deep.choose_lt (α := S59) (n := len) (p := fun i s => (∀ j u, (cs59 s)[j]? = some u → W.cell? (a.add (i * 4 + j)) = some u) ∧ byteB s.f3 = true) (fun i hi => by
      obtain ⟨cs', h1, h2⟩ := hx i (by omega)
      obtain ⟨s, rfl, hb⟩ := step_cells h2
      rw [cells_step] at h1
      obtain ⟨_, _, h3⟩ := World.cells?_some h1
      refine ⟨s, fun j u hu => ?_, hb⟩
      have hj : j < 4 := by
        rcases Nat.lt_or_ge j 4 with h | h
        · exact h
        · rw [List.getElem?_eq_none (by simpa [cs59] using h)] at hu; cases hu
      rw [← Go.Deep.add_add, h3 j hj, hu])
    refine ⟨some a, cap, (List.range len).map f, by simp, ⟨rfl, by simp; have : cap ≤ 9223372036854775807 := hm; omega, fun _ => ⟨a, rfl, fun j p hp => ?_⟩⟩, by simpa using hl, fun s hs => ?_⟩
    · rw [List.getElem?_map] at hp
      obtain ⟨j2, hj2, rfl⟩ := Option.map_eq_some_iff.1 hp
      obtain ⟨hjl, rfl⟩ := List.getElem?_eq_some_iff.1 hj2
      rw [List.length_range] at hjl
      simp only [List.getElem_range]
      exact ⟨cs59 (f j), rfl, k59_mk W (f j), fun i u hu => (hf2 j hjl).1 i u hu⟩
    · obtain ⟨j, hj, rfl⟩ := List.mem_map.1 hs
      exact (hf2 j (List.mem_range.1 hj)).2
set_option maxRecDepth 100000 in
theorem open_program {H : Type} {enc : TypeId × Value → H} {W : World} {r : Reach} {b0 : Nat} {v : Value} {d : DataW H} {p : List MemPlace}
    (hv : Value.okWide Try.prog W r b0 26 v) (h : DataW.Trod enc Try.prog W 0 (fun _ => true) true 26 v d p) :
    ∃ (a : Option Addr) (cap : Nat) (l : List S59) (rr oo qq : Int), v = progV a l.length cap rr oo qq ∧ Kd.C k59 W a l.length l ∧ l.length ≤ cap ∧ (∀ s ∈ l, byteB s.f3 = true) ∧ 0 ≤ qq ∧ qq < 2 ^ 64 := by
  obtain ⟨v0, v1, v2, v3, y0, y1, y2, y3, m, rfl, _, _, t0, t1, t2, t3⟩ := Go.Joins.open_agg4 Try.underlying26 (by kernel_rfl) cells_prog hv h
  obtain ⟨a, cap, l, rfl, hC, hl, hb⟩ := steps_field t0
  obtain ⟨rr, e1, _, _⟩ := DataW.trod_int Try.underlying3 t1
  obtain ⟨oo, e2, _, _⟩ := DataW.trod_int Try.underlying3 t2
  obtain ⟨qq, e3, _, w3⟩ := DataW.trod_int Try.underlying24 t3
  simp at e1 e2 e3
  subst e1 e2 e3
  have hq : 0 ≤ qq ∧ qq < 2 ^ 64 := by
    have := bounds_u64 w3
    omega
  exact ⟨a, cap, l, rr, oo, qq, rfl, hC, hl, hb, hq.1, hq.2⟩
end Go.Proofs.Ythbjcafldbocpaa
namespace Go.Proofs.Ythbjcafldbocpaa.verifyDoes
open Go.ChangeShapes Go.WideShapes Go.ChangeAt Go.RowKit

set_option linter.unusedVariables false

set_option maxRecDepth 100000 in
theorem lifted (os : Os) (started : os.Started) (H : Type) (enc : TypeId × Value → H) :
    ReturnsInHanded {} Try.checked os 8 .any (Rows.verifyDoesSpec.pre6 enc Try.prog Try.f8 Rows.verifyDoesRow.domain false) (Rows.verifyDoesSpec.post enc Try.prog Try.f8 false true false false) := by
  refine returnsInHanded_of_change_sized (C := Try.checked) own_knob started (by kernel_rfl) Try.func8
    (ChangeSpec.witness6 (enc := enc) (C := Try.checked) false ⟨#[], #[.agg #[.slice none 0 0, .int .i64 0, .int .i64 0, .int .u64 0], .agg #[.int .i64 0, .int .i64 0, .slice none 0 0], .agg #[.int .i64 0, .int .i64 0, .slice none 0 0]], []⟩ 8 (by kernel_rfl) (by kernel_rfl) (by kernel_rfl) (by kernel_rfl)) ?_
  intro W base args ds gs before hval0 hW hcnd hsz0 _
  have hsz : (DataW.weightsEach Try.prog (Try.f8.params.toList ++ Rows.verifyDoesSpec.plain.varTypes Try.prog) (ds ++ gs)).all (· ≤ reachBytes) = true := hsz0
  have hval : ∀ (j : Nat) t v, Try.f8.params[j]? = some t → args[j]? = some v → Value.okWide Try.prog W .any base t v := hval0
  have hW' := hW
  obtain ⟨p, q, hA0, hV, rfl, hfz, hnd⟩ := hW
  have hA : DataW.TrodAll enc Try.prog W 0 (fun _ => true) true Try.f8.params.toList args.toList ds p := hA0
  rw [Try.params8] at hA hval hsz
  obtain ⟨v0, vs0, d0, ds0, p0, q0, hargs, rfl, rfl, h0, r0⟩ := trodAll_cons hA
  obtain ⟨v1, vs1, d1, ds1, p1, q1, rfl, rfl, rfl, h1, r1⟩ := trodAll_cons r0
  obtain ⟨v2, vs2, d2, ds2, p2, q2, rfl, rfl, rfl, h2, r2⟩ := trodAll_cons r1
  obtain ⟨rfl, rfl, rfl⟩ := trodAll_nil r2
  obtain rfl : args = #[v0, v1, v2] := by cases args; simp_all
  obtain ⟨rfl, rfl⟩ := trodVars_none hV
  have k0 := h0
  have lt0 : ∀ x ∈ p0, x.block < W.heap.size := by obtain ⟨m, hm⟩ := k0; exact DataW.trod_lt m _ _ _ hm
  have k1 := h1
  have lt1 : ∀ x ∈ p1, x.block < W.heap.size := by obtain ⟨m, hm⟩ := k1; exact DataW.trod_lt m _ _ _ hm
  have k2 := h2
  have lt2 : ∀ x ∈ p2, x.block < W.heap.size := by obtain ⟨m, hm⟩ := k2; exact DataW.trod_lt m _ _ _ hm
  obtain ⟨a0, c0, x0, rr0, oo0, qq0, rfl, rd0, lc0, by0, q00, q10⟩ := open_program (hval 0 26 v0 rfl rfl) h0
  obtain ⟨mr1, mc1, a1, n1, cap1, x1, dd1, rfl, wr1, wc1, rd1, lc1, cm1, rfl, sz1⟩ := open_matrix (hval 1 37 v1 rfl rfl) h1
  have cr1 := sized_matrix hsz (j := 1) rfl rfl sz1
  obtain ⟨mr2, mc2, a2, n2, cap2, x2, dd2, rfl, wr2, wc2, rd2, lc2, cm2, rfl, sz2⟩ := open_matrix (hval 2 37 v2 rfl rfl) h2
  have cr2 := sized_matrix hsz (j := 2) rfl rfl sz2
  clear hA0 hval0 hsz0
  refine (verifyDoes_calls a0 c0 x0 rr0 oo0 qq0 mr1 mc1 a1 n1 cap1 x1 mr2 mc2 a2 n2 cap2 x2 W rd0 lc0 by0 q00 q10 (bounds_i64 wr1) (bounds_i64 wc1) rd1 lc1 cr1 (bounds_i64 wr2) (bounds_i64 wc2) rd2 lc2 cr2).mono fun e W' ⟨he, bel⟩ => ?_
  subst he
  exact ⟨_, rfl, _, _, _, [], _, [], hW', trodAll_mk1 (shut_bool Try.underlying4 _), (trodAll_cons_mk (Below.trod laid_out (by kernel_rfl) (of_decide_eq_true (by kernel_rfl)) k0 bel lt0) (trodAll_cons_mk (Below.trod laid_out (by kernel_rfl) (of_decide_eq_true (by kernel_rfl)) k1 bel lt1) (trodAll_cons_mk (Below.trod laid_out (by kernel_rfl) (of_decide_eq_true (by kernel_rfl)) k2 bel lt2) trodAll_mk0))), rfl, bel.frame _, fun h => by cases h⟩

theorem over : Rows.verifyDoesRow.holds Try.pinned (OpenSpec.ofChange Rows.verifyDoesSpec) :=
  OpenClaim.holds_of_wide 8 Try.f8 rfl rfl rfl rfl rfl rfl rfl ⟨rfl, rfl, rfl, rfl, rfl⟩ rfl rfl rfl rfl rfl (by kernel_rfl) Try.func8 (by kernel_rfl)
    (of_decide_eq_true (by kernel_rfl)) (by unfold Func.isWrapper; first | (rw [if_pos (by decide +kernel)]; kernel_rfl) | (rw [if_neg (by decide +kernel)]; exact ⟨rfl, rfl⟩))
    (fun os started H enc _ => lifted os started H enc)

theorem proved : Rows.VerifyDoesSaid := over
#print axioms proved
end Go.Proofs.Ythbjcafldbocpaa.verifyDoes
