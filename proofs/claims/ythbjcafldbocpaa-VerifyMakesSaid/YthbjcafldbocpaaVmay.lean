/- Which programs may be written: the program's answer and the document's, in plain Lean; emit.all. -/
import Derived.Test.YthbjcafldbocpaaVwrite
import Derived.Test.YthbjcafldbocpaaP0x1
import Derived.Test.YthbjcafldbocpaaP0x2
import Derived.Test.YthbjcafldbocpaaP0x3
namespace Go.Proofs.Ythbjcafldbocpaa
open Go.RowKit Go.Proofs.YthbjcafldbocpaaW.PrintWords Go.Proofs.Ythbjcafldbocpaa.P0
set_option linter.unusedVariables false
set_option linter.unusedSimpArgs false
def okS (s : S59) : Bool := decide (1 ≤ s.f0 ∧ s.f0 ≤ 4 ∧ 0 ≤ s.f1 ∧ s.f1 ≤ 255 ∧ 0 ≤ s.f2 ∧ s.f2 ≤ 255 ∧ (s.f0 = 1 → s.f2 = 0) ∧ (s.f0 ≠ 3 → s.f3 = 0))
def mayB (l : List S59) (r o : Int) : Bool := decide (0 ≤ r ∧ r ≤ 256 ∧ 0 ≤ o ∧ o ≤ 64 ∧ l.length ≤ 65536) && l.all okS
theorem rd_at {l : List S59} {i : Nat} (h : i < l.length) : rd_T59 l (i : Int) = l[i] := by
  simp [rd_T59, List.getD_eq_getElem?_getD, h]
theorem all_drop {l : List S59} {i : Nat} (h : i < l.length) : (l.drop i).all okS = (okS l[i] && (l.drop (i + 1)).all okS) := by
  rw [List.drop_eq_getElem_cons h, List.all_cons]
theorem okS_no {s : S59} (h : ¬ (1 ≤ s.f0 ∧ s.f0 ≤ 4 ∧ 0 ≤ s.f1 ∧ s.f1 ≤ 255 ∧ 0 ≤ s.f2 ∧ s.f2 ≤ 255 ∧ (s.f0 = 1 → s.f2 = 0) ∧ (s.f0 ≠ 3 → s.f3 = 0))) : okS s = false := decide_eq_false h
theorem wrap_next {i : Nat} (h : i < 65536) : wrap64 ((i : Int) + 1) = ((i + 1 : Nat) : Int) := by unfold wrap64; omega
theorem fields1 : emit_fields.f 1 = some ⟨#[68]⟩ := by simp [emit_fields.f]
theorem fields2 : emit_fields.f 2 = some ⟨#[68, 83]⟩ := by simp [emit_fields.f]
theorem fields3 : emit_fields.f 3 = some ⟨#[68, 83, 67]⟩ := by simp [emit_fields.f]
theorem fields4 : emit_fields.f 4 = some ⟨#[68, 83]⟩ := by simp [emit_fields.f]
theorem sz1 : ((⟨#[68]⟩ : ByteArray).size : Int) = 1 := rfl
theorem sz2 : ((⟨#[68, 83]⟩ : ByteArray).size : Int) = 2 := rfl
theorem sz3 : ((⟨#[68, 83, 67]⟩ : ByteArray).size : Int) = 3 := rfl
theorem may_j2 (k : Nat) (l : List S59) (n i : Int) (s : S59) (b : Bool) (h1 : 1 ≤ s.f0) (h4 : s.f0 ≤ 4) (a1 : 0 ≤ s.f1) (a2 : s.f1 ≤ 255) (a3 : 0 ≤ s.f2) (a4 : s.f2 ≤ 255) (hk : emit_may.l0 k l n (wrap64 (i + 1)) = some b) :
    emit_may.j2 (k + 1) l n i false s.f0 s.f1 s.f2 s.f3 = some (okS s && b) := by
  have h : s.f0 = 1 ∨ s.f0 = 2 ∨ s.f0 = 3 ∨ s.f0 = 4 := by omega
  obtain ⟨f0, f1, f2, f3⟩ := s
  simp only at h h1 h4 a1 a2 a3 a4 ⊢
  rcases h with h | h | h | h <;> subst h
  · simp only [emit_may.j2, fields1, Option.bind_some, sz1, Bool.false_eq_true, if_false]
    by_cases c2 : f2 = 0 <;> by_cases c3 : f3 = 0 <;> simp [okS, c2, c3, hk, a1, a2, a3, a4]
  · simp only [emit_may.j2, fields2, Option.bind_some, sz2, Bool.false_eq_true, if_false]
    by_cases c3 : f3 = 0 <;> simp [okS, c3, hk, a1, a2, a3, a4]
  · simp only [emit_may.j2, fields3, Option.bind_some, sz3, Bool.false_eq_true, if_false]
    simp [okS, hk, a1, a2, a3, a4]
  · simp only [emit_may.j2, fields4, Option.bind_some, sz2, Bool.false_eq_true, if_false]
    by_cases c3 : f3 = 0 <;> simp [okS, c3, hk, a1, a2, a3, a4]
theorem may_l0 (l : List S59) (hl : l.length ≤ 65536) : ∀ d i, i + d = l.length → ∃ k, emit_may.l0 k l (l.length : Int) (i : Int) = some ((l.drop i).all okS)
  | 0, i, h => ⟨1, by
      rw [List.drop_eq_nil_of_le (by omega)]
      simp only [emit_may.l0]
      rw [if_neg (by omega)]
      rfl⟩
  | d + 1, i, h => by
      obtain ⟨k, hk⟩ := may_l0 l hl d (i + 1) (by omega)
      have hi : i < l.length := by omega
      refine ⟨k + 2, ?_⟩
      rw [all_drop hi]
      simp only [emit_may.l0, rd_at hi]
      rw [if_pos (by omega), if_pos (by omega), if_pos (by omega)]
      generalize l[i] = s
      rw [← wrap_next (by omega)] at hk
      unfold emit_known.f
      by_cases h1 : 1 ≤ s.f0
      · rw [if_pos h1]
        by_cases h4 : s.f0 ≤ 4
        · simp only [Option.bind_some, decide_eq_true h4, if_true]
          by_cases a1 : 0 ≤ s.f1
          · rw [if_neg (by omega)]
            by_cases a2 : s.f1 ≤ 255
            · rw [if_neg (by omega)]
              by_cases a3 : 0 ≤ s.f2
              · rw [if_neg (by omega)]
                by_cases a4 : s.f2 ≤ 255
                · rw [show decide (s.f2 > 255) = false from decide_eq_false (by omega)]
                  exact may_j2 k l _ _ s _ h1 h4 a1 a2 a3 a4 hk
                · rw [show decide (s.f2 > 255) = true from decide_eq_true (by omega), okS_no (fun h => a4 h.2.2.2.2.2.1)]
                  simp [emit_may.j2]
              · rw [if_pos (by omega), okS_no (fun h => a3 h.2.2.2.2.1)]
                simp [emit_may.j2]
            · rw [if_pos (by omega), okS_no (fun h => a2 h.2.2.2.1)]
              simp [emit_may.j2]
          · rw [if_pos (by omega), okS_no (fun h => a1 h.2.2.1)]
            simp [emit_may.j2]
        · simp only [Option.bind_some, decide_eq_false h4, Bool.false_eq_true, if_false]
          rw [okS_no (fun h => h4 h.2.1)]
          simp [emit_may.j2]
      · rw [if_neg h1]
        simp only [Option.bind_some, Bool.false_eq_true, if_false]
        rw [okS_no (fun h => h1 h.1)]
        simp [emit_may.j2]
theorem may_f (l : List S59) (r o q : Int) : ∃ k, emit_may.f k l r o q = some (mayB l r o) := by
  have no : ∀ r o q, (¬ (0 ≤ r ∧ r ≤ 256 ∧ 0 ≤ o ∧ o ≤ 64 ∧ l.length ≤ 65536)) → emit_may.j0 1 true l r o q = some (mayB l r o) := by
    intro r o q h
    unfold mayB
    rw [decide_eq_false h]
    simp [emit_may.j0]
  by_cases h1 : r < 0
  · exact ⟨1, by unfold emit_may.f; rw [if_pos h1]; exact no _ _ _ (by omega)⟩
  by_cases h2 : r > 256
  · exact ⟨1, by unfold emit_may.f; rw [if_neg h1, if_pos h2]; exact no _ _ _ (by omega)⟩
  by_cases h3 : o < 0
  · exact ⟨1, by unfold emit_may.f; rw [if_neg h1, if_neg h2, if_pos h3]; exact no _ _ _ (by omega)⟩
  by_cases h4 : o > 64
  · exact ⟨1, by unfold emit_may.f; rw [if_neg h1, if_neg h2, if_neg h3, if_pos h4]; exact no _ _ _ (by omega)⟩
  by_cases h5 : (l.length : Int) > 65536
  · exact ⟨1, by unfold emit_may.f; rw [if_neg h1, if_neg h2, if_neg h3, if_neg h4, decide_eq_true h5]; exact no _ _ _ (by omega)⟩
  · obtain ⟨k, hk⟩ := may_l0 l (by omega) l.length 0 (by omega)
    refine ⟨k + 1, ?_⟩
    unfold emit_may.f mayB
    rw [if_neg h1, if_neg h2, if_neg h3, if_neg h4, decide_eq_false h5, decide_eq_true (by omega)]
    simp only [emit_may.j0, Bool.false_eq_true, if_false, Bool.true_and]
    exact hk
theorem can_j2 (k : Nat) (l : List S59) (i r o q : Int) (s : S59) (b : Bool) (h1 : 1 ≤ s.f0) (h4 : s.f0 ≤ 4) (a1 : 0 ≤ s.f1) (a2 : s.f1 ≤ 255) (a3 : 0 ≤ s.f2) (a4 : s.f2 ≤ 255) (hk : recoupref24_Can.l0 k (wrap64 (i + 1)) l r o q = some b) :
    recoupref24_Can.j2 (k + 1) i false l r o q s.f0 s.f1 s.f2 s.f3 = some (okS s && b) := by
  have h : s.f0 = 1 ∨ s.f0 = 2 ∨ s.f0 = 3 ∨ s.f0 = 4 := by omega
  obtain ⟨f0, f1, f2, f3⟩ := s
  simp only at h h1 h4 a1 a2 a3 a4 ⊢
  rcases h with h | h | h | h <;> subst h
  · by_cases c2 : f2 = 0 <;> by_cases c3 : f3 = 0 <;> simp [recoupref24_Can.j2, recoupref24_fields.f, okS, c2, c3, hk, a1, a2, a3, a4]
  · by_cases c3 : f3 = 0 <;> simp [recoupref24_Can.j2, recoupref24_fields.f, okS, c3, hk, a1, a2, a3, a4]
  · simp [recoupref24_Can.j2, recoupref24_fields.f, okS, hk, a1, a2, a3, a4]
  · by_cases c3 : f3 = 0 <;> simp [recoupref24_Can.j2, recoupref24_fields.f, okS, c3, hk, a1, a2, a3, a4]
theorem can_l0 (l : List S59) (r o q : Int) (hl : l.length ≤ 65536) : ∀ d i, i + d = l.length → ∃ k, recoupref24_Can.l0 k (i : Int) l r o q = some ((l.drop i).all okS)
  | 0, i, h => ⟨1, by
      rw [List.drop_eq_nil_of_le (by omega)]
      simp only [recoupref24_Can.l0]
      rw [if_neg (by omega)]
      rfl⟩
  | d + 1, i, h => by
      obtain ⟨k, hk⟩ := can_l0 l r o q hl d (i + 1) (by omega)
      have hi : i < l.length := by omega
      refine ⟨k + 2, ?_⟩
      rw [all_drop hi]
      simp only [recoupref24_Can.l0, rd_at hi]
      rw [if_pos (by omega), if_pos (by omega)]
      generalize l[i] = s
      rw [← wrap_next (by omega)] at hk
      by_cases h1 : 1 ≤ s.f0
      · rw [if_neg (by omega)]
        by_cases h4 : s.f0 ≤ 4
        · rw [if_neg (by omega)]
          by_cases a1 : 0 ≤ s.f1
          · rw [if_neg (by omega)]
            by_cases a2 : s.f1 ≤ 255
            · rw [if_neg (by omega)]
              by_cases a3 : 0 ≤ s.f2
              · rw [if_neg (by omega)]
                by_cases a4 : s.f2 ≤ 255
                · rw [show decide (s.f2 > 255) = false from decide_eq_false (by omega)]
                  exact can_j2 k l _ _ _ _ s _ h1 h4 a1 a2 a3 a4 hk
                · rw [show decide (s.f2 > 255) = true from decide_eq_true (by omega), okS_no (fun h => a4 h.2.2.2.2.2.1)]
                  simp [recoupref24_Can.j2]
              · rw [if_pos (by omega), okS_no (fun h => a3 h.2.2.2.2.1)]
                simp [recoupref24_Can.j2]
            · rw [if_pos (by omega), okS_no (fun h => a2 h.2.2.2.1)]
              simp [recoupref24_Can.j2]
          · rw [if_pos (by omega), okS_no (fun h => a1 h.2.2.1)]
            simp [recoupref24_Can.j2]
        · rw [if_pos (by omega), okS_no (fun h => h4 h.2.1)]
          simp [recoupref24_Can.j2]
      · rw [if_pos (by omega), okS_no (fun h => h1 h.1)]
        simp [recoupref24_Can.j2]
theorem can_f (l : List S59) (r o q : Int) : ∃ k, recoupref24_Can.f k l r o q = some (mayB l r o) := by
  have no : ∀ r o q, (¬ (0 ≤ r ∧ r ≤ 256 ∧ 0 ≤ o ∧ o ≤ 64 ∧ l.length ≤ 65536)) → recoupref24_Can.j0 1 true l r o q = some (mayB l r o) := by
    intro r o q h
    unfold mayB
    rw [decide_eq_false h]
    simp [recoupref24_Can.j0]
  by_cases h1 : r < 0
  · exact ⟨1, by unfold recoupref24_Can.f; rw [if_pos h1]; exact no _ _ _ (by omega)⟩
  by_cases h2 : r > 256
  · exact ⟨1, by unfold recoupref24_Can.f; rw [if_neg h1, if_pos h2]; exact no _ _ _ (by omega)⟩
  by_cases h3 : o < 0
  · exact ⟨1, by unfold recoupref24_Can.f; rw [if_neg h1, if_neg h2, if_pos h3]; exact no _ _ _ (by omega)⟩
  by_cases h4 : o > 64
  · exact ⟨1, by unfold recoupref24_Can.f; rw [if_neg h1, if_neg h2, if_neg h3, if_pos h4]; exact no _ _ _ (by omega)⟩
  by_cases h5 : (l.length : Int) > 65536
  · exact ⟨1, by unfold recoupref24_Can.f; rw [if_neg h1, if_neg h2, if_neg h3, if_neg h4, decide_eq_true h5]; exact no _ _ _ (by omega)⟩
  · obtain ⟨k, hk⟩ := can_l0 l r o q (by omega) l.length 0 (by omega)
    refine ⟨k + 1, ?_⟩
    unfold recoupref24_Can.f mayB
    rw [if_neg h1, if_neg h2, if_neg h3, if_neg h4, decide_eq_false h5, decide_eq_true (by omega)]
    simp only [recoupref24_Can.j0, Bool.false_eq_true, if_false, Bool.true_and]
    exact hk
/-! the contracts -/
theorem may_ok {w : World} {A : Option Addr} {c : Nat} {l : List S59} (r o q : Int) (hC : Kd.C k59 w A l.length l) (hc : l.length ≤ c) : ∀ w1, Below w.heap.size w w1 → Calls Try.prog 59 #[.agg #[.slice A l.length c, .int .i64 r, .int .i64 o, .int .u64 q]] w1 fun e w' => e = .returned (.bool (mayB l r o)) ∧ Below w1.heap.size w1 w' := by
  intro w1 hb
  obtain ⟨k, hk⟩ := may_f l r o q
  exact emit_may.calls k A c l r o q _ w1 (Kd.C_below hC hb) hc hk
theorem can_ok {w : World} {A : Option Addr} {c : Nat} {l : List S59} (r o q : Int) (hC : Kd.C k59 w A l.length l) (hc : l.length ≤ c) : ∀ w1, Below w.heap.size w w1 → Calls Try.prog 50 #[.agg #[.slice A l.length c, .int .i64 r, .int .i64 o, .int .u64 q]] w1 fun e w' => e = .returned (.bool (mayB l r o)) ∧ Below w1.heap.size w1 w' := by
  intro w1 hb
  obtain ⟨k, hk⟩ := can_f l r o q
  exact recoupref24_Can.calls k A c l r o q _ w1 (Kd.C_below hC hb) hc hk
def psOf (s : S59) : PS := ⟨s.f0.toNat, s.f1.toNat, s.f2.toNat, toU s.f3⟩
theorem okS_spec {s : S59} (h : okS s = true) : 1 ≤ s.f0 ∧ s.f0 ≤ 4 ∧ 0 ≤ s.f1 ∧ s.f1 ≤ 255 ∧ 0 ≤ s.f2 ∧ s.f2 ≤ 255 ∧ (s.f0 = 1 → s.f2 = 0) ∧ (s.f0 ≠ 3 → s.f3 = 0) := of_decide_eq_true h
theorem psOf_ok {s : S59} (h : okS s = true) : (psOf s).Ok := by
  have := okS_spec h
  unfold PS.Ok psOf
  simp only
  omega
theorem steps_of {w : World} {A : Option Addr} {l : List S59} (hC : Kd.C k59 w A l.length l) (ho : ∀ s ∈ l, okS s = true) (hb : ∀ s ∈ l, byteB s.f3 = true) : StepsAt w w.heap.size A (l.map psOf) := by
  intro hn
  rw [List.length_map] at hn
  obtain ⟨ad, e, h0, h1, h2, h3⟩ := at_T59 hC 0 (by omega) (by omega)
  obtain ⟨g, o, sp⟩ := ad
  have hsp : sp = none := by
    have h9 : (⟨g, o, sp⟩ : Addr).add (Int.toNat 0 * 4) = ⟨g, o, sp⟩ := by unfold Addr.add; simp
    rw [h9] at h0
    exact spot_of_cell h0
  subst hsp
  refine ⟨g, o, e, ?_, fun i s hs => ?_⟩
  · rw [addr_add] at h0
    exact lt_of_cell h0
  · rw [List.getElem?_map] at hs
    obtain ⟨x, hx, rfl⟩ := Option.map_eq_some_iff.1 hs
    obtain ⟨hi, rfl⟩ := List.getElem?_eq_some_iff.1 hx
    obtain ⟨ad2, e2, g0, g1, g2, g3⟩ := at_T59 hC (i : Int) (by omega) (by omega)
    rw [e] at e2
    injection e2 with e2
    subst e2
    rw [rd_at hi] at g0 g1 g2 g3
    have hok := okS_spec (ho _ (List.getElem_mem hi))
    have hby := hb _ (List.getElem_mem hi)
    generalize l[i] = s at *
    rw [Int.toNat_natCast, addr_add] at g0 g1 g2 g3
    simp only at g0 g1 g2 g3
    unfold psOf
    simp only
    rw [toU_of hby, Int.toNat_of_nonneg (by omega), Int.toNat_of_nonneg (by omega), Int.toNat_of_nonneg (by omega)]
    exact ⟨g0, g1, g2, g3⟩
theorem all_f {s : S59} (h : okS s = true) : ∃ r : List Int, emit_all.f s.f0 s.f1 s.f2 s.f3 = some r ∧ r.length ≤ 3 := by
  have hk := okS_spec h
  have h4 : s.f0 = 1 ∨ s.f0 = 2 ∨ s.f0 = 3 ∨ s.f0 = 4 := by omega
  unfold emit_all.f
  rcases h4 with h4 | h4 | h4 | h4 <;> rw [h4]
  · refine ⟨_, by rw [fields1]; simp only [Option.bind_some, sz1]; rw [if_pos (by decide), if_pos (by simp)], by simp⟩
  · refine ⟨_, by rw [fields2]; simp only [Option.bind_some, sz2]; rw [if_pos (by decide), if_pos (by simp)], by simp⟩
  · refine ⟨_, by rw [fields3]; simp only [Option.bind_some, sz3]; rw [if_pos (by decide), if_pos (by simp)], by simp⟩
  · refine ⟨_, by rw [fields4]; simp only [Option.bind_some, sz2]; rw [if_pos (by decide), if_pos (by simp)], by simp⟩
theorem ints_of_R {w w' : World} {v : Value} {r : List Int} (h : Kd.R (Kd.int .i64) 3 w' w.heap.size (fun _ => True) v r) (hl : r.length ≤ 3) : ∃ A m c, v = .slice A m c ∧ Ints3 w w' A m := by
  obtain ⟨_, inner, ho, hr⟩ := h
  rcases ho.2 with ⟨rfl, h0⟩ | ⟨g, c, cur, rfl, hg, hh, _⟩
  · exact ⟨none, 0, 0, rfl, by omega, fun h => absurd h (by omega)⟩
  · refine ⟨_, r.length, c, rfl, hl, fun _ => ⟨g, rfl, hg, ?_, fun j hj => ?_⟩⟩
    · rcases Nat.lt_or_ge g w'.heap.size with hlt | hge
      · exact hlt
      · rw [Array.getElem?_eq_none hge] at hh; cases hh
    · have hlen : inner.length = r.length := by have h1 := hr.1; have e5 : (Kd.int .i64).sz = 1 := rfl; rw [e5] at h1; omega
      have hp := hr.2 j r[j] (List.getElem?_eq_getElem hj)
      have e5 : (Kd.int .i64).sz = 1 := rfl
      rw [e5, Nat.mul_one, one_drop _ _ (by omega)] at hp
      have hp' : [inner[j]'(by omega)] = [.int .i64 r[j]] := hp
      refine ⟨r[j], ?_⟩
      have hj2 : j < inner.length := by omega
      have e6 : inner[j]? = some (.int .i64 r[j]) := by
        rw [List.getElem?_eq_getElem hj2]
        simpa using hp'
      exact (ho.cellAt j (by have e5 : (Kd.int .i64).sz = 1 := rfl; rw [e5]; omega)).trans e6
theorem all_ok {l : List S59} (ho : ∀ s ∈ l, okS s = true) (hb : ∀ s ∈ l, byteB s.f3 = true) : ∀ s ∈ l.map psOf, ∀ w1, Calls Try.prog 62 #[.agg #[.int .u8 (s.k : Int), .int .i64 (s.D : Int), .int .i64 (s.S : Int), .int .u8 (s.C.toNat : Int)]] w1 fun e w' => ∃ A m c, e = .returned (.slice A m c) ∧ Ints3 w1 w' A m ∧ Below w1.heap.size w1 w' := by
  intro s hs w1
  obtain ⟨x, hx, rfl⟩ := List.mem_map.1 hs
  have hk := okS_spec (ho x hx)
  obtain ⟨r, hr, hl⟩ := all_f (ho x hx)
  have hc := emit_all.calls x.f0 x.f1 x.f2 x.f3 r w1 hr
  unfold psOf
  simp only
  rw [toU_of (hb x hx), Int.toNat_of_nonneg (by omega), Int.toNat_of_nonneg (by omega), Int.toNat_of_nonneg (by omega)]
  refine hc.mono ?_
  rintro e w' ⟨v, rfl, hR, hbl⟩
  obtain ⟨A, m, c, rfl, hI⟩ := ints_of_R hR hl
  exact ⟨A, m, c, rfl, hI, hbl⟩
end Go.Proofs.Ythbjcafldbocpaa
