/- What the functions compute that the law VerifyAll reaches, proved by walking them; conditions stand at each theorem. -/
import Derived.Deep.CutBlock
import Derived.Lib.SliceRun
import Derived.Stop.BytesEq
import Derived.Test.YthbjcafldbocpaaCVerifyAllA2
import Derived.Test.YthbjcafldbocpaaCVerifyAllx2
import Derived.Test.YthbjcafldbocpaaCVerifyAllx3
import Derived.Test.YthbjcafldbocpaaCVerifyAllx4
import Derived.Test.YthbjcafldbocpaaCVerifyAllA1
import Derived.Test.YthbjcafldbocpaaCVerifyAllx5
import Derived.Test.YthbjcafldbocpaaCVerifyAllx6
import Derived.Test.YthbjcafldbocpaaCVerifyAllx7
import Derived.Test.YthbjcafldbocpaaCVerifyAllA3
namespace Go.Proofs.Ythbjcafldbocpaa
open Go.RowKit Go.Proofs.YthbjcafldbocpaaW.PrintWords Go.Proofs.Ythbjcafldbocpaa.P0
set_option linter.unusedVariables false
set_option linter.unusedSimpArgs false
def okS (s : S59) : Bool := decide (1 ≤ s.f0 ∧ s.f0 ≤ 4 ∧ 0 ≤ s.f1 ∧ s.f1 ≤ 255 ∧ 0 ≤ s.f2 ∧ s.f2 ≤ 255 ∧ (s.f0 = 1 → s.f2 = 0) ∧ (s.f0 ≠ 3 → s.f3 = 0))
def mayB (l : List S59) (r o : Int) : Bool := decide (0 ≤ r ∧ r ≤ 256 ∧ 0 ≤ o ∧ o ≤ 64 ∧ l.length ≤ 65536) && l.all okS
theorem rd_at {l : List S59} {i : Nat} (h : i < l.length) : rd_T59 l (i : Int) = l[i] := by
  simp [rd_T59, List.getD_eq_getElem?_getD, h]
theorem all_drop {l : List S59} {i : Nat} (h : i < l.length) : (l.drop i).all okS = (okS l[i] && (l.drop (i + 1)).all okS) := by
  rw [List.drop_eq_getElem_cons h, List.all_cons]
theorem okS_no {s : S59} (h : ¬ (1 ≤ s.f0 ∧ s.f0 ≤ 4 ∧ 0 ≤ s.f1 ∧ s.f1 ≤ 255 ∧ 0 ≤ s.f2 ∧ s.f2 ≤ 255 ∧ (s.f0 = 1 → s.f2 = 0) ∧ (s.f0 ≠ 3 → s.f3 = 0))) : okS s = false := decide_eq_false h
theorem wrap_next {i : Nat} (h : i < 65536) : wrap64 ((i : Int) + 1) = ((i + 1 : Nat) : Int) := by unfold wrap64; omega
theorem fields1 : emit_fields.f 1 = some ⟨#[68]⟩ := by simp [emit_fields.f]
theorem fields2 : emit_fields.f 2 = some ⟨#[68, 83]⟩ := by simp [emit_fields.f]
theorem fields3 : emit_fields.f 3 = some ⟨#[68, 83, 67]⟩ := by simp [emit_fields.f]
theorem fields4 : emit_fields.f 4 = some ⟨#[68, 83]⟩ := by simp [emit_fields.f]
theorem sz1 : ((⟨#[68]⟩ : ByteArray).size : Int) = 1 := rfl
theorem sz2 : ((⟨#[68, 83]⟩ : ByteArray).size : Int) = 2 := rfl
theorem sz3 : ((⟨#[68, 83, 67]⟩ : ByteArray).size : Int) = 3 := rfl
theorem may_j2 (k : Nat) (l : List S59) (n i : Int) (s : S59) (b : Bool) (h1 : 1 ≤ s.f0) (h4 : s.f0 ≤ 4) (a1 : 0 ≤ s.f1) (a2 : s.f1 ≤ 255) (a3 : 0 ≤ s.f2) (a4 : s.f2 ≤ 255) (hk : emit_may.l0 k l n (wrap64 (i + 1)) = some b) :
    emit_may.j2 (k + 1) l n i false s.f0 s.f1 s.f2 s.f3 = some (okS s && b) := by
  have h : s.f0 = 1 ∨ s.f0 = 2 ∨ s.f0 = 3 ∨ s.f0 = 4 := by omega
  obtain ⟨f0, f1, f2, f3⟩ := s
  simp only at h h1 h4 a1 a2 a3 a4 ⊢
  rcases h with h | h | h | h <;> subst h
  · simp only [emit_may.j2, fields1, Option.bind_some, sz1, Bool.false_eq_true, if_false]
    by_cases c2 : f2 = 0 <;> by_cases c3 : f3 = 0 <;> simp [okS, c2, c3, hk, a1, a2, a3, a4]
  · simp only [emit_may.j2, fields2, Option.bind_some, sz2, Bool.false_eq_true, if_false]
    by_cases c3 : f3 = 0 <;> simp [okS, c3, hk, a1, a2, a3, a4]
  · simp only [emit_may.j2, fields3, Option.bind_some, sz3, Bool.false_eq_true, if_false]
    simp [okS, hk, a1, a2, a3, a4]
  · simp only [emit_may.j2, fields4, Option.bind_some, sz2, Bool.false_eq_true, if_false]
    by_cases c3 : f3 = 0 <;> simp [okS, c3, hk, a1, a2, a3, a4]
theorem may_l0 (l : List S59) (hl : l.length ≤ 65536) : ∀ d i, i + d = l.length → ∃ k, emit_may.l0 k l (l.length : Int) (i : Int) = some ((l.drop i).all okS)
  | 0, i, h => ⟨1, by
      rw [List.drop_eq_nil_of_le (by omega)]
      simp only [emit_may.l0]
      rw [if_neg (by omega)]
      rfl⟩
  | d + 1, i, h => by
      obtain ⟨k, hk⟩ := may_l0 l hl d (i + 1) (by omega)
      have hi : i < l.length := by omega
      refine ⟨k + 2, ?_⟩
      rw [all_drop hi]
      simp only [emit_may.l0, rd_at hi]
      rw [if_pos (by omega), if_pos (by omega), if_pos (by omega)]
      generalize l[i] = s
      rw [← wrap_next (by omega)] at hk
      unfold emit_known.f
      by_cases h1 : 1 ≤ s.f0
      · rw [if_pos h1]
        by_cases h4 : s.f0 ≤ 4
        · simp only [Option.bind_some, decide_eq_true h4, if_true]
          by_cases a1 : 0 ≤ s.f1
          · rw [if_neg (by omega)]
            by_cases a2 : s.f1 ≤ 255
            · rw [if_neg (by omega)]
              by_cases a3 : 0 ≤ s.f2
              · rw [if_neg (by omega)]
                by_cases a4 : s.f2 ≤ 255
                · rw [show decide (s.f2 > 255) = false from decide_eq_false (by omega)]
                  exact may_j2 k l _ _ s _ h1 h4 a1 a2 a3 a4 hk
                · rw [show decide (s.f2 > 255) = true from decide_eq_true (by omega), okS_no (fun h => a4 h.2.2.2.2.2.1)]
                  simp [emit_may.j2]
              · rw [if_pos (by omega), okS_no (fun h => a3 h.2.2.2.2.1)]
                simp [emit_may.j2]
            · rw [if_pos (by omega), okS_no (fun h => a2 h.2.2.2.1)]
              simp [emit_may.j2]
          · rw [if_pos (by omega), okS_no (fun h => a1 h.2.2.1)]
            simp [emit_may.j2]
        · simp only [Option.bind_some, decide_eq_false h4, Bool.false_eq_true, if_false]
          rw [okS_no (fun h => h4 h.2.1)]
          simp [emit_may.j2]
      · rw [if_neg h1]
        simp only [Option.bind_some, Bool.false_eq_true, if_false]
        rw [okS_no (fun h => h1 h.1)]
        simp [emit_may.j2]
theorem may_f (l : List S59) (r o q : Int) : ∃ k, emit_may.f k l r o q = some (mayB l r o) := by
  have no : ∀ r o q, (¬ (0 ≤ r ∧ r ≤ 256 ∧ 0 ≤ o ∧ o ≤ 64 ∧ l.length ≤ 65536)) → emit_may.j0 1 true l r o q = some (mayB l r o) := by
    intro r o q h
    unfold mayB
    rw [decide_eq_false h]
    simp [emit_may.j0]
  by_cases h1 : r < 0
  · exact ⟨1, by unfold emit_may.f; rw [if_pos h1]; exact no _ _ _ (by omega)⟩
  by_cases h2 : r > 256
  · exact ⟨1, by unfold emit_may.f; rw [if_neg h1, if_pos h2]; exact no _ _ _ (by omega)⟩
  by_cases h3 : o < 0
  · exact ⟨1, by unfold emit_may.f; rw [if_neg h1, if_neg h2, if_pos h3]; exact no _ _ _ (by omega)⟩
  by_cases h4 : o > 64
  · exact ⟨1, by unfold emit_may.f; rw [if_neg h1, if_neg h2, if_neg h3, if_pos h4]; exact no _ _ _ (by omega)⟩
  by_cases h5 : (l.length : Int) > 65536
  · exact ⟨1, by unfold emit_may.f; rw [if_neg h1, if_neg h2, if_neg h3, if_neg h4, decide_eq_true h5]; exact no _ _ _ (by omega)⟩
  · obtain ⟨k, hk⟩ := may_l0 l (by omega) l.length 0 (by omega)
    refine ⟨k + 1, ?_⟩
    unfold emit_may.f mayB
    rw [if_neg h1, if_neg h2, if_neg h3, if_neg h4, decide_eq_false h5, decide_eq_true (by omega)]
    simp only [emit_may.j0, Bool.false_eq_true, if_false, Bool.true_and]
    exact hk
/-! the contracts -/
theorem may_ok {w : World} {A : Option Addr} {c : Nat} {l : List S59} (r o q : Int) (hC : Kd.C k59 w A l.length l) (hc : l.length ≤ c) : ∀ w1, Below w.heap.size w w1 → Calls Try.prog 59 #[.agg #[.slice A l.length c, .int .i64 r, .int .i64 o, .int .u64 q]] w1 fun e w' => e = .returned (.bool (mayB l r o)) ∧ Below w1.heap.size w1 w' := by
  intro w1 hb
  obtain ⟨k, hk⟩ := may_f l r o q
  exact emit_may.calls k A c l r o q _ w1 (Kd.C_below hC hb) hc hk
def psOf (s : S59) : PS := ⟨s.f0.toNat, s.f1.toNat, s.f2.toNat, toU s.f3⟩
theorem okS_spec {s : S59} (h : okS s = true) : 1 ≤ s.f0 ∧ s.f0 ≤ 4 ∧ 0 ≤ s.f1 ∧ s.f1 ≤ 255 ∧ 0 ≤ s.f2 ∧ s.f2 ≤ 255 ∧ (s.f0 = 1 → s.f2 = 0) ∧ (s.f0 ≠ 3 → s.f3 = 0) := of_decide_eq_true h
theorem psOf_ok {s : S59} (h : okS s = true) : (psOf s).Ok := by
  have := okS_spec h
  unfold PS.Ok psOf
  simp only
  omega
theorem steps_of {w : World} {A : Option Addr} {l : List S59} (hC : Kd.C k59 w A l.length l) (ho : ∀ s ∈ l, okS s = true) (hb : ∀ s ∈ l, byteB s.f3 = true) : StepsAt w w.heap.size A (l.map psOf) := by
  intro hn
  rw [List.length_map] at hn
  obtain ⟨ad, e, h0, h1, h2, h3⟩ := at_T59 hC 0 (by omega) (by omega)
  obtain ⟨g, o, sp⟩ := ad
  have hsp : sp = none := by
    have h9 : (⟨g, o, sp⟩ : Addr).add (Int.toNat 0 * 4) = ⟨g, o, sp⟩ := by unfold Addr.add; simp
    rw [h9] at h0
    exact spot_of_cell h0
  subst hsp
  refine ⟨g, o, e, ?_, fun i s hs => ?_⟩
  · rw [addr_add] at h0
    exact lt_of_cell h0
  · rw [List.getElem?_map] at hs
    obtain ⟨x, hx, rfl⟩ := Option.map_eq_some_iff.1 hs
    obtain ⟨hi, rfl⟩ := List.getElem?_eq_some_iff.1 hx
    obtain ⟨ad2, e2, g0, g1, g2, g3⟩ := at_T59 hC (i : Int) (by omega) (by omega)
    rw [e] at e2
    injection e2 with e2
    subst e2
    rw [rd_at hi] at g0 g1 g2 g3
    have hok := okS_spec (ho _ (List.getElem_mem hi))
    have hby := hb _ (List.getElem_mem hi)
    generalize l[i] = s at *
    rw [Int.toNat_natCast, addr_add] at g0 g1 g2 g3
    simp only at g0 g1 g2 g3
    unfold psOf
    simp only
    rw [toU_of hby, Int.toNat_of_nonneg (by omega), Int.toNat_of_nonneg (by omega), Int.toNat_of_nonneg (by omega)]
    exact ⟨g0, g1, g2, g3⟩
theorem all_f {s : S59} (h : okS s = true) : ∃ r : List Int, emit_all.f s.f0 s.f1 s.f2 s.f3 = some r ∧ r.length ≤ 3 := by
  have hk := okS_spec h
  have h4 : s.f0 = 1 ∨ s.f0 = 2 ∨ s.f0 = 3 ∨ s.f0 = 4 := by omega
  unfold emit_all.f
  rcases h4 with h4 | h4 | h4 | h4 <;> rw [h4]
  · refine ⟨_, by rw [fields1]; simp only [Option.bind_some, sz1]; rw [if_pos (by decide), if_pos (by simp)], by simp⟩
  · refine ⟨_, by rw [fields2]; simp only [Option.bind_some, sz2]; rw [if_pos (by decide), if_pos (by simp)], by simp⟩
  · refine ⟨_, by rw [fields3]; simp only [Option.bind_some, sz3]; rw [if_pos (by decide), if_pos (by simp)], by simp⟩
  · refine ⟨_, by rw [fields4]; simp only [Option.bind_some, sz2]; rw [if_pos (by decide), if_pos (by simp)], by simp⟩
theorem ints_of_R {w w' : World} {v : Value} {r : List Int} (h : Kd.R (Kd.int .i64) 3 w' w.heap.size (fun _ => True) v r) (hl : r.length ≤ 3) : ∃ A m c, v = .slice A m c ∧ Ints3 w w' A m := by
  obtain ⟨_, inner, ho, hr⟩ := h
  rcases ho.2 with ⟨rfl, h0⟩ | ⟨g, c, cur, rfl, hg, hh, _⟩
  · exact ⟨none, 0, 0, rfl, by omega, fun h => absurd h (by omega)⟩
  · refine ⟨_, r.length, c, rfl, hl, fun _ => ⟨g, rfl, hg, ?_, fun j hj => ?_⟩⟩
    · rcases Nat.lt_or_ge g w'.heap.size with hlt | hge
      · exact hlt
      · rw [Array.getElem?_eq_none hge] at hh; cases hh
    · have hlen : inner.length = r.length := by have h1 := hr.1; have e5 : (Kd.int .i64).sz = 1 := rfl; rw [e5] at h1; omega
      have hp := hr.2 j r[j] (List.getElem?_eq_getElem hj)
      have e5 : (Kd.int .i64).sz = 1 := rfl
      rw [e5, Nat.mul_one, one_drop _ _ (by omega)] at hp
      have hp' : [inner[j]'(by omega)] = [.int .i64 r[j]] := hp
      refine ⟨r[j], ?_⟩
      have hj2 : j < inner.length := by omega
      have e6 : inner[j]? = some (.int .i64 r[j]) := by
        rw [List.getElem?_eq_getElem hj2]
        simpa using hp'
      exact (ho.cellAt j (by have e5 : (Kd.int .i64).sz = 1 := rfl; rw [e5]; omega)).trans e6
theorem all_ok {l : List S59} (ho : ∀ s ∈ l, okS s = true) (hb : ∀ s ∈ l, byteB s.f3 = true) : ∀ s ∈ l.map psOf, ∀ w1, Calls Try.prog 62 #[.agg #[.int .u8 (s.k : Int), .int .i64 (s.D : Int), .int .i64 (s.S : Int), .int .u8 (s.C.toNat : Int)]] w1 fun e w' => ∃ A m c, e = .returned (.slice A m c) ∧ Ints3 w1 w' A m ∧ Below w1.heap.size w1 w' := by
  intro s hs w1
  obtain ⟨x, hx, rfl⟩ := List.mem_map.1 hs
  have hk := okS_spec (ho x hx)
  obtain ⟨r, hr, hl⟩ := all_f (ho x hx)
  have hc := emit_all.calls x.f0 x.f1 x.f2 x.f3 r w1 hr
  unfold psOf
  simp only
  rw [toU_of (hb x hx), Int.toNat_of_nonneg (by omega), Int.toNat_of_nonneg (by omega), Int.toNat_of_nonneg (by omega)]
  refine hc.mono ?_
  rintro e w' ⟨v, rfl, hR, hbl⟩
  obtain ⟨A, m, c, rfl, hI⟩ := ints_of_R hR hl
  exact ⟨A, m, c, rfl, hI, hbl⟩
end Go.Proofs.Ythbjcafldbocpaa
namespace Go.Proofs.Ythbjcafldbocpaa
open Go.RowKit Go.Proofs.YthbjcafldbocpaaW.PrintWords Go.Proofs.Ythbjcafldbocpaa.P0
set_option linter.unusedVariables false
set_option linter.unusedSimpArgs false
theorem nil_info : (Try.prog.info? 35).map (fun i => (i.zero, i.size, i.bytes)) = some (some (.slice none 0 0), 1, 24) := by kernel_rfl
theorem make_nils (n : Nat) (hn : n ≤ 256) (w : World) :
    (Instr.makeSlice 34 (.int .i64 (n : Int)) (.int .i64 (n : Int))).run Try.prog w = .ok (.slice (some ⟨w.heap.size, 0, none⟩) n n) (w.alloc (.cells (List.replicate n (.slice none 0 0)).toArray 35)) := by
  obtain ⟨i, hi, hz, hs, hb⟩ := info_parts nil_info
  have h := run_make (P := Try.prog) w 34 35 i _ Try.underlying34 hi hz .i64 .i64 (n : Int) (n : Int) (by omega) (by omega) (by rw [hb]; omega) (by omega)
  rw [hs, Nat.mul_one, Int.toNat_natCast] at h
  rw [h, show (Value.slice none 0 0).cells = #[Value.slice none 0 0] from rfl, made_same _ (Value.slice none 0 0) _ (by simp) (by intro i hi; simp at hi; subst hi; rfl)]
end Go.Proofs.Ythbjcafldbocpaa
namespace Go.Proofs.Ythbjcafldbocpaa
open Go.RowKit Go.Proofs.YthbjcafldbocpaaW.PrintWords Go.Proofs.Ythbjcafldbocpaa.P0
set_option linter.unusedVariables false
set_option linter.unusedSimpArgs false
def ValR (W : World) (v : Value) : Option (List UInt8) → Prop
  | none => True
  | some l => ∃ A c, v = .slice A l.length c ∧ l.length ≤ c ∧ RdT W A l
theorem ValR.keep {W W' : World} {v : Value} {o : Option (List UInt8)} (h : ValR W v o) (hk : ∀ (g : Nat) (cells : Array Value), W.heap[g]? = some (Obj.cells cells 5 (0, 0)) → W'.heap[g]? = W.heap[g]?) : ValR W' v o := by
  cases o with
  | none => exact trivial
  | some l => obtain ⟨g, c, e, hc, hr⟩ := h; exact ⟨g, c, e, hc, hr.keep hk⟩
theorem ValR.of_own {W : World} {base n c : Nat} {A : Option Addr} {l : List UInt8} (h : OwnB W base A n c l) : ValR W (.slice A n c) (some l) := by
  have hl : l.length = n := by have := h.rd.len; rw [bVs_length] at this; exact this
  subst hl
  refine ⟨A, c, rfl, ?_, RdT.of_own h⟩
  rcases h.2.2 with ⟨h1, h2⟩ | ⟨g, c, cur, hv, hg, hh, h3, _⟩
  · omega
  · simp only [Value.slice.injEq] at hv
    obtain ⟨_, _, rfl⟩ := hv
    exact h3
def ValsR (W : World) (lv : List Value) (rs : List (Option (List UInt8))) : Prop := lv.length = rs.length ∧ ∀ i, i < rs.length → ValR W (lv.getD i undef) (rs.getD i none)
theorem ValsR.keep {W W' : World} {lv : List Value} {rs : List (Option (List UInt8))} (h : ValsR W lv rs) (hk : ∀ (g : Nat) (cells : Array Value), W.heap[g]? = some (Obj.cells cells 5 (0, 0)) → W'.heap[g]? = W.heap[g]?) : ValsR W' lv rs :=
  ⟨h.1, fun i hi => (h.2 i hi).keep hk⟩
theorem ValsR.set {W : World} {lv : List Value} {rs : List (Option (List UInt8))} (h : ValsR W lv rs) (D : Nat) {v : Value} {o : Option (List UInt8)} (hv : ValR W v o) : ValsR W (lv.set D v) (rs.set D o) := by
  refine ⟨by simp [h.1], fun i hi => ?_⟩
  rw [List.length_set] at hi
  rw [set_getD', set_getD', h.1]
  by_cases hc : D = i ∧ D < rs.length
  · rw [if_pos hc, if_pos hc]; exact hv
  · rw [if_neg hc, if_neg hc]; exact h.2 i hi
theorem valsR_nil (W : World) (n : Nat) (u : Value) : ValsR W (List.replicate n u) (List.replicate n none) := by
  refine ⟨by simp, fun i hi => ?_⟩
  rw [List.length_replicate] at hi
  rw [List.getD_eq_getElem?_getD (l := List.replicate n none), List.getElem?_replicate, if_pos hi]
  exact trivial
structure Bank (W : World) (ga gs : Nat) (rs : List (Option (List UInt8))) : Prop where
  la : ∃ lv, Row W ga 35 lv ∧ ValsR W lv rs
  hs : Row W gs 4 (bolVs (somes rs))
theorem Bank.keep {W W' : World} {ga gs : Nat} {rs : List (Option (List UInt8))} (h : Bank W ga gs rs) (ha : W'.heap[ga]? = W.heap[ga]?) (hs : W'.heap[gs]? = W.heap[gs]?) (hk : ∀ (g : Nat) (cells : Array Value), W.heap[g]? = some (Obj.cells cells 5 (0, 0)) → W'.heap[g]? = W.heap[g]?) : Bank W' ga gs rs := by
  obtain ⟨lv, hr, hv⟩ := h.la
  exact ⟨⟨lv, ha.trans hr, hv.keep hk⟩, hs.trans h.hs⟩
theorem Bank.lta {W : World} {ga gs : Nat} {rs : List (Option (List UInt8))} (h : Bank W ga gs rs) : ga < W.heap.size := by obtain ⟨lv, hr, _⟩ := h.la; exact hr.lt
theorem Bank.lts {W : World} {ga gs : Nat} {rs : List (Option (List UInt8))} (h : Bank W ga gs rs) : gs < W.heap.size := h.hs.lt
theorem Bank.ne {W : World} {ga gs : Nat} {rs : List (Option (List UInt8))} (h : Bank W ga gs rs) {ga' gs' : Nat} {rs' : List (Option (List UInt8))} (h' : Bank W ga' gs' rs') : ga ≠ gs' := by
  obtain ⟨lv, hr, _⟩ := h.la
  rintro rfl
  have h2 := h'.hs
  unfold Row at hr h2
  rw [hr] at h2
  injection h2 with h2
  injection h2 with _ e
  exact absurd e (by decide)
theorem Bank.below {W W' : World} {ga gs : Nat} {rs : List (Option (List UInt8))} (h : Bank W ga gs rs) (hb : Below W.heap.size W W') : Bank W' ga gs rs :=
  h.keep (hb.block _ h.lta) (hb.block _ h.lts) (fun g cells hg => hb.block g (heap_lt hg))
theorem heap_of_set (W : World) (p : Addr) (v : Value) (k : Nat) (h : k ≠ p.block) : (W.setCell p v).heap[k]? = W.heap[k]? := Below.heap_setCell W p v k h
theorem Bank.far {W : World} {ga gs : Nat} {rs : List (Option (List UInt8))} (h : Bank W ga gs rs) {p : Addr} {t : TypeId} {ys : List Value} (hr : Row W p.block t ys) (ht : t ≠ 5) (n1 : p.block ≠ ga) (n2 : p.block ≠ gs) (v : Value) : Bank (W.setCell p v) ga gs rs := by
  refine h.keep (heap_of_set W p v _ (Ne.symm n1)) (heap_of_set W p v _ (Ne.symm n2)) (fun g cells hg => heap_of_set W p v _ ?_)
  rintro rfl
  exact absurd (row_type hr hg) ht
theorem Bank.set {W : World} {ga gs : Nat} {rs : List (Option (List UInt8))} (h : Bank W ga gs rs) (D : Nat) {v : Value} {l : List UInt8} (hv : ValR W v (some l)) : Bank ((W.setCell ⟨ga, D, none⟩ v).setCell ⟨gs, D, none⟩ (.bool true)) ga gs (rs.set D (some l)) := by
  obtain ⟨lv, hr, hvs⟩ := h.la
  have hne : ga ≠ gs := h.ne h
  have hk1 : ∀ (g : Nat) (cells : Array Value), W.heap[g]? = some (Obj.cells cells 5 (0, 0)) → (W.setCell ⟨ga, D, none⟩ v).heap[g]? = W.heap[g]? := fun g cells hg => heap_of_set W _ v _ (by rintro rfl; exact absurd (row_type hr hg) (by decide))
  have hk2 : ∀ (g : Nat) (cells : Array Value), W.heap[g]? = some (Obj.cells cells 5 (0, 0)) → ((W.setCell ⟨ga, D, none⟩ v).setCell ⟨gs, D, none⟩ (.bool true)).heap[g]? = W.heap[g]? := fun g cells hg => (heap_of_set _ _ _ _ (by rintro rfl; exact absurd (row_type h.hs hg) (by decide))).trans (hk1 g cells hg)
  refine ⟨⟨lv.set D v, ((hr.set D v).far (p := ⟨gs, D, none⟩) hne (.bool true)), (hvs.set D hv).keep hk2⟩, ?_⟩
  have h2 := (h.hs.far (p := ⟨ga, D, none⟩) (Ne.symm hne) v).set D (.bool true)
  rw [show (bolVs (somes rs)).set D (.bool true) = bolVs ((somes rs).set D true) by rw [bolVs, bolVs, List.map_set], somes_set rs D l] at h2
  exact h2
theorem Bank.set1 {W : World} {ga gs : Nat} {rs : List (Option (List UInt8))} (h : Bank W ga gs rs) (D : Nat) {v : Value} {l d : List UInt8} (hd : rs.getD D none = some d) (hv : ValR W v (some l)) : Bank (W.setCell ⟨ga, D, none⟩ v) ga gs (rs.set D (some l)) := by
  obtain ⟨lv, hr, hvs⟩ := h.la
  have hne : ga ≠ gs := h.ne h
  have hk1 : ∀ (g : Nat) (cells : Array Value), W.heap[g]? = some (Obj.cells cells 5 (0, 0)) → (W.setCell ⟨ga, D, none⟩ v).heap[g]? = W.heap[g]? := fun g cells hg => heap_of_set W _ v _ (by rintro rfl; exact absurd (row_type hr hg) (by decide))
  refine ⟨⟨lv.set D v, hr.set D v, (hvs.set D hv).keep hk1⟩, ?_⟩
  have h2 := h.hs.far (p := ⟨ga, D, none⟩) (Ne.symm hne) v
  have e : somes (rs.set D (some l)) = somes rs := by
    rw [← somes_set rs D l]
    have hlt : D < rs.length := by
      rcases Nat.lt_or_ge D rs.length with hh | hh
      · exact hh
      · rw [List.getD_eq_getElem?_getD, List.getElem?_eq_none hh] at hd; cases hd
    rw [List.getD_eq_getElem?_getD, List.getElem?_eq_getElem hlt] at hd
    simp only [Option.getD_some] at hd
    apply List.ext_getElem?
    intro i
    rw [List.getElem?_set]
    split
    · rename_i hi
      subst hi
      simp [somes, hlt, hd]
    · rfl
  rw [e]
  exact h2
theorem Bank.row {W : World} {ga gs : Nat} {rs : List (Option (List UInt8))} (h : Bank W ga gs rs) {i : Nat} {l : List UInt8} (hl : rs.getD i none = some l) : ∃ A c, W.cell? ⟨ga, i, none⟩ = some (.slice A l.length c) ∧ l.length ≤ c ∧ RdT W A l := by
  have hi : i < rs.length := by
    rcases Nat.lt_or_ge i rs.length with hh | hh
    · exact hh
    · rw [List.getD_eq_getElem?_getD, List.getElem?_eq_none hh] at hl; cases hl
  obtain ⟨lv, hr, hv⟩ := h.la
  have hlv : i < lv.length := by rw [hv.1]; exact hi
  have h2 := hv.2 i hi
  rw [hl, List.getD_eq_getElem?_getD, List.getElem?_eq_getElem hlv] at h2
  obtain ⟨A, c, e, hc, hrd⟩ := h2
  exact ⟨A, c, by rw [hr.cell, List.getElem?_eq_getElem hlv]; exact congrArg some e, hc, hrd⟩
theorem Bank.any {W : World} {ga gs : Nat} {rs : List (Option (List UInt8))} (h : Bank W ga gs rs) {i : Nat} (hi : i < rs.length) : ∃ v, W.cell? ⟨ga, i, none⟩ = some v := by
  obtain ⟨lv, hr, hv⟩ := h.la
  have hlv : i < lv.length := by rw [hv.1]; exact hi
  exact ⟨lv[i], by rw [hr.cell, List.getElem?_eq_getElem hlv]⟩
theorem Bank.frz {W : World} {ga gs : Nat} {rs : List (Option (List UInt8))} (h : Bank W ga gs rs) (i : Nat) : W.frozen? ⟨ga, i, none⟩ = false ∧ W.frozen? ⟨gs, i, none⟩ = false := by
  obtain ⟨lv, hr, hv⟩ := h.la
  exact ⟨hr.frozen i, h.hs.frozen i⟩
theorem Bank.flag {W : World} {ga gs : Nat} {rs : List (Option (List UInt8))} (h : Bank W ga gs rs) {i : Nat} (hi : i < rs.length) : W.cell? ⟨gs, i, none⟩ = some (.bool (rs.getD i none).isSome) := by
  rw [h.hs.cell, bolVs, List.getElem?_map, somes, List.getElem?_map, List.getElem?_eq_getElem hi, List.getD_eq_getElem?_getD, List.getElem?_eq_getElem hi]
  rfl
def StepsZ (w : World) (B : Nat) (A : Option Addr) (l : List S59) : Prop :=
  0 < l.length → ∃ g o, A = some ⟨g, o, none⟩ ∧ g < B ∧ ∀ i s, l[i]? = some s → w.cell? ⟨g, o + i * 4, none⟩ = some (.int .u8 s.f0) ∧ w.cell? ⟨g, o + i * 4 + 1, none⟩ = some (.int .i64 s.f1) ∧ w.cell? ⟨g, o + i * 4 + 2, none⟩ = some (.int .i64 s.f2) ∧ w.cell? ⟨g, o + i * 4 + 3, none⟩ = some (.int .u8 ((toU s.f3).toNat : Int))
theorem StepsZ.below {w w' : World} {B : Nat} {A : Option Addr} {l : List S59} (h : StepsZ w B A l) (hb : Below B w w') : StepsZ w' B A l := by
  intro hn
  obtain ⟨g, o, e, hg, hc⟩ := h hn
  refine ⟨g, o, e, hg, fun i s hs => ?_⟩
  obtain ⟨h0, h1, h2, h3⟩ := hc i s hs
  exact ⟨(hb.cell (p := ⟨g, o + i * 4, none⟩) hg).trans h0, (hb.cell (p := ⟨g, o + i * 4 + 1, none⟩) hg).trans h1, (hb.cell (p := ⟨g, o + i * 4 + 2, none⟩) hg).trans h2, (hb.cell (p := ⟨g, o + i * 4 + 3, none⟩) hg).trans h3⟩
theorem stepsZ_of {w : World} {A : Option Addr} {l : List S59} (hC : Kd.C k59 w A l.length l) (hb : ∀ s ∈ l, byteB s.f3 = true) : StepsZ w w.heap.size A l := by
  intro hn
  obtain ⟨ad, e, h0, h1, h2, h3⟩ := at_T59 hC 0 (by omega) (by omega)
  obtain ⟨g, o, sp⟩ := ad
  have hsp : sp = none := by
    have h9 : (⟨g, o, sp⟩ : Addr).add (Int.toNat 0 * 4) = ⟨g, o, sp⟩ := by unfold Addr.add; simp
    rw [h9] at h0
    exact spot_of_cell h0
  subst hsp
  refine ⟨g, o, e, ?_, fun i s hs => ?_⟩
  · rw [addr_add] at h0
    exact lt_of_cell h0
  · obtain ⟨hi, rfl⟩ := List.getElem?_eq_some_iff.1 hs
    obtain ⟨ad2, e2, g0, g1, g2, g3⟩ := at_T59 hC (i : Int) (by omega) (by omega)
    rw [e] at e2
    injection e2 with e2
    subst e2
    rw [rd_at hi] at g0 g1 g2 g3
    have hby := hb _ (List.getElem_mem hi)
    generalize l[i] = s at *
    rw [Int.toNat_natCast, addr_add] at g0 g1 g2 g3
    simp only at g0 g1 g2 g3
    rw [toU_of hby]
    exact ⟨g0, g1, g2, g3⟩
def sizeL (L : List (List UInt8)) : Nat := (L.getD 0 []).length
def Rect (L : List (List UInt8)) : Prop := ∀ i, i < L.length → (L.getD i []).length = sizeL L
def LimB (l : List S59) (r o : Int) : Prop := 0 ≤ r ∧ r ≤ 256 ∧ 0 ≤ o ∧ o ≤ 64 ∧ l.length ≤ 65536
def rStep (nr no n : Nat) (B : List (List UInt8)) (st : VS) (s : S59) : Option VS :=
  if s.f0 = 1 then (if 0 ≤ s.f1 ∧ s.f1 < nr then some { st with regs := st.regs.set s.f1.toNat (some (List.replicate n 0)) } else none)
  else if s.f0 = 2 then (if (0 ≤ s.f1 ∧ s.f1 < nr) ∧ 0 ≤ s.f2 ∧ s.f2 < B.length then some { st with regs := st.regs.set s.f1.toNat (some (B.getD s.f2.toNat [])) } else none)
  else if s.f0 = 3 then (if (0 ≤ s.f1 ∧ s.f1 < nr) ∧ 0 ≤ s.f2 ∧ s.f2 < nr then (match st.regs.getD s.f1.toNat none, st.regs.getD s.f2.toNat none with
    | some d, some x => some { st with regs := st.regs.set s.f1.toNat (some (Gf.macL d (toU s.f3) x)) }
    | _, _ => none) else none)
  else if s.f0 = 4 then (if (0 ≤ s.f2 ∧ s.f2 < nr) ∧ 0 ≤ s.f1 ∧ s.f1 < no then (match st.regs.getD s.f2.toNat none, st.outs.getD s.f1.toNat none with
    | some x, none => some { st with outs := st.outs.set s.f1.toNat (some x) }
    | _, _ => none) else none)
  else none
theorem rs0_ok (nr no n : Nat) : VS.Ok ⟨List.replicate nr none, List.replicate no none, 0⟩ nr no n := by
  refine ⟨by simp, by simp, fun i l h => ?_, fun i l h => ?_⟩ <;> (rw [List.getD_eq_getElem?_getD, List.getElem?_replicate] at h; split at h <;> cases h)
def rRun (nr no n : Nat) (B : List (List UInt8)) : List S59 → VS → Option VS
  | [], st => some st
  | s :: l, st => (rStep nr no n B st s).bind (rRun nr no n B l)
def rAll (nr no n : Nat) (B : List (List UInt8)) (l : List S59) : Option VS :=
  match rRun nr no n B l ⟨List.replicate nr none, List.replicate no none, 0⟩ with
  | some st => if ∀ o ∈ st.outs, o.isSome = true then some st else none
  | none => none
theorem rRun_at {nr no n : Nat} {B : List (List UInt8)} {l : List S59} {i : Nat} {s : S59} (hs : l[i]? = some s) (st : VS) : rRun nr no n B (l.drop i) st = (rStep nr no n B st s).bind (rRun nr no n B (l.drop (i + 1))) := by
  obtain ⟨hi, rfl⟩ := List.getElem?_eq_some_iff.1 hs
  rw [List.drop_eq_getElem_cons hi]
  rfl
theorem Bank.far2 {W : World} {ga gs ga' gs' : Nat} {rs rs' : List (Option (List UInt8))} (h : Bank W ga gs rs) (h' : Bank W ga' gs' rs') (n1 : ga' ≠ ga) (n2 : gs' ≠ gs) (D : Nat) (v u : Value) : Bank ((W.setCell ⟨ga', D, none⟩ v).setCell ⟨gs', D, none⟩ u) ga gs rs := by
  obtain ⟨lv, hr, _⟩ := h'.la
  have e1 : gs' ≠ ga := fun e => h.ne h' e.symm
  have e2 : ga' ≠ gs := h'.ne h
  exact (h.far (p := ⟨ga', D, none⟩) hr (by decide) n1 e2 v).far (p := ⟨gs', D, none⟩) (h'.hs.far (p := ⟨ga', D, none⟩) (Ne.symm (h'.ne h')) v) (by decide) e1 n2 u
theorem Bank.far1 {W : World} {ga gs ga' gs' : Nat} {rs rs' : List (Option (List UInt8))} (h : Bank W ga gs rs) (h' : Bank W ga' gs' rs') (n1 : ga' ≠ ga) (D : Nat) (v : Value) : Bank (W.setCell ⟨ga', D, none⟩ v) ga gs rs := by
  obtain ⟨lv, hr, _⟩ := h'.la
  exact h.far (p := ⟨ga', D, none⟩) hr (by decide) n1 (h'.ne h) v
theorem cs_al {x : World} {a : Addr} {p : Value} (h : x.cell? a = some p) (o : Obj) : (x.alloc o).cell? a = some p := (World.cell?_alloc_some x _ o (by rw [h]; rfl)).trans h
theorem cs_st {x : World} {a p : Addr} {u : Value} (h : x.cell? a = some u) (n : p.block ≠ a.block) (v : Value) : (x.setCell p v).cell? a = some u := (World.cell?_setCell_other x p a v (by rintro rfl; exact n rfl)).trans h
structure RSt (w0 W : World) (ga nr no n : Nat) (gp : Nat) (tp : TypeId) (ps : List Value) (st : VS) : Prop where
  ok : st.Ok nr no n
  h1 : Bank W ga (ga + 1) st.regs
  h2 : Bank W (ga + 2) (ga + 3) st.outs
  hq : Below w0.heap.size w0 W
  hp : Row W gp tp ps
  hz : ga + 4 ≤ W.heap.size
  hga : w0.heap.size ≤ ga
  hgp : gp < ga ∨ ga + 4 ≤ gp
section
variable {w0 W W' : World} {ga nr no n gp : Nat} {tp : TypeId} {ps : List Value} {st : VS}
theorem RSt.below (h : RSt w0 W ga nr no n gp tp ps st) (hb : Below W.heap.size W W') : RSt w0 W' ga nr no n gp tp ps st :=
  ⟨h.ok, h.h1.below hb, h.h2.below hb, h.hq.trans (hb.mono h.hq.size), h.hp.below hb h.hp.lt, Nat.le_trans h.hz hb.size, h.hga, h.hgp⟩
theorem RSt.drew (h : RSt w0 W ga nr no n gp tp ps st) : RSt w0 W.drew ga nr no n gp tp ps st := h.below (Below.drew (Below.refl _ _))
theorem RSt.setReg (h : RSt w0 W ga nr no n gp tp ps st) (D : Nat) {v : Value} {l : List UInt8} (hv : ValR W v (some l)) (hl : l.length = n) : RSt w0 ((W.setCell ⟨ga, D, none⟩ v).setCell ⟨ga + 1, D, none⟩ (.bool true)) ga nr no n gp tp ps { st with regs := st.regs.set D (some l) } := by
  have hga := h.hga
  have hgp := h.hgp
  exact ⟨h.ok.set D l hl _, h.h1.set D hv, h.h2.far2 h.h1 (by omega) (by omega) D _ _, (h.hq.setCell (p := ⟨ga, D, none⟩) hga v).setCell (p := ⟨ga + 1, D, none⟩) (by show w0.heap.size ≤ ga + 1; omega) _, (h.hp.far (p := ⟨ga, D, none⟩) (by show gp ≠ ga; omega) v).far (p := ⟨ga + 1, D, none⟩) (by show gp ≠ ga + 1; omega) _, by have := h.hz; simpa [World.setCell] using this, hga, hgp⟩
theorem RSt.setReg1 (h : RSt w0 W ga nr no n gp tp ps st) (D : Nat) {v : Value} {l d : List UInt8} (hd : st.regs.getD D none = some d) (hv : ValR W v (some l)) (hl : l.length = n) : RSt w0 (W.setCell ⟨ga, D, none⟩ v) ga nr no n gp tp ps { st with regs := st.regs.set D (some l) } := by
  have hga := h.hga
  have hgp := h.hgp
  exact ⟨h.ok.set D l hl _, h.h1.set1 D hd hv, h.h2.far1 h.h1 (by omega) D _, h.hq.setCell (p := ⟨ga, D, none⟩) hga v, h.hp.far (p := ⟨ga, D, none⟩) (by show gp ≠ ga; omega) v, by have := h.hz; simpa [World.setCell] using this, hga, hgp⟩
theorem VS.Ok.setO (h : st.Ok nr no n) (D : Nat) (l : List UInt8) (hl : l.length = n) : VS.Ok { st with outs := st.outs.set D (some l) } nr no n := by
  refine ⟨h.lr, by simp [h.lo], h.wr, fun i x hx => ?_⟩
  simp only at hx
  rw [set_getD'] at hx
  split at hx
  · cases hx; exact hl
  · exact h.wo i x hx
theorem RSt.setOut (h : RSt w0 W ga nr no n gp tp ps st) (D : Nat) {v : Value} {l : List UInt8} (hv : ValR W v (some l)) (hl : l.length = n) : RSt w0 ((W.setCell ⟨ga + 2, D, none⟩ v).setCell ⟨ga + 3, D, none⟩ (.bool true)) ga nr no n gp tp ps { st with outs := st.outs.set D (some l) } := by
  have hga := h.hga
  have hgp := h.hgp
  exact ⟨h.ok.setO D l hl, h.h1.far2 h.h2 (by omega) (by omega) D _ _, h.h2.set D hv, (h.hq.setCell (p := ⟨ga + 2, D, none⟩) (by show w0.heap.size ≤ ga + 2; omega) v).setCell (p := ⟨ga + 3, D, none⟩) (by show w0.heap.size ≤ ga + 3; omega) _, (h.hp.far (p := ⟨ga + 2, D, none⟩) (by show gp ≠ ga + 2; omega) v).far (p := ⟨ga + 3, D, none⟩) (by show gp ≠ ga + 3; omega) _, by have := h.hz; simpa [World.setCell] using this, hga, hgp⟩
theorem RSt.made (h : RSt w0 W ga nr no n gp tp ps st) (D : Nat) : RSt w0 (((W.setCell ⟨ga, D, none⟩ (.slice (some ⟨W.heap.size, 0, none⟩) n n)).setCell ⟨ga + 1, D, none⟩ (.bool true)).alloc (.cells (madeCells #[.int .u8 0] n) 5)) ga nr no n gp tp ps { st with regs := st.regs.set D (some (List.replicate n 0)) } := by
  have hz := h.hz
  have hb : Below W.heap.size W (W.alloc (.cells (madeCells #[.int .u8 0] n) 5)) := (Below.refl _ _).alloc (Nat.le_refl _) _
  have h1 := h.below hb
  have hr := row_made_bytes W n
  have hv : ValR (W.alloc (.cells (madeCells #[.int .u8 0] n) 5)) (.slice (some ⟨W.heap.size, 0, none⟩) n n) (some (List.replicate n 0)) := ⟨some ⟨W.heap.size, 0, none⟩, n, by simp, by simp, RdT.of_row hr⟩
  have h2 := h1.setReg D hv (by simp)
  rw [World.setCell_alloc_past (w := W) _ ga D _ (by omega), World.setCell_alloc_past _ (ga + 1) D _ (by simp [World.setCell]; omega)] at h2
  exact h2
end
def RunR (w : World) (l : List S59) (r o : Int) (L : List (List UInt8)) (e : Ending) (w' : World) : Prop :=
  Below w.heap.size w w' ∧ (¬ Rect L → e = .returned (.tuple #[.slice none 0 0, .int .i64 3])) ∧
  (Rect L → ¬ LimB l r o → e = .returned (.tuple #[.slice none 0 0, .int .i64 2])) ∧
  (Rect L → LimB l r o → rAll r.toNat o.toNat (sizeL L) L l = none → e = .returned (.tuple #[.slice none 0 0, .int .i64 2])) ∧
  (Rect L → LimB l r o → ∀ st, rAll r.toNat o.toNat (sizeL L) L l = some st → ∃ gz gd, w.heap.size ≤ gz ∧ w.heap.size ≤ gd ∧ e = .returned (.tuple #[.slice (some ⟨gz, 0, none⟩) o.toNat o.toNat, .int .i64 0]) ∧ Bank w' gz gd st.outs)
end Go.Proofs.Ythbjcafldbocpaa
namespace Go.Proofs.Ythbjcafldbocpaa
open Go.RowKit Go.Proofs.YthbjcafldbocpaaW.PrintWords Go.Proofs.Ythbjcafldbocpaa.P0
set_option linter.unusedVariables false
set_option linter.unusedSimpArgs false
def combR (n sz : Nat) (L : List (List UInt8)) (x : List UInt8) : List UInt8 := (List.range sz).map fun p => sumF n fun j => Gf.mul (x.getD j 0) ((L.getD j []).getD p 0)
theorem combR_length (n sz : Nat) (L : List (List UInt8)) (x : List UInt8) : (combR n sz L x).length = sz := by simp [combR]
theorem combR_get {n sz : Nat} {L : List (List UInt8)} {x : List UInt8} {p : Nat} (hp : p < sz) : (combR n sz L x).getD p 0 = sumF n fun j => Gf.mul (x.getD j 0) ((L.getD j []).getD p 0) := by
  simp [combR, List.getD_eq_getElem?_getD, hp]
theorem ext_getD {a b : List UInt8} {n : Nat} (ha : a.length = n) (hb : b.length = n) (h : ∀ p, p < n → a.getD p 0 = b.getD p 0) : a = b := by
  apply List.ext_getElem (ha.trans hb.symm)
  intro p h1 h2
  have := h p (by omega)
  simpa [List.getD_eq_getElem?_getD, h1, h2] using this
theorem rep_get (n p : Nat) : (List.replicate n (0 : UInt8)).getD p 0 = 0 := by
  simp [List.getD_eq_getElem?_getD, List.getElem?_replicate]
  split <;> rfl
theorem combR_zero (n sz : Nat) (L : List (List UInt8)) : combR n sz L (List.replicate n 0) = List.replicate sz 0 := by
  refine ext_getD (combR_length _ _ _ _) (by simp) (fun p hp => ?_)
  rw [combR_get hp, rep_get, sumF_congr (g := fun _ => 0) (fun j hj => by rw [rep_get, Gf.mul_zero_left]), sumF_zero]
theorem unitR_get {n s j : Nat} (hj : j < n) : (unitR n s).getD j 0 = if s = j then 1 else 0 := by
  unfold unitR
  rw [set_getD', List.length_replicate, rep_get]
  by_cases h : s = j
  · rw [if_pos ⟨h, by omega⟩, if_pos h]
  · rw [if_neg (fun x => h x.1), if_neg h]
theorem combR_unit {n sz s : Nat} {L : List (List UInt8)} (hs : s < n) (hl : (L.getD s []).length = sz) : combR n sz L (unitR n s) = L.getD s [] := by
  refine ext_getD (combR_length _ _ _ _) hl (fun p hp => ?_)
  rw [combR_get hp, sumF_one hs (fun j hj hne => by rw [unitR_get hj, if_neg (fun e => hne e.symm), Gf.mul_zero_left]), unitR_get hs, if_pos rfl, Gf.one_mul]
theorem macL_get {d x : List UInt8} {c : UInt8} {n j : Nat} (hd : d.length = n) (hx : x.length = n) (hj : j < n) : (Gf.macL d c x).getD j 0 = Gf.add (d.getD j 0) (Gf.mul c (x.getD j 0)) := by
  simp [Gf.macL, List.getD_eq_getElem?_getD, List.getElem?_zipWith, hd, hx, hj]
theorem combR_mac {n sz : Nat} {L : List (List UInt8)} {d x : List UInt8} (c : UInt8) (hd : d.length = n) (hx : x.length = n) : combR n sz L (Gf.macL d c x) = Gf.macL (combR n sz L d) c (combR n sz L x) := by
  refine ext_getD (combR_length _ _ _ _) (by rw [rmacL_len _ (by rw [combR_length, combR_length]), combR_length]) (fun p hp => ?_)
  rw [combR_get hp, macL_get (combR_length _ _ _ _) (combR_length _ _ _ _) hp, combR_get hp, combR_get hp, sumF_mul, ← sumF_add]
  exact sumF_congr fun j hj => by rw [macL_get hd hx hj, Gf.add_mul, Gf.mul_assoc]
def mapV (n sz : Nat) (L : List (List UInt8)) (st : VS) : VS := ⟨st.regs.map (Option.map (combR n sz L)), st.outs.map (Option.map (combR n sz L)), 0⟩
theorem mapV_regs (n sz : Nat) (L : List (List UInt8)) (st : VS) (i : Nat) : (mapV n sz L st).regs.getD i none = (st.regs.getD i none).map (combR n sz L) := by
  simp only [mapV, List.getD_eq_getElem?_getD, List.getElem?_map]
  cases st.regs[i]? <;> rfl
theorem mapV_outs (n sz : Nat) (L : List (List UInt8)) (st : VS) (i : Nat) : (mapV n sz L st).outs.getD i none = (st.outs.getD i none).map (combR n sz L) := by
  simp only [mapV, List.getD_eq_getElem?_getD, List.getElem?_map]
  cases st.outs[i]? <;> rfl
theorem sim_step {nr no reads n sz : Nat} {L : List (List UInt8)} (hL : L.length = n) (hrect : ∀ i, i < n → (L.getD i []).length = sz) {st st' : VS} {s : S59} (hok : st.Ok nr no n) (ho : okS s = true) (hs : vStep nr no reads n st (psOf s).k (psOf s).D (psOf s).S (psOf s).C = some st') :
    rStep nr no sz L (mapV n sz L st) s = some (mapV n sz L st') := by
  obtain ⟨k1, k2, d1, d2, s1, s2, _, _⟩ := okS_spec ho
  obtain ⟨kk, D, T, C⟩ := s
  simp only [psOf] at hs k1 k2 d1 d2 s1 s2
  obtain ⟨d, rfl⟩ : ∃ d : Nat, D = (d : Int) := ⟨D.toNat, (Int.toNat_of_nonneg d1).symm⟩
  obtain ⟨t, rfl⟩ : ∃ t : Nat, T = (t : Int) := ⟨T.toNat, (Int.toNat_of_nonneg s1).symm⟩
  simp only [Int.toNat_natCast] at hs
  have hk : kk = 1 ∨ kk = 2 ∨ kk = 3 ∨ kk = 4 := by omega
  have hlo := hok.lo
  rcases hk with rfl | rfl | rfl | rfl
  · have hs : vStep nr no reads n st 1 d t (toU C) = some st' := hs
    unfold vStep at hs
    rw [if_pos rfl] at hs
    split at hs
    · cases hs
      unfold rStep
      rw [if_pos rfl, if_pos (by simp only; omega)]
      simp [mapV, List.map_set, combR_zero]
    · cases hs
  · have hs : vStep nr no reads n st 2 d t (toU C) = some st' := hs
    unfold vStep at hs
    rw [if_neg (by decide), if_pos rfl] at hs
    split at hs
    · rename_i hc
      cases hs
      unfold rStep
      rw [if_neg (by simp), if_pos rfl, if_pos (by simp only; omega)]
      simp [mapV, List.map_set]
      rw [combR_unit hc.2.1 (hrect t hc.2.1)]
      rfl
    · cases hs
  · have hs : vStep nr no reads n st 3 d t (toU C) = some st' := hs
    unfold vStep at hs
    rw [if_neg (by decide), if_neg (by decide), if_pos rfl] at hs
    split at hs
    · cases hs
    · split at hs
      · rename_i a b ha hb
        cases hs
        have la : d < nr := by
          rcases Nat.lt_or_ge d st.regs.length with h | h
          · rw [← hok.lr]; exact h
          · rw [List.getD_eq_getElem?_getD, List.getElem?_eq_none h] at ha; cases ha
        have lb : t < nr := by
          rcases Nat.lt_or_ge t st.regs.length with h | h
          · rw [← hok.lr]; exact h
          · rw [List.getD_eq_getElem?_getD, List.getElem?_eq_none h] at hb; cases hb
        unfold rStep
        rw [if_neg (by simp), if_neg (by simp), if_pos rfl, if_pos (by simp only; omega)]
        simp only [Int.toNat_natCast, mapV_regs, ha, hb, Option.map_some]
        simp only [mapV, List.map_set, Option.map_some]
        rw [combR_mac _ (hok.wr _ _ ha) (hok.wr _ _ hb)]
      · cases hs
  · have hs : vStep nr no reads n st 4 d t (toU C) = some st' := hs
    unfold vStep at hs
    rw [if_neg (by decide), if_neg (by decide), if_neg (by decide), if_pos rfl] at hs
    split at hs
    · rename_i b hb
      split at hs
      · rename_i hc
        cases hs
        have lb : t < nr := by
          rcases Nat.lt_or_ge t st.regs.length with h | h
          · rw [← hok.lr]; exact h
          · rw [List.getD_eq_getElem?_getD, List.getElem?_eq_none h] at hb; cases hb
        unfold rStep
        rw [if_neg (by simp), if_neg (by simp), if_neg (by simp), if_pos rfl, if_pos (by simp only; omega)]
        simp only [Int.toNat_natCast, mapV_regs, mapV_outs, hb, hc.2, Option.map_some, Option.map_none]
        simp only [mapV, List.map_set, Option.map_some]
      · cases hs
    · cases hs
theorem sim_run {nr no reads n sz : Nat} {L : List (List UInt8)} (hL : L.length = n) (hrect : ∀ i, i < n → (L.getD i []).length = sz) : ∀ (l : List S59) (i : Nat) (st : VS) (j : Nat) (st' : VS), (∀ s ∈ l, okS s = true) → st.Ok nr no n → vRun nr no reads n (l.map psOf) i st = (j, some st') → rRun nr no sz L l (mapV n sz L st) = some (mapV n sz L st')
  | [], i, st, j, st', _, h, e => by
    unfold vRun at e
    injection e with _ e
    injection e with e
    subst e
    rfl
  | s :: l, i, st, j, st', ho, h, e => by
    rw [List.map_cons] at e
    unfold vRun at e
    split at e
    · rename_i st1 hs
      show (rStep nr no sz L (mapV n sz L st) s).bind (rRun nr no sz L l) = _
      rw [sim_step hL hrect h (ho s (by simp)) hs]
      exact sim_run hL hrect l (i + 1) st1 j st' (fun x hx => ho x (by simp [hx])) (vStep_ok h hs) e
    · cases e
theorem mapV_start (n sz nr no : Nat) (L : List (List UInt8)) : mapV n sz L ⟨List.replicate nr none, List.replicate no none, 0⟩ = ⟨List.replicate nr none, List.replicate no none, 0⟩ := by
  simp [mapV]
theorem sim_all {nr no reads n sz : Nat} {L : List (List UInt8)} (hL : L.length = n) (hrect : ∀ i, i < n → (L.getD i []).length = sz) {l : List S59} (ho : ∀ s ∈ l, okS s = true) {j : Nat} {st : VS} (h : vAll nr no reads n (l.map psOf) = (j, some st)) : rAll nr no sz L l = some (mapV n sz L st) := by
  unfold vAll at h
  split at h
  · rename_i j' st' hr
    split at h
    · rename_i hc
      injection h with _ e
      injection e with e
      subst e
      have h1 := sim_run hL hrect l 0 _ j' st' ho (rs0_ok nr no n) hr
      rw [mapV_start] at h1
      unfold rAll
      rw [h1]
      refine if_pos fun o hoo => ?_
      obtain ⟨x, hx, rfl⟩ := List.mem_map.1 hoo
      obtain ⟨y, rfl⟩ := Option.isSome_iff_exists.1 (hc.1 x hx)
      rfl
    · cases h
  · cases h
end Go.Proofs.Ythbjcafldbocpaa
namespace Go.Proofs.Ythbjcafldbocpaa
open Go.RowKit Go.Proofs.YthbjcafldbocpaaW.PrintWords Go.Proofs.Ythbjcafldbocpaa.P0
set_option linter.unusedVariables false
set_option linter.unusedSimpArgs false

theorem pu_right (r c : Int) (l : List Int) : recoupref03_Right.f r c l = some (rightB r c l.length) := by
  unfold recoupref03_Right.f rightB
  by_cases h1 : r ≥ 0
  · rw [if_pos h1]
    by_cases h2 : r ≤ 64
    · rw [if_pos h2]
      by_cases h3 : c ≥ 0
      · rw [if_pos h3]
        by_cases h4 : c ≤ 64
        · rw [if_pos h4]
          have b := prod_bd h1 h2 h3 h4
          rw [w64 (by omega) (by omega)]
          congr 1
          rw [Bool.eq_iff_iff, beq_iff_eq, decide_eq_true_eq]
          exact ⟨fun h => ⟨⟨h1, h2⟩, ⟨h3, h4⟩, h⟩, fun h => h.2.2⟩
        · rw [if_neg h4]; congr 1; exact (decide_eq_false (fun h => h4 h.2.1.2)).symm
      · rw [if_neg h3]; congr 1; exact (decide_eq_false (fun h => h3 h.2.1.1)).symm
    · rw [if_neg h2]; congr 1; exact (decide_eq_false (fun h => h2 h.1.2)).symm
  · rw [if_neg h1]; congr 1; exact (decide_eq_false (fun h => h1 h.1.1)).symm
theorem pu_at {r : Int} {c i j : Nat} {xs : List UInt8} (h : i * c + j < xs.length) (hb : i * c + j ≤ 9223372036854775807) : recoupref03_At.f r (c : Int) (nI xs) (i : Int) (j : Int) = some ((xs.getD (i * c + j) 0).toNat : Int) := by
  unfold recoupref03_At.f
  rw [w64_place hb, if_pos (by omega), if_pos (by rw [nI_length]; omega), rd_nI]
theorem pu_mul8 (a b : UInt8) : recoupref01_Mul.f (a.toNat : Int) (b.toNat : Int) = some ((Gf.mul a b).toNat : Int) := by
  unfold recoupref01_Mul.f
  rw [byteB_nat, byteB_nat, toU_nat, toU_nat]
  rfl
theorem pu_zero {r c : Nat} (h : r * c ≤ 281474976710656) : recoupref03_Zero.f (r : Int) (c : Int) = some ((r : Int), (c : Int), nI (List.replicate (r * c) 0)) := by
  unfold recoupref03_Zero.f
  rw [w64_mul (by omega), if_pos (by omega), Int.toNat_natCast, if_pos h, nI_rep]
section
variable {ra ca cb : Nat} {xs ys : List UInt8}
theorem pu_mul_l2 (hra : ra ≤ 64) (hca : ca ≤ 64) (hcb : cb ≤ 64) (hx : xs.length = ra * ca) (hy : ys.length = ca * cb) {i j : Nat} (hi : i < ra) (hj : j < cb) {r : Int × Int × List Int × Int}
    (hr : Ev (fun k => recoupref03_Mul.l1 k (i : Int) ((j + 1 : Nat) : Int) ra ca (nI xs) ca cb (nI ys) ra cb (nI (fillT ra cb (mulF ca cb xs ys) i (j + 1)))) r) :
    ∀ d q, q + d = ca → Ev (fun k => recoupref03_Mul.l2 k (i : Int) (j : Int) (q : Int) ra ca (nI xs) ca cb (nI ys) ra cb (nI ((fillT ra cb (mulF ca cb xs ys) i j).set (i * cb + j) (sumF q fun t => Gf.mul (xs.getD (i * ca + t) 0) (ys.getD (t * cb + j) 0))))) r := by
  have hp := place_lt hi hj
  have hpb : ra * cb ≤ 64 * 64 := Nat.mul_le_mul hra hcb
  have hab : ra * ca ≤ 64 * 64 := Nat.mul_le_mul hra hca
  have hbb : ca * cb ≤ 64 * 64 := Nat.mul_le_mul hca hcb
  intro d
  induction d with
  | zero =>
    intro q hq
    obtain rfl : q = ca := by omega
    refine Ev.step (fun k => ?_) hr
    rw [recoupref03_Mul.l2, if_neg (by omega), w64_succ (by omega)]
    have e := fillT_set (R := ra) (C := cb) (mulF q cb xs ys) hi hj
    rw [← e]
    rfl
  | succ d ih =>
    intro q hq
    refine Ev.step (fun k => ?_) (ih (q + 1) (by omega))
    have h1 := place_lt hi (show q < ca by omega)
    have h2 := place_lt (show q < ca by omega) hj
    rw [recoupref03_Mul.l2, if_pos (by omega), w64_place (by omega), if_pos (by omega), if_pos (by rw [nI_length, List.length_set, fillT_length]; omega),
      pu_at (by omega) (by omega), Option.bind_some, pu_at (by omega) (by omega), Option.bind_some, pu_mul8, Option.bind_some, w64_succ (by omega), Int.toNat_natCast, rd_nI,
      getD_set_same _ _ _ (by rw [fillT_length]; omega), add_xor, nI_set, List.set_set]
    rfl
theorem pu_mul_l1 (hra : ra ≤ 64) (hca : ca ≤ 64) (hcb : cb ≤ 64) (hx : xs.length = ra * ca) (hy : ys.length = ca * cb) {i : Nat} (hi : i < ra) {r : Int × Int × List Int × Int}
    (hr : Ev (fun k => recoupref03_Mul.l0 k ((i + 1 : Nat) : Int) ra ca (nI xs) ca cb (nI ys) ra cb (nI (fillT ra cb (mulF ca cb xs ys) (i + 1) 0))) r) :
    ∀ d j, j + d = cb → Ev (fun k => recoupref03_Mul.l1 k (i : Int) (j : Int) ra ca (nI xs) ca cb (nI ys) ra cb (nI (fillT ra cb (mulF ca cb xs ys) i j))) r := by
  intro d
  induction d with
  | zero =>
    intro j hj
    obtain rfl : j = cb := by omega
    refine Ev.step (fun k => ?_) hr
    rw [recoupref03_Mul.l1, if_neg (by omega), w64_succ (by omega), fillT_next]
  | succ d ih =>
    intro j hj
    have h0 := pu_mul_l2 hra hca hcb hx hy hi (show j < cb by omega) (ih (j + 1) (by omega)) ca 0 (by omega)
    refine Ev.step (fun k => ?_) h0
    rw [recoupref03_Mul.l1, if_pos (by omega)]
    have e := fillT_at (R := ra) (C := cb) (mulF ca cb xs ys) hi (show j < cb by omega)
    simp only [sumF]
    rw [e]
    rfl
theorem pu_mul_l0 (hra : ra ≤ 64) (hca : ca ≤ 64) (hcb : cb ≤ 64) (hx : xs.length = ra * ca) (hy : ys.length = ca * cb) :
    ∀ d i, i + d = ra → Ev (fun k => recoupref03_Mul.l0 k (i : Int) ra ca (nI xs) ca cb (nI ys) ra cb (nI (fillT ra cb (mulF ca cb xs ys) i 0))) ((ra : Int), (cb : Int), nI (mulG ra ca cb xs ys), 0) := by
  intro d
  induction d with
  | zero =>
    intro i hi
    obtain rfl : i = ra := by omega
    refine Ev.step (fun k => ?_) (Ev.now _)
    rw [recoupref03_Mul.l0, if_neg (by omega), fillT_end]
    rfl
  | succ d ih =>
    intro i hi
    have h0 := pu_mul_l1 hra hca hcb hx hy (show i < ra by omega) (ih (i + 1) (by omega)) cb 0 (by omega)
    refine Ev.step (fun k => ?_) h0
    rw [recoupref03_Mul.l0, if_pos (by omega)]
    rfl
end
theorem pu_mul (ra ca rb cb : Int) (xs ys : List UInt8) :
    Ev (fun k => recoupref03_Mul.f k ra ca (nI xs) rb cb (nI ys)) (if mulB ra ca xs.length rb cb ys.length = true then (ra, cb, nI (mulG ra.toNat ca.toNat cb.toNat xs ys), 0) else (0, 0, [], 3)) := by
  unfold recoupref03_Mul.f
  simp only [pu_right, nI_length, Option.bind_some]
  by_cases h1 : rightB ra ca xs.length = true
  · by_cases h2 : rightB rb cb ys.length = true
    · simp only [h1, h2, if_true]
      by_cases h3 : ca = rb
      · have hm : mulB ra ca xs.length rb cb ys.length = true := by unfold mulB; rw [h1, h2]; simp [h3]
        rw [if_pos hm]
        obtain ⟨a, b, c, rfl, rfl, rfl, rfl, k1, k2, k3, k4, k5⟩ := mulB_natW hm
        have hpb : a * c ≤ 64 * 64 := Nat.mul_le_mul k1 k3
        have h0 := pu_mul_l0 k1 k2 k3 k4 k5 a 0 (by omega)
        refine Ev.step (fun k => ?_) h0
        rw [recoupref03_Mul.j0, if_neg (by simp), pu_zero (by omega), Option.bind_some, fillT_start a c (mulF b c xs ys)]
        rfl
      · have hm : ¬ mulB ra ca xs.length rb cb ys.length = true := by simp [mulB, h3]
        rw [if_neg hm]
        refine Ev.step (fun k => ?_) (Ev.now _)
        rw [recoupref03_Mul.j0, if_pos (by simpa using h3)]
    · have hm : ¬ mulB ra ca xs.length rb cb ys.length = true := by simp [mulB, h2]
      simp only [h1, h2, if_true, Bool.false_eq_true, if_false]
      rw [if_neg hm]
      refine Ev.step (fun k => ?_) (Ev.now _)
      rw [recoupref03_Mul.j0, if_pos rfl]
  · have hm : ¬ mulB ra ca xs.length rb cb ys.length = true := by simp [mulB, h1]
    simp only [h1, Bool.false_eq_true, if_false]
    rw [if_neg hm]
    refine Ev.step (fun k => ?_) (Ev.now _)
    rw [recoupref03_Mul.j0, if_pos rfl]
end Go.Proofs.Ythbjcafldbocpaa
namespace Go.Proofs.Ythbjcafldbocpaa
open Go.RowKit Go.Proofs.YthbjcafldbocpaaW.PrintWords Go.Proofs.Ythbjcafldbocpaa.P0
set_option linter.unusedVariables false
set_option linter.unusedSimpArgs false
def rowOf (n : Nat) (D : List UInt8) (i : Nat) : List UInt8 := (D.drop (i * n)).take n
theorem rowOf_get {n no : Nat} {D : List UInt8} (hD : D.length = no * n) {i j : Nat} (hi : i < no) (hj : j < n) : (rowOf n D i).getD j 0 = D.getD (i * n + j) 0 := by
  unfold rowOf
  simp [List.getD_eq_getElem?_getD, List.getElem?_take, hj, List.getElem?_drop]
def applyL (no n sz : Nat) (L : List (List UInt8)) (D : List UInt8) : List (List UInt8) := (List.range no).map fun i => combR n sz L (rowOf n D i)
section
variable {no n sz : Nat} {L : List (List UInt8)} {D : List UInt8}
end
end Go.Proofs.Ythbjcafldbocpaa
namespace Go.Proofs.Ythbjcafldbocpaa
open Go.RowKit Go.Proofs.YthbjcafldbocpaaW.PrintWords Go.Proofs.Ythbjcafldbocpaa.P0
set_option linter.unusedVariables false
set_option linter.unusedSimpArgs false
def progV (AS : Option Addr) (nS cS : Nat) (regs outs reads : Int) : Value := .agg #[.slice AS nS cS, .int .i64 regs, .int .i64 outs, .int .u64 reads]
theorem look_far (AS : Option Addr) (nS cS : Nat) (regs outs reads n : Int) (hn : n < 0 ∨ 64 < n) (w : World) :
    Calls Try.prog 30 #[progV AS nS cS regs outs reads, .int .i64 n] w fun e w' => e = .returned (.tuple #[.pointer none, .int .i64 2]) ∧ Below w.heap.size w w' := by
  unfold progV
  by_cases h0 : n < 0
  · have h1 : decide (n < 0) = true := decide_eq_true h0
    go_enter Try.func30, Try.ntmps30
    go_wp2_with fail
    go_ret2
    exact ⟨rfl, (Below.refl _ _).alloc (Nat.le_refl _) _⟩
  · have h1 : decide (n < 0) = false := decide_eq_false h0
    have h2 : decide (64 < n) = true := decide_eq_true (by omega)
    go_enter Try.func30, Try.ntmps30
    go_wp2_with fail
    go_ret2
    exact ⟨rfl, (Below.refl _ _).alloc (Nat.le_refl _) _⟩
theorem look_no (AS : Option Addr) (nS cS : Nat) (regs outs reads n : Int) (h0 : 0 ≤ n) (h1 : n ≤ 64) (w : World)
    (hwr : ∀ w1, Below w.heap.size w w1 → Calls Try.prog 48 #[.agg #[.slice AS nS cS, .int .i64 regs, .int .i64 outs, .int .u64 reads]] w1 fun e w' => e = .returned (.tuple #[.slice none 0 0, .int .i64 2]) ∧ Below w1.heap.size w1 w') :
    Calls Try.prog 30 #[progV AS nS cS regs outs reads, .int .i64 n] w fun e w' => e = .returned (.tuple #[.pointer none, .int .i64 2]) ∧ Below w.heap.size w w' := by
  unfold progV
  have h2 : decide (n < 0) = false := decide_eq_false (by omega)
  have h3 : decide (64 < n) = false := decide_eq_false (by omega)
  go_enter Try.func30, Try.ntmps30
  go_wp2_with fail
  have q : Below w.heap.size w (w.alloc (.cells #[.slice AS nS cS, .int .i64 regs, .int .i64 outs, .int .u64 reads] 26)) := (Below.refl _ _).alloc (Nat.le_refl _) _
  refine (hwr _ q).mono ?_
  rintro e w1 ⟨rfl, hb⟩
  go_wp2_with fail
  go_ret2
  exact ⟨rfl, q.trans (hb.mono (by simp))⟩
def checkV (l : List S59) (r o q n : Int) : Int × Int :=
  if n < 0 ∨ 64 < n ∨ mayB l r o = false then (0, 2)
  else match vAll r.toNat o.toNat q.toNat n.toNat (l.map psOf) with
    | (i, some _) => ((i : Int), 0)
    | (i, none) => ((i : Int), 250)
set_option maxRecDepth 100000 in
theorem look_all {w : World} {A : Option Addr} {c : Nat} {l : List S59} {r o q n : Int} (hC : Kd.C k59 w A l.length l) (hc : l.length ≤ c) (hb : ∀ s ∈ l, byteB s.f3 = true) (hq : 0 ≤ q) (hq2 : q < 2 ^ 64) (hn : 0 ≤ n) (hn2 : n ≤ 64) (hm : mayB l r o = true) :
    Calls Try.prog 30 #[progV A l.length c r o q, .int .i64 n] w fun e w' => LookPost w A (l.map psOf) c r.toNat o.toNat q.toNat n.toNat e w' := by
  have h1 := hm
  unfold mayB at h1
  rw [Bool.and_eq_true, decide_eq_true_eq, List.all_eq_true] at h1
  obtain ⟨⟨r1, r2, o1, o2, hl⟩, ho⟩ := h1
  have hst := steps_of hC ho hb
  have er : ((r.toNat : Nat) : Int) = r := Int.toNat_of_nonneg r1
  have eo : ((o.toNat : Nat) : Int) = o := Int.toNat_of_nonneg o1
  have eq : ((q.toNat : Nat) : Int) = q := Int.toNat_of_nonneg hq
  have en : ((n.toNat : Nat) : Int) = n := Int.toNat_of_nonneg hn
  have el : (l.map psOf).length = l.length := List.length_map _
  have hok : ∀ s ∈ l.map psOf, s.Ok := by
    intro s hs
    obtain ⟨x, hx, rfl⟩ := List.mem_map.1 hs
    exact psOf_ok (ho x hx)
  have hrange : ∀ s ∈ l.map psOf, s.k < 256 := by
    intro s hs
    have := hok s hs
    unfold PS.Ok at this
    omega
  have hmay := may_ok (w := w) r o q hC hc
  rw [hm] at hmay
  have H := look_yes A (l.map psOf) c r.toNat o.toNat q.toNat n.toNat w hst (by omega) (by omega) (by rw [el]; exact hl) (by omega) (by omega) hok (fun w1 hb1 => by
    have hst1 := steps_of (Kd.C_below hC hb1) ho hb
    refine write_yes A (l.map psOf) c r.toNat o.toNat q.toNat w1 hst1 (by omega) (by omega) (by rw [el]; exact hl) ?_ hrange (all_ok ho hb)
    intro w2 hb2
    rw [el, er, eo, eq]
    exact hmay w2 (hb1.trans (hb2.mono hb1.size)))
  rw [el, er, eo, eq, en] at H
  exact H
theorem look_bad {w : World} {A : Option Addr} {c : Nat} {l : List S59} {r o q n : Int} (hC : Kd.C k59 w A l.length l) (hc : l.length ≤ c) (h : n < 0 ∨ 64 < n ∨ mayB l r o = false) :
    Calls Try.prog 30 #[progV A l.length c r o q, .int .i64 n] w fun e w' => e = .returned (.tuple #[.pointer none, .int .i64 2]) ∧ Below w.heap.size w w' := by
  by_cases hn : n < 0 ∨ 64 < n
  · exact look_far A l.length c r o q n hn w
  · have hm : mayB l r o = false := by rcases h with h | h | h; exact absurd (.inl h) hn; exact absurd (.inr h) hn; exact h
    refine look_no A l.length c r o q n (by omega) (by omega) w (fun w1 hb1 => ?_)
    refine write_no A l.length c r o q w1 (fun w2 hb2 => ?_)
    have := may_ok (w := w) r o q hC hc w2 (hb1.trans (hb2.mono hb1.size))
    rw [hm] at this
    exact this
set_option maxRecDepth 100000 in
theorem check_calls {w : World} {A : Option Addr} {c : Nat} {l : List S59} {r o q n : Int} (hC : Kd.C k59 w A l.length l) (hc : l.length ≤ c) (hb : ∀ s ∈ l, byteB s.f3 = true) (hq : 0 ≤ q) (hq2 : q < 2 ^ 64) :
    Calls Try.prog 10 #[progV A l.length c r o q, .int .i64 n] w fun e w' => e = .returned (.tuple #[.int .i64 (checkV l r o q n).1, .int .i64 (checkV l r o q n).2]) ∧ Below w.heap.size w w' := by
  have q0 : ∀ o, Below w.heap.size w (w.alloc o) := fun o => (Below.refl _ _).alloc (Nat.le_refl _) _
  by_cases h : n < 0 ∨ 64 < n ∨ mayB l r o = false
  · have e : checkV l r o q n = (0, 2) := by unfold checkV; exact if_pos h
    rw [e]
    unfold progV
    go_enter Try.func10, Try.ntmps10
    go_wp2_with fail
    refine (look_bad (Kd.C_below hC (q0 _)) hc h).mono ?_
    rintro e w' ⟨rfl, hb'⟩
    go_wp2_with fail
    go_ret2
    exact ⟨rfl, (q0 _).trans (hb'.mono (by simp))⟩
  · have h' : mayB l r o = true := by
      cases hm : mayB l r o
      · exact absurd (.inr (.inr hm)) h
      · rfl
    have e : checkV l r o q n = match vAll r.toNat o.toNat q.toNat n.toNat (l.map psOf) with
      | (i, some _) => ((i : Int), 0)
      | (i, none) => ((i : Int), 250) := by unfold checkV; exact if_neg h
    rw [e]
    obtain ⟨⟨pl, st⟩, hv⟩ : ∃ v, v = vAll r.toNat o.toNat q.toNat n.toNat (l.map psOf) := ⟨_, rfl⟩
    rw [← hv]
    unfold progV
    go_enter Try.func10, Try.ntmps10
    go_wp2_with fail
    refine (look_all (Kd.C_below hC (q0 _)) hc hb hq hq2 (by omega) (by omega) h').mono ?_
    rintro e w' ⟨gk, gr, gs, go, gd, G, hbl, hy, hno⟩
    rw [← hv] at hy hno
    have hbl' := (q0 (.cells #[.slice A l.length c, .int .i64 r, .int .i64 o, .int .u64 q] 26)).trans (hbl.mono (by simp))
    cases st with
    | some st =>
      obtain ⟨rfl, hW⟩ := hy st rfl
      have k5 : w'.cell? ⟨gk, 5, none⟩ = some (.int .i64 (pl : Int)) := hW.hk.cell 5
      clear hy hno hW
      go_wp2_with fail
      go_ret2
      exact ⟨rfl, hbl'⟩
    | none =>
      obtain ⟨rfl, ld, hk⟩ := hno rfl
      have k5 : w'.cell? ⟨gk, 5, none⟩ = some (.int .i64 (pl : Int)) := hk.cell 5
      clear hy hno hk
      go_wp2_with fail
      go_ret2
      exact ⟨rfl, hbl'⟩
end Go.Proofs.Ythbjcafldbocpaa
namespace Go.Proofs.Ythbjcafldbocpaa
open Go.RowKit Go.Proofs.YthbjcafldbocpaaW.PrintWords Go.Proofs.Ythbjcafldbocpaa.P0
set_option linter.unusedVariables false
set_option linter.unusedSimpArgs false
def outsD (rs : List (Option (List UInt8))) : List UInt8 := (rs.map (·.getD [])).flatten
def MatE (w' : World) (base : Nat) (o n : Int) (l : List UInt8) (code : Int) (e : Ending) : Prop := ∃ v b, base ≤ b ∧ e = .returned (.tuple #[.agg #[.int .i64 o, .int .i64 n, v], .int .i64 code]) ∧ OwnV w' b v l
theorem vAll_some {nr no reads n i : Nat} {l : List PS} {st : VS} (h : vAll nr no reads n l = (i, some st)) : (∀ o ∈ st.outs, o.isSome = true) ∧ st.loads = reads := by
  unfold vAll at h
  split at h
  · split at h
    · rename_i hc
      injection h with _ h
      injection h with h
      rw [← h]
      exact hc
    · injection h with _ h; cases h
  · injection h with _ h; cases h
theorem out_row {rs : List (Option (List UInt8))} (h : ∀ o ∈ rs, o.isSome = true) {j : Nat} (hj : j < rs.length) : ∃ x, rs.getD j none = some x ∧ outsD (rs.take (j + 1)) = outsD (rs.take j) ++ x := by
  have h1 := h _ (List.getElem_mem hj)
  obtain ⟨x, hx⟩ := Option.isSome_iff_exists.1 h1
  refine ⟨x, by rw [List.getD_eq_getElem?_getD, List.getElem?_eq_getElem hj]; exact hx, ?_⟩
  unfold outsD
  rw [List.take_succ_eq_append_getElem hj, hx]
  simp
theorem pad_take {x : List UInt8} {n : Nat} (h : x.length = n) : (pad (some x)).take n = x := by
  show (x ++ List.replicate (64 - x.length) 0).take n = x
  rw [List.take_append_of_le_length (by omega), List.take_of_length_le (by omega)]
theorem layAt_all (zs vs : List Value) (h : zs.length = vs.length) : layAt zs 0 vs = vs := by
  unfold layAt
  rw [List.take_zero, List.nil_append, Nat.zero_add, List.drop_eq_nil_of_le (by omega), List.append_nil]
theorem rd_pre {w : World} {g n : Nat} {t : TypeId} {ys : List UInt8} (h : Row w g t (bVs ys)) (hn : n ≤ ys.length) : Rd w w.heap.size (some ⟨g, 0, none⟩) n (bVs (ys.take n)) := by
  refine ⟨by rw [bVs_length, List.length_take]; omega, fun _ => ⟨g, 0, rfl, h.lt, fun j u hu => ?_⟩⟩
  rw [Nat.zero_add, h.cell, ← hu]
  have hj : j < n := by
    rcases Nat.lt_or_ge j n with hlt | hge
    · exact hlt
    · rw [List.getElem?_eq_none (by rw [bVs_length, List.length_take]; omega)] at hu; cases hu
  simp only [bVs, List.getElem?_map, List.getElem?_take, if_pos hj]
theorem own_far2 {w : World} {base g i : Nat} {v : Value} {xs : List UInt8} (h : OwnV w base v xs) (hg : g < base) (u : Value) : OwnV (w.setCell ⟨g, i, none⟩ u) base v xs :=
  h.kept (row := some g) (grown_setCell (p := ⟨g, i, none⟩) (World.grownBy.refl w (some g)) (.inl rfl) u) (.inr (by intro e; have := (World.ownsRow.lt h g e).1; omega))
theorem new_there (w : World) (cs : List Value) (t : TypeId) (n : Nat) (h : n ≤ cs.length) : (w.alloc (.cells cs.toArray t)).there w.heap.size 0 n := by
  intro j hj
  have hr := Row.new w cs t
  refine ⟨?_, hr.frozen _⟩
  rw [hr.cell, List.getElem?_eq_getElem (by omega)]
  rfl
def makesV (l : List S59) (r o q n : Int) : Int × Int × List UInt8 × Int :=
  if n < 0 ∨ 64 < n ∨ mayB l r o = false then (0, 0, [], 2)
  else match vAll r.toNat o.toNat q.toNat n.toNat (l.map psOf) with
    | (_, some st) => (o, n, outsD st.outs, 0)
    | (_, none) => (0, 0, [], 250)
end Go.Proofs.Ythbjcafldbocpaa
namespace Go.Proofs.Ythbjcafldbocpaa
open Go.RowKit Go.Proofs.YthbjcafldbocpaaW.PrintWords Go.Proofs.Ythbjcafldbocpaa.P0
set_option linter.unusedVariables false
set_option linter.unusedSimpArgs false
set_option maxHeartbeats 4000000 in
set_option maxRecDepth 100000 in
theorem makes_yes {w : World} {A : Option Addr} {c : Nat} {l : List S59} {r o q n : Int} (hC : Kd.C k59 w A l.length l) (hc : l.length ≤ c) (hb : ∀ s ∈ l, byteB s.f3 = true) (hq : 0 ≤ q) (hq2 : q < 2 ^ 64) (hn : 0 ≤ n) (hn2 : n ≤ 64) (hm : mayB l r o = true) (st : VS) (i : Nat) (hv : vAll r.toNat o.toNat q.toNat n.toNat (l.map psOf) = (i, some st)) :
    Calls Try.prog 13 #[progV A l.length c r o q, .int .i64 n] w fun e w' => MatE w' w.heap.size o n (outsD st.outs) 0 e ∧ Below w.heap.size w w' := by
  obtain ⟨nn, rfl⟩ : ∃ nn : Nat, n = (nn : Int) := ⟨n.toNat, (Int.toNat_of_nonneg hn).symm⟩
  unfold progV
  have ho0 : 0 ≤ o ∧ o ≤ 64 := by
    unfold mayB at hm
    rw [Bool.and_eq_true, decide_eq_true_eq] at hm
    omega
  go_enter Try.func13, Try.ntmps13
  go_wp2_with fail
  obtain ⟨W1, hW1⟩ : ∃ W1, W1 = (w.alloc (.cells #[.slice A l.length c, .int .i64 r, .int .i64 o, .int .u64 q] 26)).alloc (.cells #[.int .i64 0, .int .i64 0, .slice none 0 0] 37) := ⟨_, rfl⟩
  have q1 : Below w.heap.size w W1 := by rw [hW1]; exact ((Below.refl _ _).alloc (Nat.le_refl _) _).alloc (by simp) _
  have hp : Row W1 w.heap.size 26 [.slice A l.length c, .int .i64 r, .int .i64 o, .int .u64 q] := by rw [hW1]; exact (Row.new w _ _).alloc _
  have hm4 : Row W1 (w.heap.size + 1) 37 [.int .i64 0, .int .i64 0, .slice none 0 0] := by
    rw [hW1]
    have := Row.new (w.alloc (.cells #[.slice A l.length c, .int .i64 r, .int .i64 o, .int .u64 q] 26)) [.int .i64 0, .int .i64 0, .slice none 0 0] 37
    simpa using this
  rw [← hW1]
  clear hW1
  refine (look_all (Kd.C_below hC q1) hc hb hq hq2 hn hn2 hm).mono ?_
  rintro e w' ⟨gk, gr, gs, go, gd, G, hbl, hy, hno⟩
  rw [hv] at hy
  obtain ⟨rfl, hK⟩ := hy st rfl
  clear hno hy
  have hp2 := hp.below hbl hp.lt
  have hm2 := hm4.below hbl hm4.lt
  have p2 : w'.cell? ⟨w.heap.size, 2, none⟩ = some (.int .i64 o) := hp2.cell 2
  have q2 : Below w.heap.size w w' := q1.trans (hbl.mono q1.size)
  have k8 : w'.cell? ⟨gk, 8, none⟩ = some (.slice (some ⟨go, 0, none⟩) o.toNat o.toNat) := hK.hk.cell 8
  have HK := Lib.hid hK
  have HM := Lib.hid hm2
  have HQ := Lib.hid q2
  have hG := hK.ho
  have hok := hK.ok
  clear hp hm4 hp2 hbl q1 k8
  obtain ⟨no, hno⟩ : ∃ no, no = o.toNat := ⟨_, rfl⟩
  have eno : (no : Int) = o := by rw [hno]; exact Int.toNat_of_nonneg ho0.1
  have k8 : (w'.alloc (.cells #[.int .i64 o, .int .i64 (nn : Int), .slice none 0 0] 37)).cell? ⟨gk, 8, none⟩ = some (.slice (some ⟨go, 0, none⟩) no no) := by rw [hno]; exact (hK.hk.alloc _).cell 8
  have hm3 := Row.new w' [.int .i64 o, .int .i64 (nn : Int), .slice none 0 0] 37
  have hg3 := hG.alloc (.cells #[.int .i64 o, .int .i64 (nn : Int), .slice none 0 0] 37)
  have hr3 := hm2.alloc (.cells #[.int .i64 o, .int .i64 (nn : Int), .slice none 0 0] 37)
  have lgm := hm2.lt
  have lgo := hG.lt
  have q3 : Below w.heap.size w (w'.alloc (.cells #[.int .i64 o, .int .i64 (nn : Int), .slice none 0 0] 37)) := q2.alloc q2.size _
  have HM3 := Lib.hid hm3
  have HG3 := Lib.hid hg3
  have HR3 := Lib.hid hr3
  have HQ3 := Lib.hid q3
  have lno : st.outs.length = no := by rw [hok.lo, hno]
  have HOK := Lib.hid hok
  have HNO := Lib.hid hno
  clear hK hm2 hG hok hm3 hg3 hr3 q3 q2 hno
  go_wp2_with fail
  go_loopw [30] (fun v30 wr => ∃ (j : Nat) (v : Value), j ≤ no ∧ v30 = .int .i64 (j : Int) ∧ Row wr w'.heap.size 37 [.int .i64 o, .int .i64 (nn : Int), v] ∧ OwnV wr (w'.heap.size + 1) v (outsD (st.outs.take j)) ∧ (outsD (st.outs.take j)).length = j * nn ∧ Row wr go 87 (bVs (flatR st.outs)) ∧ Row wr (w.heap.size + 1) 37 [.int .i64 0, .int .i64 0, .slice none 0 0] ∧ Below w.heap.size w wr ∧ w'.heap.size + 1 ≤ wr.heap.size) (fun v30 _ => no - (intOf v30).toNat)
  case atStart => exact ⟨0, _, by omega, rfl, HM3.out, OwnV.nil _ _, by simp [outsD], HG3.out, HR3.out, HQ3.out, by simp⟩
  case round =>
    obtain ⟨j, v, hj, rfl, hmm, how, hjl, hgg, hrr, hqq, hss⟩ := hrel
    clear HM3 HG3 HR3 HQ3 k8
    have HMM := Lib.hid hmm
    have HOW := Lib.hid how
    have HGG := Lib.hid hgg
    have HRR := Lib.hid hrr
    have HQQ := Lib.hid hqq
    by_cases hlt : j < no
    · have i0 : (0 : Int) ≤ (j : Int) := by omega
      have i1 : (j : Int) < (no : Int) := by omega
      have so := Short.of_ok' HOK.out (n := (nn : Int).toNat) (by omega)
      have lf : (flatR st.outs).length = no * 64 := by rw [flatR_length so, lno]
      obtain ⟨cs, hcs⟩ : ∃ cs, cs = bVs (seg (flatR st.outs) j) := ⟨_, rfl⟩
      have lcs : cs.length = 64 := by rw [hcs, bVs_length, seg_length lf hlt]
      have z1 : ∀ v ∈ cs, v.oneCell' = true := by intro v hv; rw [hcs] at hv; exact bVs_one hv
      have z2 : (Try.prog.info? 87).map (·.size) = some cs.length := by rw [lcs]; kernel_rfl
      have z3 : Try.prog.underlying 87 = some (.array 64 5) := by kernel_rfl
      have z4 : (Try.prog.info? 87).map (·.size) = some cs.toArray.size := by rw [List.size_toArray]; exact z2
      have hra : wr.rangeAt go (j * 64) cs := by rw [hcs]; exact seg_cells hgg lf hlt
      have HCS := Lib.hid hcs
      have LCZ := Lib.hid (show cs.toArray.size = 64 by rw [List.size_toArray]; exact lcs)
      clear hcs hmm how hgg hrr hqq
      go_wp2_with (first | (refine wpList_load_mid rfl 87 (.tmp 32) rfl go (j * 64) rfl cs _ hra z3 rfl z2 ?_) | (refine wpList_store_mid rfl 87 (.tmp 10) (.tmp 33) rfl wr.heap.size 0 cs.toArray rfl rfl (by rw [LCZ.out]; exact new_there wr _ _ 64 (by decide)) z4 (all_oneCell_toArray z1) ?_; simp only [Act.put, List.setIfInBounds_toArray, List.set_cons_zero, List.set_cons_succ, List.toList_toArray]))
      obtain ⟨zs, hzs⟩ : ∃ zs : List Value, zs = [.int .u8 0, .int .u8 0, .int .u8 0, .int .u8 0, .int .u8 0, .int .u8 0, .int .u8 0, .int .u8 0, .int .u8 0, .int .u8 0, .int .u8 0, .int .u8 0, .int .u8 0, .int .u8 0, .int .u8 0, .int .u8 0, .int .u8 0, .int .u8 0, .int .u8 0, .int .u8 0, .int .u8 0, .int .u8 0, .int .u8 0, .int .u8 0, .int .u8 0, .int .u8 0, .int .u8 0, .int .u8 0, .int .u8 0, .int .u8 0, .int .u8 0, .int .u8 0, .int .u8 0, .int .u8 0, .int .u8 0, .int .u8 0, .int .u8 0, .int .u8 0, .int .u8 0, .int .u8 0, .int .u8 0, .int .u8 0, .int .u8 0, .int .u8 0, .int .u8 0, .int .u8 0, .int .u8 0, .int .u8 0, .int .u8 0, .int .u8 0, .int .u8 0, .int .u8 0, .int .u8 0, .int .u8 0, .int .u8 0, .int .u8 0, .int .u8 0, .int .u8 0, .int .u8 0, .int .u8 0, .int .u8 0, .int .u8 0, .int .u8 0, .int .u8 0] := ⟨_, rfl⟩
      have lzs : zs.length = 64 := by rw [hzs]; rfl
      obtain ⟨W4, hW4⟩ : ∃ W4, W4 = (wr.alloc (.cells zs.toArray 87)).setCells wr.heap.size 0 cs := ⟨_, rfl⟩
      have hrc : Row W4 wr.heap.size 87 cs := by
        have h9 := (Row.new wr zs 87).lay 0 cs (by rw [lcs, lzs]; decide)
        rw [layAt_all _ _ (by rw [lcs, lzs]), ← hW4] at h9
        exact h9
      have e4 : ∀ k, k < wr.heap.size → W4.heap[k]? = wr.heap[k]? := by
        intro k hk
        rw [hW4]
        exact (Go.Proofs.YthbjcafldbocpaaW.PrintWords.setCells_far cs 0 k (by omega)).trans (Below.heap_alloc wr _ k hk)
      have o4 : Below wr.heap.size wr W4 := by
        obtain ⟨g1, g2, g3, g4⟩ := Go.Proofs.YthbjcafldbocpaaW.PrintWords.setCells_same wr.heap.size cs 0 (wr.alloc (.cells zs.toArray 87))
        rw [hW4]
        exact ⟨g1, g2, g3, by rw [g4]; simp, fun k hk => by rw [← hW4]; exact e4 k hk⟩
      rw [← hzs, ← hW4]
      have HRC := Lib.hid hrc
      have HE4 := Lib.hid e4
      have HO4 := Lib.hid o4
      have HALL := Lib.hid (vAll_some hv).1
      clear hzs hW4 lzs hrc e4 o4 hra z1 z2 z3 z4
      obtain ⟨x, hx, hxo⟩ := out_row HALL.out (j := j) (by rw [lno]; exact hlt)
      have lx : x.length = nn := by have := HOK.out.wo j x hx; simpa using this
      have hm4 := HMM.out.below HO4.out HMM.out.lt
      have how4 := HOW.out.below HO4.out
      have hrd : Rd W4 W4.heap.size (some ⟨wr.heap.size, 0, none⟩) nn (bVs x) := by
        have h9 := HRC.out
        rw [HCS.out] at h9
        have h8 := rd_pre h9 (n := nn) (by rw [seg_length lf hlt]; omega)
        rw [seg_flat so (by rw [lno]; exact hlt), hx, pad_take lx] at h8
        exact h8
      have m0 : W4.cell? ⟨w'.heap.size, 2, none⟩ = some v := hm4.cell 2
      have hlo : (outsD (st.outs.take j)).length ≤ 4096 := by rw [hjl]; exact Nat.mul_le_mul (show j ≤ 64 by omega) (show nn ≤ 64 by omega)
      have b4 : w'.heap.size + 1 ≤ W4.heap.size := Nat.le_trans hss HO4.out.size
      have HM4 := Lib.hid hm4
      have HOW4 := Lib.hid how4
      have HRD := Lib.hid hrd
      have n0 : (0 : Int) ≤ (nn : Int) := by omega
      clear hm4 how4 hrd
      refine wp_region_held_drew (S := fun _ => True) (by kernel_rfl) trivial (fun hHeld => ?_)
      refine wpAnyH_take (i := 0) (v := ?_) rfl (by kernel_rfl) (by kernel_rfl) (by kernel_rfl) (fun _ _ _ h => h) (Or.inl ⟨by kernel_rfl, ?_⟩) (by assumption) ?_
      rotate_left
      · (intro w hSw; (try dsimp only at hSw); go_simp; (try with_reducible rfl))
      try simp only [List.getElem_toArray, List.getElem_cons_succ, List.getElem_cons_zero, Act.put, List.setIfInBounds_toArray, List.set_cons_zero, List.set_cons_succ]
      refine wpAnyH_take (i := 2) (v := ?_) rfl (by kernel_rfl) (by kernel_rfl) (by kernel_rfl) (fun _ _ _ h => h) (Or.inl ⟨by kernel_rfl, ?_⟩) (by assumption) ?_
      rotate_left
      · (intro w hSw; (try dsimp only at hSw); go_simp; (try with_reducible rfl))
      try simp only [List.getElem_toArray, List.getElem_cons_succ, List.getElem_cons_zero, Act.put, List.setIfInBounds_toArray, List.set_cons_zero, List.set_cons_succ]
      refine wpAnyH_take (i := 3) (v := ?_) rfl (by kernel_rfl) (by kernel_rfl) (by kernel_rfl) (fun _ _ _ h => h) (Or.inl ⟨by kernel_rfl, ?_⟩) (by assumption) ?_
      rotate_left
      · (intro w hSw; (try dsimp only at hSw); go_simp; (try with_reducible rfl))
      try simp only [List.getElem_toArray, List.getElem_cons_succ, List.getElem_cons_zero, Act.put, List.setIfInBounds_toArray, List.set_cons_zero, List.set_cons_succ]
      refine wpAnyH_ready (rs := [1]) (by kernel_rfl) (by simp) ?_
      refine AllReadyH.cons rfl (fun K hK => ?_) AllReadyH.nil
      go_simp
      refine hK.out _ _ trivial (fun hHeld => ?_)
      clear hK K
      try simp only [List.getElem_toArray, List.getElem_cons_succ, List.getElem_cons_zero, Act.put, List.setIfInBounds_toArray, List.set_cons_zero, List.set_cons_succ]
      refine wpAnyH_ready (rs := [4]) (by kernel_rfl) (by simp) ?_
      refine AllReadyH.cons rfl (fun K hK => ?_) AllReadyH.nil
      refine step_append_rd (.tmp 35) (.tmp 37) rfl rfl (w'.heap.size + 1) v _ x rfl (HOW4.out.drewN 1) _ (some ⟨wr.heap.size, 0, none⟩) nn 64 rfl HRD.out (by omega) b4 ?_
      intro v6 w6 ho6 hg6 hat6
      obtain ⟨A6, c6, rfl, _⟩ := ho6.slice
      generalize hm6 : (outsD (st.outs.take j) ++ x).length = m6 at *
      have HM6 := Lib.hid hm6
      clear hm6
      have hb6 : Below (w'.heap.size + 1) W4.drew w6 := grown_below hg6 b4 (fun k hk => (World.ownsRow.lt HOW4.out k hk).1)
      have hb6' : Below (w'.heap.size + 1) W4 w6 := ⟨hb6.os, hb6.tape, hb6.output, hb6.size, hb6.block⟩
      have hm6r := HM4.out.below hb6' (by omega)
      have c62 : w6.cell? ⟨w'.heap.size, 2, none⟩ = some v := hm6r.cell 2
      have f62 : w6.frozen? ⟨w'.heap.size, 2, none⟩ = false := hm6r.frozen 2
      have HF1 := Lib.hid (hm6r.set 2 (.slice A6 m6 c6))
      have HF2 := Lib.hid (own_far2 (g := w'.heap.size) (i := 2) ho6 (by omega) (.slice A6 m6 c6))
      have HF3 := Lib.hid (((HGG.out.below HO4.out HGG.out.lt).below hb6' (by omega)).far (p := ⟨w'.heap.size, 2, none⟩) (by simp; omega) (.slice A6 m6 c6))
      have HF4 := Lib.hid (((HRR.out.below HO4.out HRR.out.lt).below hb6' (by omega)).far (p := ⟨w'.heap.size, 2, none⟩) (by simp; omega) (.slice A6 m6 c6))
      have HF5 := Lib.hid (show Below w.heap.size w (w6.setCell ⟨w'.heap.size, 2, none⟩ (.slice A6 m6 c6)) from ((HQQ.out.trans (HO4.out.mono HQQ.out.size)).trans (hb6'.mono (by omega))).setCell (by simp; omega) _)
      have HF6 := Lib.hid (show w'.heap.size + 1 ≤ (w6.setCell ⟨w'.heap.size, 2, none⟩ (.slice A6 m6 c6)).heap.size by have := hb6'.size; simp [World.setCell]; omega)
      clear ho6 hg6 hat6 hb6 hb6' hm6r
      refine hK.out _ _ trivial (fun hHeld => ?_)
      clear hK K
      try simp only [List.getElem_toArray, List.getElem_cons_succ, List.getElem_cons_zero, Act.put, List.setIfInBounds_toArray, List.set_cons_zero, List.set_cons_succ]
      refine wpAnyH_take (i := 5) (v := ?_) rfl (by kernel_rfl) (by kernel_rfl) (by kernel_rfl) (fun _ _ _ h => h) (Or.inl ⟨by kernel_rfl, ?_⟩) (by assumption) ?_
      rotate_left
      · (intro w hSw; (try dsimp only at hSw); go_simp; (try with_reducible rfl))
      try simp only [List.getElem_toArray, List.getElem_cons_succ, List.getElem_cons_zero, Act.put, List.setIfInBounds_toArray, List.set_cons_zero, List.set_cons_succ]
      refine wpAnyH_ready (rs := [6]) (by kernel_rfl) (by simp) ?_
      refine AllReadyH.cons rfl (fun K hK => ?_) AllReadyH.nil
      go_simp
      refine hK.out _ _ trivial (fun hHeld => ?_)
      clear hK K
      try simp only [List.getElem_toArray, List.getElem_cons_succ, List.getElem_cons_zero, Act.put, List.setIfInBounds_toArray, List.set_cons_zero, List.set_cons_succ]
      refine wpAnyH_done (by kernel_rfl) ?_ _
      go_wp2_with fail
      go_roundw
      case rel => exact ⟨j + 1, _, by omega, by go_num, HF1.out, by rw [hxo]; exact HF2.out, by rw [hxo, List.length_append, hjl, lx, Nat.add_mul, Nat.one_mul], HF3.out, HF4.out, HF5.out, HF6.out⟩
      case measure => simp [intOf] <;> omega
    · obtain rfl : j = no := by omega
      rw [← lno, List.take_length] at how
      have m0 : wr.cell? ⟨w'.heap.size, 0, none⟩ = some (.int .i64 o) := hmm.cell 0
      have m1 : wr.cell? ⟨w'.heap.size, 1, none⟩ = some (.int .i64 (nn : Int)) := hmm.cell 1
      have m2 : wr.cell? ⟨w'.heap.size, 2, none⟩ = some v := hmm.cell 2
      obtain ⟨c40, c41, c42, f40, f41, f42⟩ := hrr.three
      obtain ⟨Av, cv, rfl, _⟩ := how.slice
      generalize hmv : (outsD st.outs).length = mv at *
      have HMV := Lib.hid hmv
      clear hmv
      have HOWF := Lib.hid how
      have R4 := hrr.set3 (.int .i64 o) (.int .i64 (nn : Int)) (.slice Av mv cv)
      obtain ⟨d0, d1, d2, _, _, _⟩ := R4.three
      have H9 := Lib.hid (own_far2 (i := 2) (own_far2 (i := 1) (own_far2 (i := 0) how (show w.heap.size + 1 < w'.heap.size + 1 by omega) (.int .i64 o)) (show w.heap.size + 1 < w'.heap.size + 1 by omega) (.int .i64 (nn : Int))) (show w.heap.size + 1 < w'.heap.size + 1 by omega) (.slice Av mv cv))
      have H10 := Lib.hid (((hqq.setCell (p := ⟨w.heap.size + 1, 0, none⟩) (by simp) (.int .i64 o)).setCell (p := ⟨w.heap.size + 1, 1, none⟩) (by simp) (.int .i64 (nn : Int))).setCell (p := ⟨w.heap.size + 1, 2, none⟩) (by simp) (.slice Av mv cv))
      clear hmm how hgg hrr hqq
      go_wp2_with fail
      refine bodyPost_ret (v := .tuple #[.agg #[.int .i64 o, .int .i64 (nn : Int), .slice Av mv cv], .int .i64 0]) (by simp [results, Try.results13, go_sem, d0, d1, d2]) rfl ?_
      exact ⟨⟨_, w'.heap.size + 1, by omega, rfl, H9.out⟩, H10.out⟩
end Go.Proofs.Ythbjcafldbocpaa
namespace Go.Proofs.Ythbjcafldbocpaa
open Go.RowKit Go.Proofs.YthbjcafldbocpaaW.PrintWords Go.Proofs.Ythbjcafldbocpaa.P0
set_option linter.unusedVariables false
set_option linter.unusedSimpArgs false
set_option maxRecDepth 100000 in
theorem makes_no {w : World} {A : Option Addr} {c : Nat} {l : List S59} {r o q n code : Int} (hcode : code ≠ 0)
    (hlook : ∀ w1, Below w.heap.size w w1 → Calls Try.prog 30 #[.agg #[.slice A l.length c, .int .i64 r, .int .i64 o, .int .u64 q], .int .i64 n] w1 fun e w' => ∃ p, e = .returned (.tuple #[.pointer p, .int .i64 code]) ∧ Below w1.heap.size w1 w') :
    Calls Try.prog 13 #[progV A l.length c r o q, .int .i64 n] w fun e w' => e = .returned (.tuple #[.agg #[.int .i64 0, .int .i64 0, .slice none 0 0], .int .i64 code]) ∧ Below w.heap.size w w' := by
  unfold progV
  have hcn : (code != 0) = true := by simpa using hcode
  go_enter Try.func13, Try.ntmps13
  go_wp2_with fail
  obtain ⟨W1, hW1⟩ : ∃ W1, W1 = (w.alloc (.cells #[.slice A l.length c, .int .i64 r, .int .i64 o, .int .u64 q] 26)).alloc (.cells #[.int .i64 0, .int .i64 0, .slice none 0 0] 37) := ⟨_, rfl⟩
  have q1 : Below w.heap.size w W1 := by rw [hW1]; exact ((Below.refl _ _).alloc (Nat.le_refl _) _).alloc (by simp) _
  have hm4 : Row W1 (w.heap.size + 1) 37 [.int .i64 0, .int .i64 0, .slice none 0 0] := by
    rw [hW1]
    have := Row.new (w.alloc (.cells #[.slice A l.length c, .int .i64 r, .int .i64 o, .int .u64 q] 26)) [.int .i64 0, .int .i64 0, .slice none 0 0] 37
    simpa using this
  rw [← hW1]
  clear hW1
  refine (hlook W1 q1).mono ?_
  rintro e w' ⟨p, rfl, hbl⟩
  have hm2 := hm4.below hbl hm4.lt
  have q2 : Below w.heap.size w w' := q1.trans (hbl.mono q1.size)
  obtain ⟨c40, c41, c42, f40, f41, f42⟩ := hm2.three
  have R4 := hm2.set3 (.int .i64 0) (.int .i64 0) (.slice none 0 0)
  obtain ⟨d0, d1, d2, _, _, _⟩ := R4.three
  have H10 := Lib.hid (((q2.setCell (p := ⟨w.heap.size + 1, 0, none⟩) (by simp) (.int .i64 0)).setCell (p := ⟨w.heap.size + 1, 1, none⟩) (by simp) (.int .i64 0)).setCell (p := ⟨w.heap.size + 1, 2, none⟩) (by simp) (.slice none 0 0))
  clear hm4 hm2 q1 q2 hbl R4 hlook
  go_wp2_with fail
  refine bodyPost_ret (v := .tuple #[.agg #[.int .i64 0, .int .i64 0, .slice none 0 0], .int .i64 code]) (by simp [results, Try.results13, go_sem, d0, d1, d2]) rfl ?_
  exact ⟨rfl, H10.out⟩
theorem makes_calls {w : World} {A : Option Addr} {c : Nat} {l : List S59} {r o q n : Int} (hC : Kd.C k59 w A l.length l) (hc : l.length ≤ c) (hb : ∀ s ∈ l, byteB s.f3 = true) (hq : 0 ≤ q) (hq2 : q < 2 ^ 64) :
    Calls Try.prog 13 #[progV A l.length c r o q, .int .i64 n] w fun e w' => MatE w' w.heap.size (makesV l r o q n).1 (makesV l r o q n).2.1 (makesV l r o q n).2.2.1 (makesV l r o q n).2.2.2 e ∧ Below w.heap.size w w' := by
  by_cases h : n < 0 ∨ 64 < n ∨ mayB l r o = false
  · have e : makesV l r o q n = (0, 0, [], 2) := by unfold makesV; exact if_pos h
    rw [e]
    refine (makes_no (code := 2) (by decide) (fun w1 h1 => ((look_bad (r := r) (o := o) (q := q) (n := n) (Kd.C_below hC h1) hc h).mono ?_))).mono ?_
    · rintro e w' ⟨rfl, hbl⟩
      exact ⟨none, rfl, hbl⟩
    · rintro e w' ⟨rfl, hbl⟩
      exact ⟨⟨_, w.heap.size, Nat.le_refl _, rfl, OwnV.nil _ _⟩, hbl⟩
  · have h' : mayB l r o = true := by
      cases hm : mayB l r o
      · exact absurd (.inr (.inr hm)) h
      · rfl
    cases hv : vAll r.toNat o.toNat q.toNat n.toNat (l.map psOf) with
    | mk i st =>
      cases st with
      | some st =>
        have e : makesV l r o q n = (o, n, outsD st.outs, 0) := by unfold makesV; rw [if_neg h, hv]
        rw [e]
        exact makes_yes hC hc hb hq hq2 (by omega) (by omega) h' st i hv
      | none =>
        have e : makesV l r o q n = (0, 0, [], 250) := by unfold makesV; rw [if_neg h, hv]
        rw [e]
        refine (makes_no (code := 250) (by decide) (fun w1 h1 => ((look_all (r := r) (o := o) (q := q) (n := n) (Kd.C_below hC h1) hc hb hq hq2 (by omega) (by omega) h').mono ?_))).mono ?_
        · rintro e w' ⟨gk, gr, gs, go, gd, G, hbl, hy, hno⟩
          rw [hv] at hno
          obtain ⟨rfl, _⟩ := hno rfl
          exact ⟨_, rfl, hbl⟩
        · rintro e w' ⟨rfl, hbl⟩
          exact ⟨⟨_, w.heap.size, Nat.le_refl _, rfl, OwnV.nil _ _⟩, hbl⟩
end Go.Proofs.Ythbjcafldbocpaa
namespace Go.Proofs.Ythbjcafldbocpaa
open Go.RowKit Go.Proofs.YthbjcafldbocpaaW.PrintWords Go.Proofs.Ythbjcafldbocpaa.P0
set_option linter.unusedVariables false
set_option linter.unusedSimpArgs false
theorem own_le {w : World} {base n cap : Nat} {A : Option Addr} {xs : List UInt8} (h : OwnB w base A n cap xs) : n ≤ cap := by
  rcases h.2.2 with ⟨h1, h2⟩ | ⟨g, c, cur, hv, hg, hh, h3, _⟩
  · omega
  · simp only [Value.slice.injEq] at hv
    obtain ⟨_, _, rfl⟩ := hv
    exact h3
set_option maxRecDepth 100000 in
set_option maxHeartbeats 1600000 in
theorem does_yes {w : World} {A B D : Option Addr} {c nl ng kg nw kw no m k : Nat} {r o q wr wc : Int} {ad xs ys : List UInt8} (hx : Rd w w.heap.size B ng (bVs xs)) (hy : Rd w w.heap.size D nw (bVs ys)) (hkg : ng ≤ kg) (hno : no ≤ 64) (hm : m ≤ 64) (hk : k ≤ 64) (hng : ng = m * k) (had : ad.length = no * m) (h2 : rightB wr (k : Int) nw = true)
    (H : Hid (∀ w1, Below w.heap.size w w1 → Calls Try.prog 13 #[.agg #[.slice A nl c, .int .i64 r, .int .i64 o, .int .u64 q], .int .i64 (m : Int)] w1 fun e w' => MatE w' w1.heap.size (no : Int) (m : Int) ad 0 e ∧ Below w1.heap.size w1 w')) :
    Calls Try.prog 26 #[progV A nl c r o q, mV (m : Int) (k : Int) B ng kg, mV wr (k : Int) D nw kw] w fun e w' => e = .returned (.tuple #[.bool (likeB (no : Int) (k : Int) (mulG no m k ad xs) wr (k : Int) ys), .int .i64 0]) ∧ Below w.heap.size w w' := by
  unfold progV
  have hcc : (((k : Nat) : Int) != ((k : Nat) : Int)) = false := by simp
  have h1 : rightB (m : Int) (k : Int) ng = true := by rw [hng]; simp [rightB]; omega
  have HR1 := Lib.hid (fun w => right_calls (m : Int) (k : Int) B ng kg w)
  have HR2 := Lib.hid (fun w => right_calls wr (k : Int) D nw kw w)
  have S := ((((Cx.start w).add hx).add hy).box 26 [.slice A nl c, .int .i64 r, .int .i64 o, .int .u64 q]).box 37 [.int .i64 (m : Int), .int .i64 (k : Int), .slice B ng kg] |>.box 37 [.int .i64 wr, .int .i64 (k : Int), .slice D nw kw]
  simp only [World.size_alloc] at S
  obtain ⟨c0, c1, c2⟩ := S.cells3 1 rfl
  obtain ⟨d0, d1, d2⟩ := S.cells3 0 rfl
  obtain ⟨p0, p1, p2, p3⟩ := S.cells4 2 rfl
  have HN := Lib.hid hng
  have HAD := Lib.hid had
  clear hx hy hng had
  rw [h1] at HR1
  rw [h2] at HR2
  have H2 := Lib.hid h2
  clear h1 h2
  obtain ⟨p, hp⟩ : ∃ p, p = no * k := ⟨_, rfl⟩
  have HP := Lib.hid hp
  clear hp
  go_enter Try.func26, Try.ntmps26
  go_wp2_with (first | (go_at_call 43; (first | (with_reducible refine (HR1.out _).mono ?_) | (with_reducible refine (HR2.out _).mono ?_)); rintro e w1 ⟨rfl, hb⟩; replace S := S.go hb; clear hb c0 c1 c2 d0 d1 d2 p0 p1 p2 p3; obtain ⟨c0, c1, c2⟩ := S.cells3 1 rfl; obtain ⟨d0, d1, d2⟩ := S.cells3 0 rfl; obtain ⟨p0, p1, p2, p3⟩ := S.cells4 2 rfl) | (go_at_call 13; refine (H.out _ S.below).mono ?_; rintro e w1 ⟨⟨va, ba, hba, rfl, oa⟩, hb1⟩; obtain ⟨Aa, ca, rfl, hxa⟩ := oa.slice; replace S := ((S.go hb1).add hxa.rd).box 37 [.int .i64 (no : Int), .int .i64 (m : Int), .slice Aa ad.length ca]; have HLE := Lib.hid (own_le hxa); clear hb1 oa hxa c0 c1 c2 d0 d1 d2 p0 p1 p2 p3; obtain ⟨c0, c1, c2⟩ := S.cells3 2 rfl; obtain ⟨d0, d1, d2⟩ := S.cells3 1 rfl; obtain ⟨e0, e1, e2⟩ := S.cells3 0 rfl))
  generalize hna : ad.length = na at *
  have HNA := Lib.hid (show na = no * m from HAD.out)
  clear hna
  refine (mul_yes no m k na ng p Aa B ca kg ad xs _ hno hm hk HNA HN HP (S.rd 0 rfl) (S.rd 2 rfl) HLE.out hkg).mono ?_
  rintro e w2 ⟨g, rfl, hg, hgl, hb2⟩
  have hlg : (mulG no m k ad xs).length = p := by rw [HP.out]; exact grid_length _ _ _
  have hrg : Rd w2 w2.heap.size (some ⟨g, 0, none⟩) p (bVs (mulG no m k ad xs)) := by rw [← hlg]; exact (RdT.of_row hg).rd
  replace S := ((S.go hb2).add hrg).box 37 [.int .i64 (no : Int), .int .i64 (k : Int), .slice (some ⟨g, 0, none⟩) p p]
  clear hb2 hg hgl hlg hrg c0 c1 c2 d0 d1 d2 e0 e1 e2
  obtain ⟨c0, c1, c2⟩ := S.cells3 3 rfl
  obtain ⟨d0, d1, d2⟩ := S.cells3 2 rfl
  obtain ⟨e0, e1, e2⟩ := S.cells3 0 rfl
  go_wp2_with fail
  refine (msame_calls (no : Int) (k : Int) _ _ _ _ _ _ _ _ _ _ _ (S.rd 0 rfl) (S.rd 2 rfl) (by rw [HP.out]; simp [rightB]; omega) H2.out).mono ?_
  rintro e w3 ⟨rfl, hb3⟩
  replace S := S.go hb3
  clear hb3
  go_wp2_with fail
  go_ret2
  exact ⟨rfl, S.below⟩
end Go.Proofs.Ythbjcafldbocpaa
namespace Go.Proofs.Ythbjcafldbocpaa
open Go.RowKit Go.Proofs.YthbjcafldbocpaaW.PrintWords Go.Proofs.Ythbjcafldbocpaa.P0
set_option linter.unusedVariables false
set_option linter.unusedSimpArgs false
theorem rmul3_calls (ra ca : Int) (A : Option Addr) (na ka : Nat) (xs : List UInt8) (rb cb : Int) (B : Option Addr) (nb kb : Nat) (ys : List UInt8) (w : World)
    (rx : Rd w w.heap.size A na (bVs xs)) (lx : na ≤ ka) (kx : na ≤ 140737488355328) (ry : Rd w w.heap.size B nb (bVs ys)) (ly : nb ≤ kb) (ky : nb ≤ 140737488355328) :
    Calls Try.prog 28 #[mV ra ca A na ka, mV rb cb B nb kb] w fun e w' => ∃ g cap, e = .returned (.tuple #[mV (muR (mulB ra ca na rb cb nb) ra) (muR (mulB ra ca na rb cb nb) cb) g (muN (mulB ra ca na rb cb nb) ra cb) cap, .int .i64 (muE (mulB ra ca na rb cb nb))]) ∧
      OwnB w' w.heap.size g (muN (mulB ra ca na rb cb nb) ra cb) cap (muD (mulB ra ca na rb cb nb) ra ca cb xs ys) ∧ Below w.heap.size w w' := by
  obtain rfl : xs.length = na := by have := rx.len; rw [bVs_length] at this; exact this
  obtain rfl : ys.length = nb := by have := ry.len; rw [bVs_length] at this; exact this
  obtain ⟨k, h⟩ := (pu_mul ra ca rb cb xs ys).rounds
  have hpair : (if mulB ra ca xs.length rb cb ys.length = true then (ra, cb, nI (mulG ra.toNat ca.toNat cb.toNat xs ys), (0 : Int)) else (0, 0, [], 3)) = (muR (mulB ra ca xs.length rb cb ys.length) ra, muR (mulB ra ca xs.length rb cb ys.length) cb, nI (muD (mulB ra ca xs.length rb cb ys.length) ra ca cb xs ys), muE (mulB ra ca xs.length rb cb ys.length)) := by
    cases mulB ra ca xs.length rb cb ys.length <;> rfl
  rw [hpair] at h
  have hc := recoupref03_Mul.calls k ra ca A ka (nI xs) rb cb B kb (nI ys) _ _ _ _ w (C_of_rd rx (by omega)) (by rw [nI_length]; exact lx) (C_of_rd ry (by omega)) (by rw [nI_length]; exact ly) h
  rw [nI_length, nI_length] at hc
  refine hc.mono ?_
  rintro e w' ⟨v, rfl, hv, hb⟩
  obtain ⟨A', c', rfl, hc', ho⟩ := own_of_R hv (inU_nI _)
  rw [nI_toU] at ho
  have hlen : (muD (mulB ra ca xs.length rb cb ys.length) ra ca cb xs ys).length = muN (mulB ra ca xs.length rb cb ys.length) ra cb := by
    cases mulB ra ca xs.length rb cb ys.length
    · rfl
    · exact grid_length _ _ _
  rw [nI_length, hlen] at ho
  rw [nI_length, hlen]
  exact ⟨A', c', rfl, ho, hb⟩
theorem refMul_nat (ra ca cb : Nat) (A : Option Addr) (na ka : Nat) (xs : List UInt8) (B : Option Addr) (nb kb : Nat) (ys : List UInt8) (w : World) (hra : ra ≤ 64) (hca : ca ≤ 64) (hcb : cb ≤ 64) (hna : na = ra * ca) (hnb : nb = ca * cb)
    (rx : Rd w w.heap.size A na (bVs xs)) (lx : na ≤ ka) (ry : Rd w w.heap.size B nb (bVs ys)) (ly : nb ≤ kb) :
    Calls Try.prog 28 #[mV (ra : Int) (ca : Int) A na ka, mV (ca : Int) (cb : Int) B nb kb] w fun e w' => ∃ g cap, e = .returned (.tuple #[mV (ra : Int) (cb : Int) g (ra * cb) cap, .int .i64 0]) ∧ OwnB w' w.heap.size g (ra * cb) cap (mulG ra ca cb xs ys) ∧ Below w.heap.size w w' := by
  have hm : mulB (ra : Int) (ca : Int) na (ca : Int) (cb : Int) nb = true := by
    simp [mulB, rightB, hna, hnb]
    omega
  have h1 : na ≤ 64 * 64 := by rw [hna]; exact Nat.mul_le_mul hra hca
  have h2 : nb ≤ 64 * 64 := by rw [hnb]; exact Nat.mul_le_mul hca hcb
  have h := rmul3_calls (ra : Int) (ca : Int) A na ka xs (ca : Int) (cb : Int) B nb kb ys w rx lx (by omega) ry ly (by omega)
  rw [hm] at h
  exact h
end Go.Proofs.Ythbjcafldbocpaa
namespace Go.Proofs.Ythbjcafldbocpaa
open Go.RowKit Go.Proofs.YthbjcafldbocpaaW.PrintWords Go.Proofs.Ythbjcafldbocpaa.P0
set_option linter.unusedVariables false
set_option linter.unusedSimpArgs false
end Go.Proofs.Ythbjcafldbocpaa
namespace Go.Proofs.Ythbjcafldbocpaa
open Go.RowKit Go.Proofs.YthbjcafldbocpaaW.PrintWords Go.Proofs.Ythbjcafldbocpaa.P0
set_option linter.unusedVariables false
set_option linter.unusedSimpArgs false
theorem outs_all {st : VS} {nr no n : Nat} (hok : st.Ok nr no n) (h : ∀ o ∈ st.outs, o.isSome = true) : ∀ o ∈ st.outs, ∃ x, o = some x ∧ x.length = n := by
  intro o ho
  obtain ⟨x, hx⟩ := Option.isSome_iff_exists.1 (h o ho)
  obtain ⟨i, hi, rfl⟩ := List.getElem_of_mem ho
  exact ⟨x, hx, hok.wo i x (by rw [List.getD_eq_getElem?_getD, List.getElem?_eq_getElem hi]; simpa using hx)⟩
end Go.Proofs.Ythbjcafldbocpaa
namespace Go.Proofs.Ythbjcafldbocpaa
open Go.RowKit Go.Proofs.YthbjcafldbocpaaW.PrintWords Go.Proofs.Ythbjcafldbocpaa.P0
set_option linter.unusedVariables false
set_option linter.unusedSimpArgs false
end Go.Proofs.Ythbjcafldbocpaa
namespace Go.Proofs.Ythbjcafldbocpaa
open Go.RowKit Go.Proofs.YthbjcafldbocpaaW.PrintWords Go.Proofs.Ythbjcafldbocpaa.P0
set_option linter.unusedVariables false
set_option linter.unusedSimpArgs false
end Go.Proofs.Ythbjcafldbocpaa
namespace Go.Proofs.Ythbjcafldbocpaa
open Go.RowKit Go.Proofs.YthbjcafldbocpaaW.PrintWords Go.Proofs.Ythbjcafldbocpaa.P0
set_option linter.unusedVariables false
set_option linter.unusedSimpArgs false
end Go.Proofs.Ythbjcafldbocpaa
namespace Go.Proofs.Ythbjcafldbocpaa
open Go.RowKit Go.Proofs.YthbjcafldbocpaaW.PrintWords Go.Proofs.Ythbjcafldbocpaa.P0
set_option linter.unusedVariables false
set_option linter.unusedSimpArgs false
end Go.Proofs.Ythbjcafldbocpaa
namespace Go.Proofs.Ythbjcafldbocpaa
open Go.RowKit Go.Proofs.YthbjcafldbocpaaW.PrintWords Go.Proofs.Ythbjcafldbocpaa.P0
set_option linter.unusedVariables false
set_option linter.unusedSimpArgs false
end Go.Proofs.Ythbjcafldbocpaa
namespace Go.Proofs.Ythbjcafldbocpaa
open Go.RowKit Go.Proofs.YthbjcafldbocpaaW.PrintWords Go.Proofs.Ythbjcafldbocpaa.P0
set_option linter.unusedVariables false
set_option linter.unusedSimpArgs false
theorem vRun_ok {nr no reads n : Nat} : ∀ (l : List PS) (i : Nat) (st : VS) (j : Nat) (st' : VS), st.Ok nr no n → vRun nr no reads n l i st = (j, some st') → st'.Ok nr no n
  | [], i, st, j, st', h, e => by
    unfold vRun at e
    injection e with _ e
    injection e with e
    exact e ▸ h
  | s :: l, i, st, j, st', h, e => by
    unfold vRun at e
    split at e
    · rename_i st1 hs
      exact vRun_ok l (i + 1) st1 j st' (vStep_ok h hs) e
    · cases e
theorem vAll_ok {nr no reads n i : Nat} {l : List PS} {st : VS} (h : vAll nr no reads n l = (i, some st)) : st.Ok nr no n := by
  unfold vAll at h
  split at h
  · rename_i j st' hr
    split at h
    · injection h with _ e
      injection e with e
      exact e ▸ vRun_ok l 0 _ j st' (st0_ok nr no n) hr
    · cases h
  · cases h
end Go.Proofs.Ythbjcafldbocpaa
namespace Go.Proofs.Ythbjcafldbocpaa
open Go.RowKit Go.Proofs.YthbjcafldbocpaaW.PrintWords Go.Proofs.Ythbjcafldbocpaa.P0
set_option linter.unusedVariables false
set_option linter.unusedSimpArgs false
def fiveL : List S59 := [⟨1, 0, 0, 0⟩, ⟨2, 1, 0, 0⟩, ⟨3, 0, 1, 5⟩, ⟨4, 0, 0, 0⟩]
theorem five_check : checkV fiveL 2 1 1 2 = (4, 0) := by decide +kernel
theorem five_may : mayB fiveL 2 1 = true := by decide +kernel
theorem five_run : vAll 2 1 1 2 (fiveL.map psOf) = (4, some ⟨[some [5, 0], some [1, 0]], [some [5, 0]], 1⟩) := by
  rfl
theorem five_bytes : ∀ s ∈ fiveL, byteB s.f3 = true := by decide +kernel
def cs59 (s : S59) : List Value := [.int .u8 s.f0, .int .i64 s.f1, .int .i64 s.f2, .int .u8 s.f3]
theorem fm_get : ∀ (l : List S59) (j i : Nat) (s : S59), l[j]? = some s → i < 4 → (l.flatMap cs59)[j * 4 + i]? = (cs59 s)[i]?
  | [], j, i, s, h, _ => by simp at h
  | x :: l, 0, i, s, h, hi => by
    simp at h
    subst h
    rw [List.flatMap_cons, Nat.zero_mul, Nat.zero_add, List.getElem?_append_left (by simpa [cs59] using hi)]
  | x :: l, j + 1, i, s, h, hi => by
    rw [List.flatMap_cons, List.getElem?_append_right (by simp [cs59]; omega), show (j + 1) * 4 + i - (cs59 x).length = j * 4 + i by simp [cs59]; omega]
    exact fm_get l j i s (by simpa using h) hi
theorem C_of_row {W : World} {g : Nat} {t : TypeId} {l : List S59} (h : Row W g t (l.flatMap cs59)) (hl : l.length ≤ 9223372036854775807) : Kd.C k59 W (some ⟨g, 0, none⟩) l.length l := by
  refine ⟨rfl, hl, fun _ => ⟨⟨g, 0, none⟩, rfl, fun j s hs => ⟨cs59 s, rfl, k59_mk W s, fun i u hu => ?_⟩⟩⟩
  have hi : i < 4 := by
    rcases Nat.lt_or_ge i 4 with h | h
    · exact h
    · rw [List.getElem?_eq_none (by simpa [cs59] using h)] at hu; cases hu
  rw [addr_add, Nat.zero_add, show k59.sz = 4 from rfl, h.cell, fm_get l j i s hs hi]
  exact hu
end Go.Proofs.Ythbjcafldbocpaa
namespace Go.Proofs.Ythbjcafldbocpaa
open Go.RowKit Go.Proofs.YthbjcafldbocpaaW.PrintWords Go.Proofs.Ythbjcafldbocpaa.P0
set_option linter.unusedVariables false
set_option linter.unusedSimpArgs false
theorem five_calls (w : World) : Calls Try.prog 32 #[] w fun e w' => ∃ A c, e = .returned (progV A fiveL.length c 2 1 1) ∧ Kd.C k59 w' A fiveL.length fiveL ∧ fiveL.length ≤ c ∧ Below w.heap.size w w' := by
  have h0 := Row.new w [.slice (some ⟨w.heap.size + 1, 0, none⟩) 4 4, .int .i64 2, .int .i64 1, .int .u64 1] 26
  have h1 := h0.alloc (.cells (fiveL.flatMap cs59).toArray 59)
  have d0 := h1.cell 0
  have d1 := h1.cell 1
  have d2 := h1.cell 2
  have d3 := h1.cell 3
  have h2 := Row.new (w.alloc (.cells [.slice (some ⟨w.heap.size + 1, 0, none⟩) 4 4, .int .i64 2, .int .i64 1, .int .u64 1].toArray 26)) (fiveL.flatMap cs59) 59
  rw [show (w.alloc (.cells [Value.slice (some ⟨w.heap.size + 1, 0, none⟩) 4 4, .int .i64 2, .int .i64 1, .int .u64 1].toArray 26)).heap.size = w.heap.size + 1 by simp] at h2
  have HC := Lib.hid (C_of_row h2 (by decide))
  have HB := Lib.hid (show Below w.heap.size w ((w.alloc (.cells [.slice (some ⟨w.heap.size + 1, 0, none⟩) 4 4, .int .i64 2, .int .i64 1, .int .u64 1].toArray 26)).alloc (.cells (fiveL.flatMap cs59).toArray 59)) from ((Below.refl _ _).alloc (Nat.le_refl _) _).alloc (by simp) _)
  obtain ⟨W2, hW2⟩ : ∃ W2, W2 = (w.alloc (.cells [.slice (some ⟨w.heap.size + 1, 0, none⟩) 4 4, .int .i64 2, .int .i64 1, .int .u64 1].toArray 26)).alloc (.cells (fiveL.flatMap cs59).toArray 59) := ⟨_, rfl⟩
  rw [← hW2] at d0 d1 d2 d3 HC HB
  have HW2 := Lib.hid hW2
  clear hW2 h0 h1 h2
  go_enter Try.func32, Try.ntmps32
  go_wp2_with fail
  have e2 : (w.alloc (.cells #[.slice (some ⟨w.heap.size + 1, 0, none⟩) 4 4, .int .i64 2, .int .i64 1, .int .u64 1] 26)).alloc (.cells #[.int .u8 1, .int .i64 0, .int .i64 0, .int .u8 0, .int .u8 2, .int .i64 1, .int .i64 0, .int .u8 0, .int .u8 3, .int .i64 0, .int .i64 1, .int .u8 5, .int .u8 4, .int .i64 0, .int .i64 0, .int .u8 0] 59) = W2 := HW2.out.symm
  rw [e2]
  simp only [List.getElem?_cons_zero, List.getElem?_cons_succ] at d0 d1 d2 d3
  refine bodyPost_ret (v := progV (some ⟨w.heap.size + 1, 0, none⟩) 4 4 2 1 1) (by simp [progV, results, Try.results32, go_sem, d0, d1, d2, d3]) rfl ?_
  exact ⟨_, 4, rfl, HC.out, by decide, HB.out⟩
end Go.Proofs.Ythbjcafldbocpaa
namespace Go.Proofs.Ythbjcafldbocpaa
open Go.RowKit Go.Proofs.YthbjcafldbocpaaW.PrintWords Go.Proofs.Ythbjcafldbocpaa.P0
set_option linter.unusedVariables false
set_option linter.unusedSimpArgs false
theorem five_makes {w : World} {A : Option Addr} {c : Nat} (hC : Kd.C k59 w A fiveL.length fiveL) (hc : fiveL.length ≤ c) :
    Calls Try.prog 13 #[progV A fiveL.length c 2 1 1, .int .i64 2] w fun e w' => MatE w' w.heap.size 1 2 [5, 0] 0 e ∧ Below w.heap.size w w' :=
  makes_yes hC hc five_bytes (by decide) (by decide) (by decide) (by decide) five_may ⟨[some [5, 0], some [1, 0]], [some [5, 0]], 1⟩ 4 five_run
set_option maxRecDepth 100000 in
set_option maxHeartbeats 1600000 in
theorem anchored25_calls (w : World) : Calls Try.prog 12 #[] w fun e w' => e = .returned (.bool true) ∧ Below w.heap.size w w' := by
  go_enter Try.func12, Try.ntmps12
  go_wp2_with fail
  refine (five_calls w).mono ?_
  rintro e w1 ⟨A, c, rfl, hC, hc, hb1⟩
  go_wp2_with fail
  refine (five_makes hC hc).mono ?_
  rintro e w2 ⟨⟨v, b, hbb, rfl, ho⟩, hb2⟩
  obtain ⟨Av, cv, rfl, hox⟩ := ho.slice
  have ho3 : OwnB w2 b Av 2 cv [5, 0] := hox
  have HB2 := Lib.hid (hb1.trans (hb2.mono hb1.size))
  have HO := Lib.hid ho3
  clear hC hc hb1 hb2 ho hox ho3
  go_wp2_with fail
  have hrow := Row.new w2 [.int .i64 1, .int .i64 2, .slice Av 2 cv] 37
  have hB3 : Below w2.heap.size w2 (w2.alloc (.cells [Value.int .i64 1, .int .i64 2, .slice Av 2 cv].toArray 37)) := (Below.refl _ _).alloc (Nat.le_refl _) _
  obtain ⟨w3, hw3⟩ : ∃ w3, w3 = w2.alloc (.cells [Value.int .i64 1, .int .i64 2, .slice Av 2 cv].toArray 37) := ⟨_, rfl⟩
  rw [← hw3] at hrow hB3
  rw [show w2.alloc (.cells #[Value.int .i64 1, .int .i64 2, .slice Av 2 cv] 37) = w3 from hw3.symm]
  clear hw3
  refine (five_calls w3).mono ?_
  rintro e w4 ⟨A4, c4, rfl, hC4, hc4, hb4⟩
  go_wp2_with fail
  have hck := check_calls (r := 2) (o := 1) (q := 1) (n := 2) hC4 hc4 five_bytes (by decide) (by decide)
  rw [five_check] at hck
  refine hck.mono ?_
  rintro e w5 ⟨rfl, hb5⟩
  have hb35 : Below w3.heap.size w3 w5 := hb4.trans (hb5.mono hb4.size)
  have hr5 := hrow.below hb35 hrow.lt
  obtain ⟨m0, m1, m2, _, _, _⟩ := hr5.three
  have hb25 : Below w2.heap.size w2 w5 := hB3.trans (hb35.mono hB3.size)
  have rd5 : Rd w5 w5.heap.size Av 2 (bVs [5, 0]) := HO.out.rd.go hb25
  have hn : Row (w5.alloc (.cells #[.int .u8 5, .int .u8 0] 5)) w5.heap.size 5 (bVs [5, 0]) := Row.new w5 _ _
  have rb : Rd (w5.alloc (.cells #[.int .u8 5, .int .u8 0] 5)) _ (some ⟨w5.heap.size, 0, none⟩) 2 (bVs [5, 0]) := (RdT.of_row hn).rd
  have ra : Rd (w5.alloc (.cells #[.int .u8 5, .int .u8 0] 5)) _ Av 2 (bVs [5, 0]) := rd5.go ((Below.refl _ _).alloc (Nat.le_refl _) _)
  have HR := Lib.hid ra
  have HRB := Lib.hid rb
  have HBF := Lib.hid (show Below w.heap.size w (w5.alloc (.cells #[.int .u8 5, .int .u8 0] 5)) from (HB2.out.trans (hb25.mono HB2.out.size)).alloc (Nat.le_trans HB2.out.size hb25.size) _)
  clear hC4 hc4 hb4 hck hb5 hb35 hr5 hb25 rd5 hn rb ra hrow hB3
  go_wp2_with fail
  refine (like_self 1 2 Av 2 cv (some ⟨w5.heap.size, 0, none⟩) 2 2 [5, 0] _ HR.out HRB.out).mono ?_
  rintro e w6 ⟨rfl, hb6⟩
  go_wp2_with fail
  go_ret
  exact ⟨rfl, HBF.out.trans (hb6.mono HBF.out.size)⟩
end Go.Proofs.Ythbjcafldbocpaa
namespace Go.Proofs.Ythbjcafldbocpaa
open Go.RowKit Go.Proofs.YthbjcafldbocpaaW.PrintWords Go.Proofs.Ythbjcafldbocpaa.P0
set_option linter.unusedVariables false
set_option linter.unusedSimpArgs false
theorem makes_shape {l : List S59} {r o q n : Int} (h : (makesV l r o q n).2.2.2 = 0) :
    ∃ (st : VS) (no m i : Nat), o = no ∧ n = m ∧ no ≤ 64 ∧ m ≤ 64 ∧ makesV l r o q n = (o, n, outsD st.outs, 0) ∧ (∀ x ∈ st.outs, ∃ y, x = some y ∧ y.length = m) ∧ st.outs.length = no ∧ mayB l r o = true ∧ vAll r.toNat o.toNat q.toNat n.toNat (l.map psOf) = (i, some st) := by
  by_cases hh : n < 0 ∨ 64 < n ∨ mayB l r o = false
  · have e : makesV l r o q n = (0, 0, [], 2) := by unfold makesV; exact if_pos hh
    rw [e] at h
    exact absurd h (by decide)
  · have h' : mayB l r o = true := by
      cases hm : mayB l r o
      · exact absurd (.inr (.inr hm)) hh
      · rfl
    have ho0 : 0 ≤ o ∧ o ≤ 64 := by
      have hm := h'
      unfold mayB at hm
      rw [Bool.and_eq_true, decide_eq_true_eq] at hm
      omega
    have hn0 : 0 ≤ n ∧ n ≤ 64 := by omega
    cases hv : vAll r.toNat o.toNat q.toNat n.toNat (l.map psOf) with
    | mk i st =>
      cases st with
      | none =>
        have e : makesV l r o q n = (0, 0, [], 250) := by unfold makesV; rw [if_neg hh, hv]
        rw [e] at h
        exact absurd h (by decide)
      | some st =>
        have hok : st.Ok r.toNat o.toNat n.toNat := vAll_ok hv
        exact ⟨st, o.toNat, n.toNat, i, (Int.toNat_of_nonneg ho0.1).symm, (Int.toNat_of_nonneg hn0.1).symm, by omega, by omega, by unfold makesV; rw [if_neg hh, hv], outs_all hok (vAll_some hv).1, hok.lo, h', rfl⟩
theorem outsD_length {m : Nat} : ∀ (sa : List (Option (List UInt8))), (∀ o ∈ sa, ∃ x, o = some x ∧ x.length = m) → (outsD sa).length = sa.length * m
  | [], _ => by simp [outsD]
  | a :: sa, ha => by
    obtain ⟨x, rfl, lx⟩ := ha a (by simp)
    have ih := outsD_length sa (fun o h => ha o (by simp [h]))
    show (x ++ outsD sa).length = _
    rw [List.length_append, ih, lx, List.length_cons, Nat.add_mul, Nat.one_mul, Nat.add_comm]
end Go.Proofs.Ythbjcafldbocpaa
namespace Go.Proofs.Ythbjcafldbocpaa
open Go.RowKit Go.Proofs.YthbjcafldbocpaaW.PrintWords Go.Proofs.Ythbjcafldbocpaa.P0
set_option linter.unusedVariables false
set_option linter.unusedSimpArgs false
theorem pu_apply25 {n k : Nat} {xs ys : List UInt8} (hn : n ≤ 64) (hk : k ≤ 64) (hx : xs.length = n * k) (hy : ys.length = k) : Ev (fun r => recoupref03_Apply.f r (n : Int) (k : Int) (nI xs) (nI ys)) (nI (mulG n k 1 xs ys), (0 : Int)) := by
  have hrb : rightB (n : Int) (k : Int) xs.length = true := by rw [hx]; simp [rightB]; omega
  have hr : recoupref03_Right.f (n : Int) (k : Int) (nI xs) = some true := by rw [pu_right, nI_length, hrb]
  have hm : mulB (n : Int) (k : Int) xs.length (k : Int) 1 ys.length = true := by
    unfold mulB
    rw [hrb, hy]
    simp [rightB]
    omega
  have h := pu_mul (n : Int) (k : Int) (k : Int) 1 xs ys
  rw [if_pos hm] at h
  refine Ev.congr (f := fun r => (recoupref03_Mul.f r (n : Int) (k : Int) (nI xs) (k : Int) 1 (nI ys)).bind fun bt => (some (bt.2.2.1, bt.2.2.2))) (fun r => ?_) (Ev.bind h (Ev.now _))
  unfold recoupref03_Apply.f
  rw [hr, Option.bind_some, if_pos rfl, if_pos (by rw [nI_length, hy])]
theorem rapply3_calls {w : World} {A B : Option Addr} {p kp m kb n k : Nat} {xs ys : List UInt8} (hn : n ≤ 64) (hk : k ≤ 64) (hx : xs.length = n * k) (hy : ys.length = k) (rx : Rd w w.heap.size A p (bVs xs)) (lx : p ≤ kp) (ry : Rd w w.heap.size B m (bVs ys)) (ly : m ≤ kb) :
    Calls Try.prog 29 #[mV (n : Int) (k : Int) A p kp, .slice B m kb] w fun e w' => ∃ A' c', e = .returned (.tuple #[.slice A' n c', .int .i64 0]) ∧ OwnB w' w.heap.size A' n c' (mulG n k 1 xs ys) ∧ Below w.heap.size w w' := by
  obtain rfl : xs.length = p := by have := rx.len; rw [bVs_length] at this; exact this
  obtain rfl : ys.length = m := by have := ry.len; rw [bVs_length] at this; exact this
  have h1 : xs.length ≤ 64 * 64 := by rw [hx]; exact Nat.mul_le_mul hn hk
  obtain ⟨r, h⟩ := (pu_apply25 hn hk hx hy).rounds
  have hc := recoupref03_Apply.calls r (n : Int) (k : Int) A kp (nI xs) B kb (nI ys) _ _ w (C_of_rd rx (by omega)) (by rw [nI_length]; exact lx) (C_of_rd ry (by omega)) (by rw [nI_length]; exact ly) h
  rw [nI_length, nI_length] at hc
  refine hc.mono ?_
  rintro e w' ⟨v, rfl, hv, hb⟩
  obtain ⟨A', c', rfl, hc', ho⟩ := own_of_R hv (inU_nI _)
  rw [nI_toU] at ho
  have hlen : (mulG n k 1 xs ys).length = n := by
    have := grid_length n 1 (mulF k 1 xs ys)
    unfold mulG
    omega
  rw [nI_length, hlen] at ho
  rw [nI_length, hlen]
  exact ⟨A', c', rfl, ho, hb⟩
def singles (y : List UInt8) : List (List UInt8) := y.map fun b => [b]
theorem singles_length (y : List UInt8) : (singles y).length = y.length := by simp [singles]
theorem singles_get (y : List UInt8) {j : Nat} (hj : j < y.length) : (singles y).getD j [] = [y.getD j 0] := by
  simp [singles, List.getD_eq_getElem?_getD, hj]
theorem singles_rect {y : List UInt8} : ∀ i, i < y.length → ((singles y).getD i []).length = 1 := fun i hi => by rw [singles_get y hi]; rfl
theorem comb_single {n : Nat} {y x : List UInt8} (hy : y.length = n) : combR n 1 (singles y) x = [sumF n fun j => Gf.mul (x.getD j 0) (y.getD j 0)] := by
  unfold combR
  rw [List.range_one, List.map_singleton]
  congr 1
  exact sumF_congr fun j hj => by rw [singles_get y (by omega)]; rfl
theorem mul1_get {n k : Nat} {xs ys : List UInt8} {i : Nat} (hi : i < n) : (mulG n k 1 xs ys).getD i 0 = sumF k fun j => Gf.mul (xs.getD (i * k + j) 0) (ys.getD j 0) := by
  have h := grid_getD (mulF k 1 xs ys) hi (show 0 < 1 by omega)
  rw [Nat.mul_one, Nat.add_zero] at h
  unfold mulG
  rw [h]
  unfold mulF
  exact sumF_congr fun j hj => by rw [Nat.mul_one, Nat.add_zero]
theorem mul1_length {n k : Nat} {xs ys : List UInt8} : (mulG n k 1 xs ys).length = n := by
  have := grid_length n 1 (mulF k 1 xs ys)
  unfold mulG
  omega
theorem apply_single {no n : Nat} {y D : List UInt8} (hy : y.length = n) (hD : D.length = no * n) : applyL no n 1 (singles y) D = singles (mulG no n 1 D y) := by
  apply List.ext_getElem (by simp [applyL, singles, mul1_length])
  intro i h1 h2
  have hi : i < no := by simpa [applyL] using h1
  have h3 : (mulG no n 1 D y)[i]'(by rw [mul1_length]; exact hi) = sumF n fun j => Gf.mul (D.getD (i * n + j) 0) (y.getD j 0) := by
    rw [← mul1_get hi, List.getD_eq_getElem?_getD, List.getElem?_eq_getElem (by rw [mul1_length]; exact hi)]
    rfl
  have h4 : (singles (mulG no n 1 D y))[i] = [(mulG no n 1 D y)[i]'(by rw [mul1_length]; exact hi)] := by simp [singles]
  have h5 : (applyL no n 1 (singles y) D)[i] = combR n 1 (singles y) (rowOf n D i) := by simp [applyL]
  rw [h4, h5, comb_single hy, h3]
  congr 1
  exact sumF_congr fun j hj => by rw [rowOf_get hD hi hj]
theorem mul_groups {a b c d : Nat} {xs ys zs : List UInt8} : mulG a c d (mulG a b c xs ys) zs = mulG a b d xs (mulG b c d ys zs) := by
  refine grid_congr fun i j hi hj => ?_
  unfold mulF
  have h1 : ∀ k, k < c → (mulG a b c xs ys).getD (i * c + k) 0 = sumF b fun l => Gf.mul (xs.getD (i * b + l) 0) (ys.getD (l * c + k) 0) := fun k hk => grid_getD _ hi hk
  have h2 : ∀ l, l < b → (mulG b c d ys zs).getD (l * d + j) 0 = sumF c fun k => Gf.mul (ys.getD (l * c + k) 0) (zs.getD (k * d + j) 0) := fun l hl => grid_getD _ hl hj
  rw [sumF_congr (fun k hk => by rw [h1 k hk, sumF_mul_right]), sumF_congr (n := b) (fun l hl => by rw [h2 l hl, sumF_mul]), sumF_swap]
  exact sumF_congr fun l _ => sumF_congr fun k _ => Gf.mul_assoc _ _ _
theorem like_turned {r c : Int} {xs : List UInt8} (hx : 0 < xs.length) : likeB r c xs r c (xs.set 0 (xs.getD 0 0 ^^^ 1)) = false := by
  unfold likeB sameB
  have : (xs == xs.set 0 (xs.getD 0 0 ^^^ 1)) = false := by
    rw [beq_eq_false_iff_ne]
    intro h
    have h2 : xs.getD 0 0 = (xs.set 0 (xs.getD 0 0 ^^^ 1)).getD 0 0 := congrArg (fun l : List UInt8 => l.getD 0 0) h
    rw [getD_set_same xs 0 _ hx] at h2
    have h3 : xs.getD 0 0 ^^^ xs.getD 0 0 = xs.getD 0 0 ^^^ (xs.getD 0 0 ^^^ 1) := congrArg (fun b : UInt8 => xs.getD 0 0 ^^^ b) h2
    rw [← UInt8.xor_assoc, UInt8.xor_self, UInt8.zero_xor] at h3
    exact absurd h3 (by decide)
  rw [this]
  simp
end Go.Proofs.Ythbjcafldbocpaa
namespace Go.Proofs.Ythbjcafldbocpaa
open Go.RowKit Go.Proofs.YthbjcafldbocpaaW.PrintWords Go.Proofs.Ythbjcafldbocpaa.P0
set_option linter.unusedVariables false
set_option linter.unusedSimpArgs false
end Go.Proofs.Ythbjcafldbocpaa
namespace Go.Proofs.Ythbjcafldbocpaa
open Go.RowKit Go.Proofs.YthbjcafldbocpaaW.PrintWords Go.Proofs.Ythbjcafldbocpaa.P0
set_option linter.unusedVariables false
set_option linter.unusedSimpArgs false
theorem fr_no {T : Int} {nr : Nat} {rs : List (Option (List UInt8))} (h : false = (decide (0 ≤ T ∧ T < nr) && (rs.getD T.toNat none).isSome)) (a : 0 ≤ T) (b : T < nr) : rs.getD T.toNat none = none := by
  rw [decide_eq_true ⟨a, b⟩, Bool.true_and] at h
  cases hh : rs.getD T.toNat none with
  | none => rfl
  | some x => rw [hh] at h; cases h
set_option maxHeartbeats 4000000 in
set_option maxRecDepth 100000 in
theorem run23_calls {w : World} {A AB : Option Addr} {c cB : Nat} {l : List S59} {r o q : Int} {L : List (List UInt8)} (hst : StepsZ w w.heap.size A l) (hB : RdL w w.heap.size AB L) (hL : L.length ≤ 140737488351232) (hLr : ∀ b ∈ L, b.length ≤ 140737488351232) :
    Calls Try.prog 14 #[.agg #[.slice A l.length c, .int .i64 r, .int .i64 o, .int .u64 q], .slice AB L.length cB] w (RunR w l r o L) := by
  have S := (Cx.start w).box 26 [.slice A l.length c, .int .i64 r, .int .i64 o, .int .u64 q]
  go_enter Try.func14, Try.ntmps14
  go_wp2_with fail
  simp only [List.toArray] at S
  generalize hw1 : w.alloc (.cells #[.slice A l.length c, .int .i64 r, .int .i64 o, .int .u64 q] 26) = w1 at *
  have HS := Lib.hid S
  have HB := Lib.hid (hB.go S.below)
  have HST := Lib.hid (hst.below S.below)
  have HB0 := Lib.hid hB
  have HST0 := Lib.hid hst
  have HLR := Lib.hid hLr
  clear S hw1 hB hst hLr
  go_loopw [6, 7] (fun v6 v7 wr => wr = w1 ∧ ∃ j sz : Nat, j ≤ L.length ∧ v6 = .int .i64 (sz : Int) ∧ v7 = .int .i64 (j : Int) ∧ (0 < j → sz = sizeL L) ∧ (j = 0 → sz = 0) ∧ ∀ i, i < j → (L.getD i []).length = sizeL L) (fun v6 v7 _ => L.length - (intOf v7).toNat)
  case atStart => exact ⟨rfl, 0, 0, by omega, rfl, rfl, fun h => absurd h (by omega), fun _ => rfl, fun i h => absurd h (by omega)⟩
  case round =>
    obtain ⟨rfl, j, sz, hj, rfl, rfl, hs1, hs0, hall⟩ := hrel
    have HA := Lib.hid hall
    have HS1 := Lib.hid hs1
    have HS0 := Lib.hid hs0
    clear hall hs1 hs0
    by_cases hlt : j < L.length
    · obtain ⟨g, ob, A0, c0, rfl, hg, hc0, hle0, hm0, hr0⟩ := HB.out 0 (by omega)
      obtain ⟨g', ob', Aj, cj, e2, hg', hcj, hlej, hmj, hrj⟩ := HB.out j hlt
      simp only [Option.some.injEq, Addr.mk.injEq, and_true] at e2
      obtain ⟨rfl, rfl⟩ := e2
      have k0 : wr.cell? ⟨g, ob, none⟩ = some (.slice A0 (L.getD 0 []).length c0) := hc0
      have i0 : (0 : Int) ≤ (j : Int) := by omega
      have i1 : (j : Int) < (L.length : Int) := by omega
      have i2 : (0 : Int) < (L.length : Int) := by omega
      have HR0 := Lib.hid hr0
      have HRJ := Lib.hid hrj
      obtain ⟨s0, hs0⟩ : ∃ s0, s0 = (L.getD 0 []).length := ⟨_, rfl⟩
      obtain ⟨sj, hsj⟩ : ∃ sj, sj = (L.getD j []).length := ⟨_, rfl⟩
      rw [← hs0] at k0
      rw [← hsj] at hcj
      have HSZ0 := Lib.hid hs0
      have HSZJ := Lib.hid hsj
      clear hr0 hrj hs0 hsj hc0 hle0 hlej hm0 hmj hg hg'
      by_cases hq : sj = s0
      · have e1 : ((sj : Int) != (s0 : Int)) = false := by simp [hq]
        go_wp2_with fail
        go_roundw
        case rel => exact ⟨by first | trivial | rfl, j + 1, s0, by omega, rfl, by go_num, fun _ => HSZ0.out, fun h => absurd h (by omega), fun i hi => by
          rcases Nat.lt_or_ge i j with h | h
          · exact HA.out i h
          · obtain rfl : i = j := by omega
            rw [← HSZJ.out, hq, HSZ0.out]; rfl⟩
        case measure => simp [intOf]; omega
      · have e1 : ((sj : Int) != (s0 : Int)) = true := by simp; omega
        have HNR := Lib.hid (show ¬ Rect L from fun h => hq (by rw [HSZJ.out, HSZ0.out]; exact h j hlt))
        go_wp2_with fail
        go_ret2
        exact ⟨HS.out.below, fun _ => rfl, fun h => absurd h HNR.out, fun h => absurd h HNR.out, fun h => absurd h HNR.out⟩
    · obtain rfl : j = L.length := by omega
      have HR := Lib.hid (show Rect L from HA.out)
      have HSZ := Lib.hid (show sz = sizeL L by
        rcases Nat.eq_zero_or_pos L.length with h | h
        · rw [HS0.out h]; unfold sizeL; rw [List.length_eq_zero_iff.1 h]; rfl
        · exact HS1.out h)
      clear HA HS1 HS0
      obtain ⟨p0, p1, p2, p3⟩ := HS.out.cells4 0 rfl
      by_cases hlim : LimB l r o
      · have HLIM := Lib.hid hlim
        obtain ⟨nr, rfl⟩ : ∃ nr : Nat, r = (nr : Int) := ⟨r.toNat, (Int.toNat_of_nonneg hlim.1).symm⟩
        obtain ⟨no, rfl⟩ : ∃ no : Nat, o = (no : Int) := ⟨o.toNat, (Int.toNat_of_nonneg hlim.2.2.1).symm⟩
        obtain ⟨_, r2, _, o2, l2⟩ := hlim
        have d1 : decide ((nr : Int) < 0) = false := decide_eq_false (by omega)
        have d2 : decide ((256 : Int) < (nr : Int)) = false := decide_eq_false (by omega)
        have d3 : decide ((no : Int) < 0) = false := decide_eq_false (by omega)
        have d4 : decide ((64 : Int) < (no : Int)) = false := decide_eq_false (by omega)
        have d5 : decide ((65536 : Int) < (l.length : Int)) = false := decide_eq_false (by omega)
        have hm1 := fun w => make_nils nr (by omega) w
        have hm2 := fun w => make_bools nr (by omega) w
        have hm3 := fun w => make_nils no (by omega) w
        have hm4 := fun w => make_bools no (by omega) w
        obtain ⟨L1, hL1⟩ : ∃ L1, L1 = List.replicate nr (Value.slice none 0 0) := ⟨_, rfl⟩
        obtain ⟨L2, hL2⟩ : ∃ L2, L2 = bolVs (somes (List.replicate nr none)) := ⟨_, rfl⟩
        obtain ⟨L3, hL3⟩ : ∃ L3, L3 = List.replicate no (Value.slice none 0 0) := ⟨_, rfl⟩
        obtain ⟨L4, hL4⟩ : ∃ L4, L4 = bolVs (somes (List.replicate no none)) := ⟨_, rfl⟩
        rw [← hL1] at hm1
        rw [← hL2] at hm2
        rw [← hL3] at hm3
        rw [← hL4] at hm4
        have x1 := ((HS.out.box 35 L1).cells4 1 rfl).2.1
        have x2 := (((HS.out.box 35 L1).box 4 L2).cells4 2 rfl).2.2.1
        have x3 := ((((HS.out.box 35 L1).box 4 L2).box 35 L3).cells4 3 rfl).2.2.1
        have S1 := (((HS.out.box 35 L1).box 4 L2).box 35 L3).box 4 L4
        simp only [World.size_alloc] at S1
        have HS1 := Lib.hid S1
        have HL1 := Lib.hid hL1
        have HL2 := Lib.hid hL2
        have HL3 := Lib.hid hL3
        have HL4 := Lib.hid hL4
        clear hL1 hL2 hL3 hL4 S1
        go_wp2_with fail
        generalize hW4 : (((wr.alloc (Obj.cells L1.toArray 35)).alloc (Obj.cells L2.toArray 4)).alloc (Obj.cells L3.toArray 35)).alloc (Obj.cells L4.toArray 4) = W4 at *
        obtain ⟨ga, hga⟩ : ∃ ga, ga = wr.heap.size := ⟨_, rfl⟩
        have eg : wr.heap.size + 1 = ga + 1 ∧ wr.heap.size + 1 + 1 = ga + 2 ∧ wr.heap.size + 1 + 1 + 1 = ga + 3 := by omega
        have HGA := Lib.hid (show w.heap.size < ga by rw [hga]; exact HS.out.lt 0 rfl)
        have b1 := HS1.out.row 3 rfl
        have b2 := HS1.out.row 2 rfl
        have b3 := HS1.out.row 1 rfl
        have b4 := HS1.out.row 0 rfl
        rw [HL1.out] at b1
        rw [HL2.out] at b2
        rw [HL3.out] at b3
        rw [HL4.out] at b4
        have B1 : Bank W4 ga (ga + 1) (List.replicate nr none) := ⟨⟨_, by rw [hga]; exact b1, valsR_nil _ _ _⟩, by rw [← eg.1]; exact b2⟩
        have B2 : Bank W4 (ga + 2) (ga + 3) (List.replicate no none) := ⟨⟨_, by rw [← eg.2.1]; exact b3, valsR_nil _ _ _⟩, by rw [← eg.2.2]; exact b4⟩
        have HB1 := Lib.hid B1
        have HB2 := Lib.hid B2
        have HP4 := Lib.hid (HS1.out.row 4 rfl)
        have HQ4 := Lib.hid HS1.out.below
        have HSZ4 := Lib.hid (show ga + 4 ≤ W4.heap.size by rw [← hW4, hga]; simp)
        rw [← hga, show ga + 1 + 1 + 1 = ga + 3 from rfl, show ga + 1 + 1 = ga + 2 from rfl]
        clear B1 B2 b1 b2 b3 b4 x1 x2 x3 hm1 hm2 hm3 hm4 p0 p1 p2 p3 HS1 HL1 HL2 HL3 HL4 hW4 eg hga HS HB HST
        have HR0 := Lib.hid (show RSt w W4 ga nr no sz w.heap.size 26 [.slice A l.length c, .int .i64 (nr : Int), .int .i64 (no : Int), .int .u64 q] ⟨List.replicate nr none, List.replicate no none, 0⟩ from ⟨rs0_ok nr no sz, HB1.out, HB2.out, HQ4.out, HP4.out, HSZ4.out, Nat.le_of_lt HGA.out, .inl HGA.out⟩)
        have HSB := Lib.hid (show sz ≤ 140737488351232 by
          rw [HSZ.out]
          unfold sizeL
          rcases Nat.eq_zero_or_pos L.length with h | h
          · rw [List.length_eq_zero_iff.1 h]; exact Nat.zero_le _
          · rw [List.getD_eq_getElem?_getD, List.getElem?_eq_getElem h]; exact HLR.out _ (List.getElem_mem h))
        have hmk := make_bytes sz (by have := HSB.out; omega)
        clear HB1 HB2 HP4 HQ4 HSZ4
        go_loopw [12] (fun v12 wr => ∃ (i : Nat) (st : VS), i ≤ l.length ∧ v12 = .int .i64 (i : Int) ∧ rRun nr no sz L l ⟨List.replicate nr none, List.replicate no none, 0⟩ = rRun nr no sz L (l.drop i) st ∧ RSt w wr ga nr no sz w.heap.size 26 [.slice A l.length c, .int .i64 (nr : Int), .int .i64 (no : Int), .int .u64 q] st) (fun v12 _ => l.length - (intOf v12).toNat)
        case atStart => exact ⟨0, _, by omega, rfl, rfl, HR0.out⟩
        case round =>
          clear HR0
          obtain ⟨i, st, hi, rfl, hv, hR⟩ := hrel
          have p0 : wr.cell? ⟨w.heap.size, 0, none⟩ = some (.slice A l.length c) := hR.hp.cell 0
          have HV := Lib.hid hv
          by_cases hlt : i < l.length
          · obtain ⟨g, oo, rfl, hg, hc⟩ := (HST0.out.below hR.hq) (by omega)
            obtain ⟨s, hs⟩ : ∃ s, l[i]? = some s := ⟨l[i], List.getElem?_eq_getElem hlt⟩
            obtain ⟨s0, s1, s2, s3⟩ := hc i s hs
            have HSI := Lib.hid (rRun_at (nr := nr) (no := no) (n := sz) (B := L) hs st)
            have i0 : (0 : Int) ≤ (i : Int) := by omega
            have i1 : (i : Int) < (l.length : Int) := by omega
            obtain ⟨kk, D, T, C0⟩ := s
            simp only at s0 s1 s2 s3
            obtain ⟨C, hC⟩ : ∃ C, C = toU C0 := ⟨_, rfl⟩
            rw [← hC] at s3
            have HCC := Lib.hid hC
            have hn5 := Row.new wr [.int .u8 kk, .int .i64 D, .int .i64 T, .int .u8 (C.toNat : Int)] 59
            have q5 : Below wr.heap.size wr (wr.alloc (.cells [Value.int .u8 kk, .int .i64 D, .int .i64 T, .int .u8 (C.toNat : Int)].toArray 59)) := (Below.refl _ _).alloc (Nat.le_refl _) _
            have R5 := hR.below q5
            have HGL0 := Lib.hid hR.hz
            clear hC hv hR hc hs q5
            go_upto_region 18 with fail
            obtain ⟨G, hG⟩ : ∃ G, G = wr.heap.size := ⟨_, rfl⟩
            obtain ⟨W5, hW5⟩ : ∃ W5, W5 = wr.alloc (.cells [Value.int .u8 kk, .int .i64 D, .int .i64 T, .int .u8 (C.toNat : Int)].toArray 59) := ⟨_, rfl⟩
            rw [← hW5] at hn5 R5
            rw [← hG] at hn5
            have eW : wr.alloc (.cells #[Value.int .u8 kk, .int .i64 D, .int .i64 T, .int .u8 (C.toNat : Int)] 59) = W5 := hW5.symm
            rw [eW, ← hG]
            have HGL := Lib.hid (show ga + 4 ≤ G by rw [hG]; exact HGL0.out)
            clear eW hW5 hG s0 s1 s2 s3 p0 HGL0
            have b0 : W5.cell? ⟨G, 0, none⟩ = some (.int .u8 kk) := hn5.cell 0
            have b1 : W5.cell? ⟨G, 1, none⟩ = some (.int .i64 D) := hn5.cell 1
            have b2 : W5.cell? ⟨G, 2, none⟩ = some (.int .i64 T) := hn5.cell 2
            have b3 : W5.cell? ⟨G, 3, none⟩ = some (.int .u8 (C.toNat : Int)) := hn5.cell 3
            have p1 : W5.cell? ⟨w.heap.size, 1, none⟩ = some (.int .i64 (nr : Int)) := R5.hp.cell 1
            have p2 : W5.cell? ⟨w.heap.size, 2, none⟩ = some (.int .i64 (no : Int)) := R5.hp.cell 2
            have HR5 := Lib.hid R5
            have HN5 := Lib.hid hn5
            clear R5 hn5
            obtain ⟨fr, hfr⟩ : ∃ fr, fr = (decide (0 ≤ T ∧ T < nr) && (st.regs.getD T.toNat none).isSome) := ⟨_, rfl⟩
            obtain ⟨tq, hto⟩ : ∃ tq, tq = decide (0 ≤ D ∧ D < nr) := ⟨_, rfl⟩
            have HFR := Lib.hid hfr
            have HTO := Lib.hid hto
            clear hfr hto
            go_cut [14] from 82 to 98 (fun s14 wx => s14 = .bool fr ∧ wx = W5)
            case first =>
              by_cases t1 : 0 ≤ T
              · have e1 : decide (0 ≤ T) = true := decide_eq_true t1
                by_cases t2 : T < nr
                · have e2 : decide (T < (nr : Int)) = true := decide_eq_true t2
                  obtain ⟨t, rfl⟩ : ∃ t : Nat, T = (t : Int) := ⟨T.toNat, (Int.toNat_of_nonneg t1).symm⟩
                  have f0 := HR5.out.h1.flag (i := t) (by rw [HR5.out.ok.lr]; omega)
                  obtain ⟨fl, hfl⟩ : ∃ fl, fl = (st.regs.getD t none).isSome := ⟨_, rfl⟩
                  rw [← hfl] at f0
                  have HE := Lib.hid (show fl = fr by rw [HFR.out, hfl]; simp; omega)
                  clear hfl
                  cases fl <;> (go_wp2_with fail; go_meet; exact ⟨congrArg Value.bool HE.out, rfl⟩)
                · have e2 : decide (T < (nr : Int)) = false := decide_eq_false t2
                  have HE := Lib.hid (show false = fr by rw [HFR.out]; simp; omega)
                  go_wp2_with fail
                  go_meet
                  exact ⟨congrArg Value.bool HE.out, rfl⟩
              · have e1 : decide (0 ≤ T) = false := decide_eq_false t1
                have HE := Lib.hid (show false = fr by rw [HFR.out]; simp; omega)
                go_wp2_with fail
                go_meet
                exact ⟨congrArg Value.bool HE.out, rfl⟩
            case rest =>
              obtain ⟨rfl, hwc⟩ := hcut
              replace hwc := hwc.symm
              subst hwc
              go_upto_region 19 with fail
              go_cut [15] from 99 to 108 (fun s15 wx' => s15 = .bool tq ∧ wx' = W5)
              case first =>
                by_cases t1 : 0 ≤ D
                · have e1 : decide (0 ≤ D) = true := decide_eq_true t1
                  by_cases t2 : D < nr
                  · have e2 : decide (D < (nr : Int)) = true := decide_eq_true t2
                    have HE := Lib.hid (show true = tq by rw [HTO.out]; simp; omega)
                    go_wp2_with fail
                    go_meet
                    exact ⟨congrArg Value.bool HE.out, rfl⟩
                  · have e2 : decide (D < (nr : Int)) = false := decide_eq_false t2
                    have HE := Lib.hid (show false = tq by rw [HTO.out]; simp; omega)
                    go_wp2_with fail
                    go_meet
                    exact ⟨congrArg Value.bool HE.out, rfl⟩
                · have e1 : decide (0 ≤ D) = false := decide_eq_false t1
                  have HE := Lib.hid (show false = tq by rw [HTO.out]; simp; omega)
                  go_wp2_with fail
                  go_meet
                  exact ⟨congrArg Value.bool HE.out, rfl⟩
              case rest =>
                obtain ⟨rfl, hwc⟩ := hcut
                replace hwc := hwc.symm
                subst hwc
                have HNO := Lib.hid (show rStep nr no sz L st ⟨kk, D, T, C0⟩ = none → RunR w l (nr : Int) (no : Int) L (.returned (.tuple #[.slice none 0 0, .int .i64 2])) W5 from fun h => by
                  have hn : rAll nr no (sizeL L) L l = none := by
                    unfold rAll
                    rw [← HSZ.out, HV.out, HSI.out, h]
                    rfl
                  exact ⟨HR5.out.hq, fun h => absurd HR.out h, fun _ h => absurd HLIM.out h, fun _ _ _ => rfl, fun _ _ st' h' => by rw [Int.toNat_natCast, Int.toNat_natCast, hn] at h'; cases h'⟩)
                by_cases k1 : kk = 1
                · subst k1
                  cases tq with
                  | false =>
                    have HB9 := Lib.hid (HNO.out (by simp [rStep]; have := HTO.out; simp at this; omega))
                    go_wp2_with fail
                    go_ret2
                    exact HB9.out
                  | true =>
                    have hD : 0 ≤ D ∧ D < nr := by have := HTO.out.symm; simpa using this
                    obtain ⟨d, rfl⟩ : ∃ d : Nat, D = (d : Int) := ⟨D.toNat, (Int.toNat_of_nonneg hD.1).symm⟩
                    have j0 : (0 : Int) ≤ (d : Int) := hD.1
                    have j1 : (d : Int) < (nr : Int) := hD.2
                    have c9 := HR5.out.h1.any (i := d) (by rw [HR5.out.ok.lr]; omega)
                    obtain ⟨u9, c9⟩ := c9
                    have hlo := HR5.out.hz
                    have hb9 : Below W5.heap.size W5 (W5.alloc (.cells (madeCells #[.int .u8 0] sz) 5)) := (Below.refl _ _).alloc (Nat.le_refl _) _
                    have R9 := HR5.out.below hb9
                    have r9 := row_made_bytes W5 sz
                    have v9 : ValR (W5.alloc (.cells (madeCells #[.int .u8 0] sz) 5)) (.slice (some ⟨W5.heap.size, 0, none⟩) sz sz) (some (List.replicate sz 0)) := ⟨some ⟨W5.heap.size, 0, none⟩, sz, by simp, by simp, RdT.of_row r9⟩
                    have g9 : (W5.alloc (.cells (madeCells #[.int .u8 0] sz) 5)).cell? ⟨G, 1, none⟩ = some (.int .i64 (d : Int)) := cs_al b1 _
                    have e9 : (W5.alloc (.cells (madeCells #[.int .u8 0] sz) 5)).drew = (W5.alloc (.cells (madeCells #[.int .u8 0] sz) 5)).drew := rfl
                    have c9a : (W5.alloc (.cells (madeCells #[.int .u8 0] sz) 5)).drew.cell? ⟨ga, d, none⟩ = some u9 := cs_al c9 _
                    have f9a : (W5.alloc (.cells (madeCells #[.int .u8 0] sz) 5)).drew.frozen? ⟨ga, d, none⟩ = false := (R9.h1.frz d).1
                    have c9b : ((W5.alloc (.cells (madeCells #[.int .u8 0] sz) 5)).setCell ⟨ga, d, none⟩ (.slice (some ⟨W5.heap.size, 0, none⟩) sz sz)).drew.cell? ⟨ga + 1, d, none⟩ = some (.bool (st.regs.getD d none).isSome) := cs_st (R9.h1.flag (by rw [R9.ok.lr]; omega)) (by simp) _
                    have f9b : ((W5.alloc (.cells (madeCells #[.int .u8 0] sz) 5)).setCell ⟨ga, d, none⟩ (.slice (some ⟨W5.heap.size, 0, none⟩) sz sz)).drew.frozen? ⟨ga + 1, d, none⟩ = false := (R9.h1.hs.far (p := ⟨ga, d, none⟩) (by simp) (.slice (some ⟨W5.heap.size, 0, none⟩) sz sz)).frozen d
                    have hgg := HGL.out
                    have g9a := cs_st (p := ⟨ga, d, none⟩) g9 (by show ga ≠ G; omega) (.slice (some ⟨W5.heap.size, 0, none⟩) sz sz)
                    have g9b := cs_st (p := ⟨ga + 1, d, none⟩) g9a (by show ga + 1 ≠ G; omega) (.bool true)
                    have R6 := (R9.setReg d v9 (by simp)).drew
                    have hRv : rStep nr no sz L st ⟨1, (d : Int), T, C0⟩ = some { st with regs := st.regs.set d (some (List.replicate sz 0)) } := by simp [rStep]; omega
                    have HRV := Lib.hid hRv
                    have HR6 := Lib.hid R6
                    clear hD R6 hRv hb9 R9 r9 v9
                    go_wp2_with fail
                    refine wp_region_held_drew (S := fun x => x.cell? ⟨G, 1, none⟩ = some (.int .i64 (d : Int))) (by kernel_rfl) b1 (fun hHeld => ?_)
                    refine wpAnyH_take (i := 0) (v := ?_) rfl (by kernel_rfl) (by kernel_rfl) (by kernel_rfl) (fun _ _ _ h => h) (Or.inl ⟨by kernel_rfl, ?_⟩) (by assumption) ?_
                    rotate_left
                    · (intro w hSw; (try dsimp only at hSw); go_simp; (try with_reducible rfl))
                    try simp only [List.getElem_toArray, List.getElem_cons_succ, List.getElem_cons_zero, Act.put, List.setIfInBounds_toArray, List.set_cons_zero, List.set_cons_succ]
                    refine wpAnyH_take (i := 1) (v := ?_) rfl (by kernel_rfl) (by kernel_rfl) (by kernel_rfl) (fun _ _ _ h => h) (Or.inl ⟨by kernel_rfl, ?_⟩) (by assumption) ?_
                    rotate_left
                    · (intro w hSw; (try dsimp only at hSw); go_simp; (try with_reducible rfl))
                    try simp only [List.getElem_toArray, List.getElem_cons_succ, List.getElem_cons_zero, Act.put, List.setIfInBounds_toArray, List.set_cons_zero, List.set_cons_succ]
                    refine wpAnyH_take (i := 2) (v := ?_) rfl (by kernel_rfl) (by kernel_rfl) (by kernel_rfl) (fun _ _ _ h => h) (Or.inl ⟨by kernel_rfl, ?_⟩) (by assumption) ?_
                    rotate_left
                    · (intro w hSw; (try dsimp only at hSw); go_simp; (try with_reducible rfl))
                    try simp only [List.getElem_toArray, List.getElem_cons_succ, List.getElem_cons_zero, Act.put, List.setIfInBounds_toArray, List.set_cons_zero, List.set_cons_succ]
                    refine wpAnyH_take (i := 3) (v := ?_) rfl (by kernel_rfl) (by kernel_rfl) (by kernel_rfl) (fun _ _ _ h => h) (Or.inl ⟨by kernel_rfl, ?_⟩) (by assumption) ?_
                    rotate_left
                    · (intro w hSw; (try dsimp only at hSw); go_simp; (try with_reducible rfl))
                    try simp only [List.getElem_toArray, List.getElem_cons_succ, List.getElem_cons_zero, Act.put, List.setIfInBounds_toArray, List.set_cons_zero, List.set_cons_succ]
                    refine wpAnyH_take (i := 4) (v := ?_) rfl (by kernel_rfl) (by kernel_rfl) (by kernel_rfl) (fun _ _ _ h => h) (Or.inl ⟨by kernel_rfl, ?_⟩) (by assumption) ?_
                    rotate_left
                    · (intro w hSw; (try dsimp only at hSw); go_simp; (try with_reducible rfl))
                    try simp only [List.getElem_toArray, List.getElem_cons_succ, List.getElem_cons_zero, Act.put, List.setIfInBounds_toArray, List.set_cons_zero, List.set_cons_succ]
                    refine wpAnyH_take (i := 5) (v := ?_) rfl (by kernel_rfl) (by kernel_rfl) (by kernel_rfl) (fun _ _ _ h => h) (Or.inl ⟨by kernel_rfl, ?_⟩) (by assumption) ?_
                    rotate_left
                    · (intro w hSw; (try dsimp only at hSw); go_simp; (try with_reducible rfl))
                    try simp only [List.getElem_toArray, List.getElem_cons_succ, List.getElem_cons_zero, Act.put, List.setIfInBounds_toArray, List.set_cons_zero, List.set_cons_succ]
                    refine wpAnyH_take (i := 6) (v := ?_) rfl (by kernel_rfl) (by kernel_rfl) (by kernel_rfl) (fun _ _ _ h => h) (Or.inl ⟨by kernel_rfl, ?_⟩) (by assumption) ?_
                    rotate_left
                    · (intro w hSw; (try dsimp only at hSw); go_simp; (try with_reducible rfl))
                    try simp only [List.getElem_toArray, List.getElem_cons_succ, List.getElem_cons_zero, Act.put, List.setIfInBounds_toArray, List.set_cons_zero, List.set_cons_succ]
                    refine wpAnyH_ready (rs := [7]) (by kernel_rfl) (by simp) ?_
                    refine AllReadyH.cons rfl (fun K hK => ?_) AllReadyH.nil
                    go_simp
                    refine hK.out _ _ g9 (fun hHeld => ?_)
                    clear hK K
                    try simp only [List.getElem_toArray, List.getElem_cons_succ, List.getElem_cons_zero, Act.put, List.setIfInBounds_toArray, List.set_cons_zero, List.set_cons_succ]
                    refine wpAnyH_take (i := 8) (v := ?_) rfl (by kernel_rfl) (by kernel_rfl) (by kernel_rfl) (fun _ _ _ h => h) (Or.inl ⟨by kernel_rfl, ?_⟩) (by assumption) ?_
                    rotate_left
                    · (intro w hSw; (try dsimp only at hSw); go_simp; (try with_reducible rfl))
                    try simp only [List.getElem_toArray, List.getElem_cons_succ, List.getElem_cons_zero, Act.put, List.setIfInBounds_toArray, List.set_cons_zero, List.set_cons_succ]
                    refine wpAnyH_ready (rs := [9]) (by kernel_rfl) (by simp) ?_
                    refine AllReadyH.cons rfl (fun K hK => ?_) AllReadyH.nil
                    go_simp
                    refine hK.out _ _ g9a (fun hHeld => ?_)
                    clear hK K
                    try simp only [List.getElem_toArray, List.getElem_cons_succ, List.getElem_cons_zero, Act.put, List.setIfInBounds_toArray, List.set_cons_zero, List.set_cons_succ]
                    refine wpAnyH_take (i := 10) (v := ?_) rfl (by kernel_rfl) (by kernel_rfl) (by kernel_rfl) (fun _ _ _ h => h) (Or.inl ⟨by kernel_rfl, ?_⟩) (by assumption) ?_
                    rotate_left
                    · (intro w hSw; (try dsimp only at hSw); go_simp; (try with_reducible rfl))
                    try simp only [List.getElem_toArray, List.getElem_cons_succ, List.getElem_cons_zero, Act.put, List.setIfInBounds_toArray, List.set_cons_zero, List.set_cons_succ]
                    refine wpAnyH_ready (rs := [11]) (by kernel_rfl) (by simp) ?_
                    refine AllReadyH.cons rfl (fun K hK => ?_) AllReadyH.nil
                    go_simp
                    refine hK.out _ _ g9b (fun hHeld => ?_)
                    clear hK K
                    try simp only [List.getElem_toArray, List.getElem_cons_succ, List.getElem_cons_zero, Act.put, List.setIfInBounds_toArray, List.set_cons_zero, List.set_cons_succ]
                    refine wpAnyH_done (by kernel_rfl) ?_ _
                    go_wp2_with fail
                    go_roundw
                    case rel => exact ⟨i + 1, _, by omega, by go_num, by rw [HV.out, HSI.out, HRV.out]; rfl, HR6.out⟩
                    case measure => simp [intOf]; omega
                · have k1b : (kk == 1) = false := by simpa using k1
                  by_cases k2 : kk = 2
                  · subst k2
                    as_aux_lemma =>
                      cases tq with
                      | false =>
                        have HB9 := Lib.hid (HNO.out (by simp [rStep]; have := HTO.out; simp at this; omega))
                        go_wp2_with fail
                        go_ret2
                        exact HB9.out
                      | true =>
                        have hD : 0 ≤ D ∧ D < nr := by have := HTO.out.symm; simpa using this
                        obtain ⟨d, rfl⟩ : ∃ d : Nat, D = (d : Int) := ⟨D.toNat, (Int.toNat_of_nonneg hD.1).symm⟩
                        have j0 : (0 : Int) ≤ (d : Int) := hD.1
                        have j1 : (d : Int) < (nr : Int) := hD.2
                        by_cases t1 : 0 ≤ T
                        · have e1 : decide (0 ≤ T) = true := decide_eq_true t1
                          by_cases t2 : T < (L.length : Int)
                          · have e2 : decide (T < (L.length : Int)) = true := decide_eq_true t2
                            obtain ⟨x, rfl⟩ : ∃ x : Nat, T = (x : Int) := ⟨T.toNat, (Int.toNat_of_nonneg t1).symm⟩
                            have e3 : decide (x < L.length) = true := decide_eq_true (by omega)
                            obtain ⟨gB, oB, Ax, cx, rfl, hgB, hcx, hlx, hmx, hrx⟩ := (HB0.out.below HR5.out.hq (Nat.le_refl _)) x (by omega)
                            have hrl : (L.getD x []).length = sz := by rw [HSZ.out]; exact HR.out x (by omega)
                            rw [hrl] at hcx hrx
                            obtain ⟨bx, hbx⟩ : ∃ bx, bx = L.getD x [] := ⟨_, rfl⟩
                            rw [← hbx] at hrx hrl
                            have HBX := Lib.hid hbx
                            have HRX := Lib.hid (hrx.more HR5.out.hq.size)
                            obtain ⟨u9, c9⟩ := HR5.out.h1.any (i := d) (by rw [HR5.out.ok.lr]; omega)
                            have hRv : rStep nr no sz L st ⟨2, (d : Int), (x : Int), C0⟩ = some { st with regs := st.regs.set d (some bx) } := by
                              unfold rStep
                              rw [if_neg (by simp), if_pos rfl, if_pos (by simp only; omega), hbx]
                              rfl
                            have HRV := Lib.hid hRv
                            have HLX := Lib.hid hrl
                            have lB : gB < W5.heap.size := Nat.lt_of_lt_of_le hgB HR5.out.hq.size
                            have lG : G < W5.heap.size := HN5.out.lt
                            have hgg := HGL.out
                            have hga := HR5.out.hga
                            clear hRv hbx hrx hlx hmx hrl hD
                            go_wp2_with fail
                            refine wp_region_held_drew (S := fun y => y.cell? ⟨G, 1, none⟩ = some (.int .i64 (d : Int)) ∧ y.cell? ⟨G, 2, none⟩ = some (.int .i64 (x : Int)) ∧ y.cell? ⟨gB, oB + x, none⟩ = some (.slice Ax sz cx)) (by kernel_rfl) ⟨b1, b2, hcx⟩ (fun hHeld => ?_)
                            refine wpAnyH_take (i := 0) (v := ?_) rfl (by kernel_rfl) (by kernel_rfl) (by kernel_rfl) (fun _ _ _ h => h) (Or.inl ⟨by kernel_rfl, ?_⟩) (by assumption) ?_
                            rotate_left
                            · (intro w hSw; (try dsimp only at hSw); go_simp; (try with_reducible rfl))
                            try simp only [List.getElem_toArray, List.getElem_cons_succ, List.getElem_cons_zero, Act.put, List.setIfInBounds_toArray, List.set_cons_zero, List.set_cons_succ]
                            refine wpAnyH_take (i := 1) (v := ?_) rfl (by kernel_rfl) (by kernel_rfl) (by kernel_rfl) (fun _ _ _ h => h) (Or.inl ⟨by kernel_rfl, ?_⟩) (by assumption) ?_
                            rotate_left
                            · (intro w hSw; (try dsimp only at hSw); go_simp; (try with_reducible rfl))
                            try simp only [List.getElem_toArray, List.getElem_cons_succ, List.getElem_cons_zero, Act.put, List.setIfInBounds_toArray, List.set_cons_zero, List.set_cons_succ]
                            refine wpAnyH_take (i := 2) (v := ?_) rfl (by kernel_rfl) (by kernel_rfl) (by kernel_rfl) (fun _ _ _ h => h) (Or.inl ⟨by kernel_rfl, ?_⟩) (by assumption) ?_
                            rotate_left
                            · (intro w hSw; (try dsimp only at hSw); go_simp; (try with_reducible rfl))
                            try simp only [List.getElem_toArray, List.getElem_cons_succ, List.getElem_cons_zero, Act.put, List.setIfInBounds_toArray, List.set_cons_zero, List.set_cons_succ]
                            refine wpAnyH_take (i := 3) (v := ?_) rfl (by kernel_rfl) (by kernel_rfl) (by kernel_rfl) (fun _ _ _ h => h) (Or.inl ⟨by kernel_rfl, ?_⟩) (by assumption) ?_
                            rotate_left
                            · (intro w hSw; (try dsimp only at hSw); go_simp; (try with_reducible rfl))
                            try simp only [List.getElem_toArray, List.getElem_cons_succ, List.getElem_cons_zero, Act.put, List.setIfInBounds_toArray, List.set_cons_zero, List.set_cons_succ]
                            refine wpAnyH_take (i := 4) (v := ?_) rfl (by kernel_rfl) (by kernel_rfl) (by kernel_rfl) (fun _ _ _ h => h) (Or.inl ⟨by kernel_rfl, ?_⟩) (by assumption) ?_
                            rotate_left
                            · (intro w hSw; (try dsimp only at hSw); go_simp; (try with_reducible rfl))
                            try simp only [List.getElem_toArray, List.getElem_cons_succ, List.getElem_cons_zero, Act.put, List.setIfInBounds_toArray, List.set_cons_zero, List.set_cons_succ]
                            refine wpAnyH_take (i := 5) (v := ?_) rfl (by kernel_rfl) (by kernel_rfl) (by kernel_rfl) (fun _ _ _ h => h) (Or.inl ⟨by kernel_rfl, ?_⟩) (by assumption) ?_
                            rotate_left
                            · (intro w hSw; (try dsimp only at hSw); go_simp; (try with_reducible rfl))
                            try simp only [List.getElem_toArray, List.getElem_cons_succ, List.getElem_cons_zero, Act.put, List.setIfInBounds_toArray, List.set_cons_zero, List.set_cons_succ]
                            refine wpAnyH_take (i := 6) (v := ?_) rfl (by kernel_rfl) (by kernel_rfl) (by kernel_rfl) (fun _ _ _ h => h) (Or.inl ⟨by kernel_rfl, ?_⟩) (by assumption) ?_
                            rotate_left
                            · (intro w hSw; (try dsimp only at hSw); go_simp; (try with_reducible rfl))
                            try simp only [List.getElem_toArray, List.getElem_cons_succ, List.getElem_cons_zero, Act.put, List.setIfInBounds_toArray, List.set_cons_zero, List.set_cons_succ]
                            refine wpAnyH_take (i := 7) (v := ?_) rfl (by kernel_rfl) (by kernel_rfl) (by kernel_rfl) (fun _ _ _ h => h) (Or.inl ⟨by kernel_rfl, ?_⟩) (by assumption) ?_
                            rotate_left
                            · (intro w hSw; (try dsimp only at hSw); go_simp; (try with_reducible rfl))
                            try simp only [List.getElem_toArray, List.getElem_cons_succ, List.getElem_cons_zero, Act.put, List.setIfInBounds_toArray, List.set_cons_zero, List.set_cons_succ]
                            refine wpAnyH_take (i := 8) (v := ?_) rfl (by kernel_rfl) (by kernel_rfl) (by kernel_rfl) (fun _ _ _ h => h) (Or.inl ⟨by kernel_rfl, ?_⟩) (by assumption) ?_
                            rotate_left
                            · (intro w hSw; (try dsimp only at hSw); go_simp; (try with_reducible rfl))
                            try simp only [List.getElem_toArray, List.getElem_cons_succ, List.getElem_cons_zero, Act.put, List.setIfInBounds_toArray, List.set_cons_zero, List.set_cons_succ]
                            refine wpAnyH_take (i := 9) (v := ?_) rfl (by kernel_rfl) (by kernel_rfl) (by kernel_rfl) (fun _ _ _ h => h) (Or.inl ⟨by kernel_rfl, ?_⟩) (by assumption) ?_
                            rotate_left
                            · (intro w hSw; (try dsimp only at hSw); go_simp; (try with_reducible rfl))
                            try simp only [List.getElem_toArray, List.getElem_cons_succ, List.getElem_cons_zero, Act.put, List.setIfInBounds_toArray, List.set_cons_zero, List.set_cons_succ]
                            refine wpAnyH_take (i := 10) (v := ?_) rfl (by kernel_rfl) (by kernel_rfl) (by kernel_rfl) (fun _ _ _ h => h) (Or.inl ⟨by kernel_rfl, ?_⟩) (by assumption) ?_
                            rotate_left
                            · (intro w hSw; (try dsimp only at hSw); go_simp; (try with_reducible rfl))
                            try simp only [List.getElem_toArray, List.getElem_cons_succ, List.getElem_cons_zero, Act.put, List.setIfInBounds_toArray, List.set_cons_zero, List.set_cons_succ]
                            refine wpAnyH_ready (rs := [11]) (by kernel_rfl) (by simp) ?_
                            refine AllReadyH.cons rfl (fun K hK => ?_) AllReadyH.nil
                            go_simp
                            refine (copy_own Ax sz cx bx W5.drew HRX.out (by have := HSB.out; omega)).mono ?_
                            rintro e w7 ⟨A7, c7, rfl, ho7, hb7⟩
                            have R7 := HR5.out.drew.below hb7
                            have v7 := ValR.of_own ho7
                            obtain ⟨u7, c9⟩ := R7.h1.any (i := d) (by rw [R7.ok.lr]; omega)
                            have f9 := (R7.h1.frz d).1
                            have c9b := cs_st (p := ⟨ga, d, none⟩) (R7.h1.flag (i := d) (by rw [R7.ok.lr]; omega)) (by simp) (.slice A7 sz c7)
                            have f9b := (R7.h1.hs.far (p := ⟨ga, d, none⟩) (by simp) (.slice A7 sz c7)).frozen d
                            have s7 : w7.cell? ⟨G, 1, none⟩ = some (.int .i64 (d : Int)) ∧ w7.cell? ⟨G, 2, none⟩ = some (.int .i64 (x : Int)) ∧ w7.cell? ⟨gB, oB + x, none⟩ = some (.slice Ax sz cx) := ⟨(hb7.cell (p := ⟨G, 1, none⟩) lG).trans b1, (hb7.cell (p := ⟨G, 2, none⟩) lG).trans b2, (hb7.cell (p := ⟨gB, oB + x, none⟩) lB).trans hcx⟩
                            have s7a := cs_keep3 (p := ⟨ga, d, none⟩) (x := .slice A7 sz c7) s7 (by show ga ≠ G; omega) (by show ga ≠ G; omega) (by show ga ≠ gB; omega)
                            have s7b := cs_keep3 (p := ⟨ga + 1, d, none⟩) (x := .bool true) s7a (by show ga + 1 ≠ G; omega) (by show ga + 1 ≠ G; omega) (by show ga + 1 ≠ gB; omega)
                            have R6 := R7.setReg d v7 HLX.out
                            have HR6 := Lib.hid R6
                            clear R7 v7 R6 ho7 hb7
                            refine hK.out _ _ s7 (fun hHeld => ?_)
                            clear hK K
                            try simp only [List.getElem_toArray, List.getElem_cons_succ, List.getElem_cons_zero, Act.put, List.setIfInBounds_toArray, List.set_cons_zero, List.set_cons_succ]
                            refine wpAnyH_take (i := 12) (v := ?_) rfl (by kernel_rfl) (by kernel_rfl) (by kernel_rfl) (fun _ _ _ h => h) (Or.inl ⟨by kernel_rfl, ?_⟩) (by assumption) ?_
                            rotate_left
                            · (intro w hSw; (try dsimp only at hSw); go_simp; (try with_reducible rfl))
                            try simp only [List.getElem_toArray, List.getElem_cons_succ, List.getElem_cons_zero, Act.put, List.setIfInBounds_toArray, List.set_cons_zero, List.set_cons_succ]
                            refine wpAnyH_ready (rs := [13]) (by kernel_rfl) (by simp) ?_
                            refine AllReadyH.cons rfl (fun K hK => ?_) AllReadyH.nil
                            go_simp
                            refine hK.out _ _ s7a (fun hHeld => ?_)
                            clear hK K
                            try simp only [List.getElem_toArray, List.getElem_cons_succ, List.getElem_cons_zero, Act.put, List.setIfInBounds_toArray, List.set_cons_zero, List.set_cons_succ]
                            refine wpAnyH_take (i := 14) (v := ?_) rfl (by kernel_rfl) (by kernel_rfl) (by kernel_rfl) (fun _ _ _ h => h) (Or.inl ⟨by kernel_rfl, ?_⟩) (by assumption) ?_
                            rotate_left
                            · (intro w hSw; (try dsimp only at hSw); go_simp; (try with_reducible rfl))
                            try simp only [List.getElem_toArray, List.getElem_cons_succ, List.getElem_cons_zero, Act.put, List.setIfInBounds_toArray, List.set_cons_zero, List.set_cons_succ]
                            refine wpAnyH_ready (rs := [15]) (by kernel_rfl) (by simp) ?_
                            refine AllReadyH.cons rfl (fun K hK => ?_) AllReadyH.nil
                            go_simp
                            refine hK.out _ _ s7b (fun hHeld => ?_)
                            clear hK K
                            try simp only [List.getElem_toArray, List.getElem_cons_succ, List.getElem_cons_zero, Act.put, List.setIfInBounds_toArray, List.set_cons_zero, List.set_cons_succ]
                            refine wpAnyH_done (by kernel_rfl) ?_ _
                            go_wp2_with fail
                            go_roundw
                            case rel => exact ⟨i + 1, _, by omega, by go_num, by rw [HV.out, HSI.out, HRV.out]; rfl, HR6.out⟩
                            case measure => simp [intOf]; omega
                          · have e2 : decide (T < (L.length : Int)) = false := decide_eq_false t2
                            have HB9 := Lib.hid (HNO.out (by simp [rStep]; omega))
                            go_wp2_with fail
                            go_ret2
                            exact HB9.out
                        · have e1 : decide (0 ≤ T) = false := decide_eq_false t1
                          have HB9 := Lib.hid (HNO.out (by simp [rStep]; omega))
                          go_wp2_with fail
                          go_ret2
                          exact HB9.out
                  · have k2b : (kk == 2) = false := by simpa using k2
                    by_cases k3 : kk = 3
                    · subst k3
                      as_aux_lemma =>
                        cases tq with
                        | false =>
                          have HB9 := Lib.hid (HNO.out (by unfold rStep; rw [if_neg (by simp), if_neg (by simp), if_pos rfl, if_neg (by have := HTO.out; simp at this; simp only; omega)]))
                          go_wp2_with fail
                          go_ret2
                          exact HB9.out
                        | true =>
                          have hD : 0 ≤ D ∧ D < nr := by have := HTO.out.symm; simpa using this
                          obtain ⟨d, rfl⟩ : ∃ d : Nat, D = (d : Int) := ⟨D.toNat, (Int.toNat_of_nonneg hD.1).symm⟩
                          have j0 : (0 : Int) ≤ (d : Int) := hD.1
                          have j1 : (d : Int) < (nr : Int) := hD.2
                          have f0 := HR5.out.h1.flag (i := d) (by rw [HR5.out.ok.lr]; omega)
                          cases hd : st.regs.getD d none with
                          | none =>
                            rw [hd] at f0
                            have f0' : W5.cell? ⟨ga + 1, d, none⟩ = some (.bool false) := f0
                            clear f0 hD
                            have HB9 := Lib.hid (HNO.out (by unfold rStep; rw [if_neg (by simp), if_neg (by simp), if_pos rfl]; split; (simp only [Int.toNat_natCast]; rw [hd]); rfl))
                            go_wp2_with fail
                            go_ret2
                            exact HB9.out
                          | some dd =>
                            rw [hd] at f0
                            have f0' : W5.cell? ⟨ga + 1, d, none⟩ = some (.bool true) := f0
                            clear f0
                            cases fr with
                            | false =>
                              clear hD
                              have HB9 := Lib.hid (HNO.out (by unfold rStep; rw [if_neg (by simp), if_neg (by simp), if_pos rfl]; split; (rename_i hcc; (simp only [Int.toNat_natCast]); rw [hd, fr_no HFR.out hcc.2.1 hcc.2.2]); rfl))
                              go_wp2_with fail
                              go_ret2
                              exact HB9.out
                            | true =>
                              have hT : (0 ≤ T ∧ T < nr) ∧ (st.regs.getD T.toNat none).isSome = true := by have := HFR.out.symm; simpa [and_assoc] using this
                              obtain ⟨x, rfl⟩ : ∃ x : Nat, T = (x : Int) := ⟨T.toNat, (Int.toNat_of_nonneg hT.1.1).symm⟩
                              have t0 : (0 : Int) ≤ (x : Int) := hT.1.1
                              have t1 : (x : Int) < (nr : Int) := hT.1.2
                              obtain ⟨xx, hxx⟩ := Option.isSome_iff_exists.1 hT.2
                              rw [Int.toNat_natCast] at hxx
                              have ld := HR5.out.ok.wr _ _ hd
                              have lx := HR5.out.ok.wr _ _ hxx
                              obtain ⟨Ad, cd, hcd, hld, hrd⟩ := HR5.out.h1.row hd
                              obtain ⟨Ax, cx, hcx, hlx, hrx⟩ := HR5.out.h1.row hxx
                              have rdd := hrd.rd
                              have rdx := hrx.rd
                              rw [ld] at hcd rdd
                              rw [lx] at hcx rdx
                              have HRD := Lib.hid rdd
                              have HRX := Lib.hid rdx
                              have hRv : rStep nr no sz L st ⟨3, (d : Int), (x : Int), C0⟩ = some { st with regs := st.regs.set d (some (Gf.macL dd C xx)) } := by
                                unfold rStep
                                rw [if_neg (by simp), if_neg (by simp), if_pos rfl, if_pos (by simp only; omega), HCC.out]
                                simp only [Int.toNat_natCast]
                                rw [hd, hxx]
                              have HRV := Lib.hid hRv
                              have HLX := Lib.hid (show (Gf.macL dd C xx).length = sz by rw [rmacL_len _ (ld.trans lx.symm)]; exact lx)
                              have HD := Lib.hid hd
                              have lG : G < W5.heap.size := HN5.out.lt
                              have lga : ga < W5.heap.size := HR5.out.h1.lta
                              have hgg := HGL.out
                              have hga := HR5.out.hga
                              clear hRv hrd hrx rdd rdx hld hlx hD hT hd hxx ld lx
                              go_wp2_with fail
                              refine wp_region_held_drew (S := fun y => y.cell? ⟨G, 1, none⟩ = some (.int .i64 (d : Int)) ∧ y.cell? ⟨G, 2, none⟩ = some (.int .i64 (x : Int)) ∧ y.cell? ⟨G, 3, none⟩ = some (.int .u8 (C.toNat : Int))) (by kernel_rfl) ⟨b1, b2, b3⟩ (fun hHeld => ?_)
                              refine wpAnyH_take (i := 0) (v := ?_) rfl (by kernel_rfl) (by kernel_rfl) (by kernel_rfl) (fun _ _ _ h => h) (Or.inl ⟨by kernel_rfl, ?_⟩) (by assumption) ?_
                              rotate_left
                              · (intro w hSw; (try dsimp only at hSw); go_simp; (try with_reducible rfl))
                              try simp only [List.getElem_toArray, List.getElem_cons_succ, List.getElem_cons_zero, Act.put, List.setIfInBounds_toArray, List.set_cons_zero, List.set_cons_succ]
                              refine wpAnyH_take (i := 1) (v := ?_) rfl (by kernel_rfl) (by kernel_rfl) (by kernel_rfl) (fun _ _ _ h => h) (Or.inl ⟨by kernel_rfl, ?_⟩) (by assumption) ?_
                              rotate_left
                              · (intro w hSw; (try dsimp only at hSw); go_simp; (try with_reducible rfl))
                              try simp only [List.getElem_toArray, List.getElem_cons_succ, List.getElem_cons_zero, Act.put, List.setIfInBounds_toArray, List.set_cons_zero, List.set_cons_succ]
                              refine wpAnyH_take (i := 2) (v := ?_) rfl (by kernel_rfl) (by kernel_rfl) (by kernel_rfl) (fun _ _ _ h => h) (Or.inl ⟨by kernel_rfl, ?_⟩) (by assumption) ?_
                              rotate_left
                              · (intro w hSw; (try dsimp only at hSw); go_simp; (try with_reducible rfl))
                              try simp only [List.getElem_toArray, List.getElem_cons_succ, List.getElem_cons_zero, Act.put, List.setIfInBounds_toArray, List.set_cons_zero, List.set_cons_succ]
                              refine wpAnyH_take (i := 3) (v := ?_) rfl (by kernel_rfl) (by kernel_rfl) (by kernel_rfl) (fun _ _ _ h => h) (Or.inl ⟨by kernel_rfl, ?_⟩) (by assumption) ?_
                              rotate_left
                              · (intro w hSw; (try dsimp only at hSw); go_simp; (try with_reducible rfl))
                              try simp only [List.getElem_toArray, List.getElem_cons_succ, List.getElem_cons_zero, Act.put, List.setIfInBounds_toArray, List.set_cons_zero, List.set_cons_succ]
                              refine wpAnyH_take (i := 4) (v := ?_) rfl (by kernel_rfl) (by kernel_rfl) (by kernel_rfl) (fun _ _ _ h => h) (Or.inl ⟨by kernel_rfl, ?_⟩) (by assumption) ?_
                              rotate_left
                              · (intro w hSw; (try dsimp only at hSw); go_simp; (try with_reducible rfl))
                              try simp only [List.getElem_toArray, List.getElem_cons_succ, List.getElem_cons_zero, Act.put, List.setIfInBounds_toArray, List.set_cons_zero, List.set_cons_succ]
                              refine wpAnyH_take (i := 5) (v := ?_) rfl (by kernel_rfl) (by kernel_rfl) (by kernel_rfl) (fun _ _ _ h => h) (Or.inl ⟨by kernel_rfl, ?_⟩) (by assumption) ?_
                              rotate_left
                              · (intro w hSw; (try dsimp only at hSw); go_simp; (try with_reducible rfl))
                              try simp only [List.getElem_toArray, List.getElem_cons_succ, List.getElem_cons_zero, Act.put, List.setIfInBounds_toArray, List.set_cons_zero, List.set_cons_succ]
                              refine wpAnyH_take (i := 6) (v := ?_) rfl (by kernel_rfl) (by kernel_rfl) (by kernel_rfl) (fun _ _ _ h => h) (Or.inl ⟨by kernel_rfl, ?_⟩) (by assumption) ?_
                              rotate_left
                              · (intro w hSw; (try dsimp only at hSw); go_simp; (try with_reducible rfl))
                              try simp only [List.getElem_toArray, List.getElem_cons_succ, List.getElem_cons_zero, Act.put, List.setIfInBounds_toArray, List.set_cons_zero, List.set_cons_succ]
                              refine wpAnyH_take (i := 8) (v := ?_) rfl (by kernel_rfl) (by kernel_rfl) (by kernel_rfl) (fun _ _ _ h => h) (Or.inl ⟨by kernel_rfl, ?_⟩) (by assumption) ?_
                              rotate_left
                              · (intro w hSw; (try dsimp only at hSw); go_simp; (try with_reducible rfl))
                              try simp only [List.getElem_toArray, List.getElem_cons_succ, List.getElem_cons_zero, Act.put, List.setIfInBounds_toArray, List.set_cons_zero, List.set_cons_succ]
                              refine wpAnyH_take (i := 9) (v := ?_) rfl (by kernel_rfl) (by kernel_rfl) (by kernel_rfl) (fun _ _ _ h => h) (Or.inl ⟨by kernel_rfl, ?_⟩) (by assumption) ?_
                              rotate_left
                              · (intro w hSw; (try dsimp only at hSw); go_simp; (try with_reducible rfl))
                              try simp only [List.getElem_toArray, List.getElem_cons_succ, List.getElem_cons_zero, Act.put, List.setIfInBounds_toArray, List.set_cons_zero, List.set_cons_succ]
                              refine wpAnyH_take (i := 10) (v := ?_) rfl (by kernel_rfl) (by kernel_rfl) (by kernel_rfl) (fun _ _ _ h => h) (Or.inl ⟨by kernel_rfl, ?_⟩) (by assumption) ?_
                              rotate_left
                              · (intro w hSw; (try dsimp only at hSw); go_simp; (try with_reducible rfl))
                              try simp only [List.getElem_toArray, List.getElem_cons_succ, List.getElem_cons_zero, Act.put, List.setIfInBounds_toArray, List.set_cons_zero, List.set_cons_succ]
                              refine wpAnyH_take (i := 11) (v := ?_) rfl (by kernel_rfl) (by kernel_rfl) (by kernel_rfl) (fun _ _ _ h => h) (Or.inl ⟨by kernel_rfl, ?_⟩) (by assumption) ?_
                              rotate_left
                              · (intro w hSw; (try dsimp only at hSw); go_simp; (try with_reducible rfl))
                              try simp only [List.getElem_toArray, List.getElem_cons_succ, List.getElem_cons_zero, Act.put, List.setIfInBounds_toArray, List.set_cons_zero, List.set_cons_succ]
                              refine wpAnyH_take (i := 12) (v := ?_) rfl (by kernel_rfl) (by kernel_rfl) (by kernel_rfl) (fun _ _ _ h => h) (Or.inl ⟨by kernel_rfl, ?_⟩) (by assumption) ?_
                              rotate_left
                              · (intro w hSw; (try dsimp only at hSw); go_simp; (try with_reducible rfl))
                              try simp only [List.getElem_toArray, List.getElem_cons_succ, List.getElem_cons_zero, Act.put, List.setIfInBounds_toArray, List.set_cons_zero, List.set_cons_succ]
                              refine wpAnyH_take (i := 13) (v := ?_) rfl (by kernel_rfl) (by kernel_rfl) (by kernel_rfl) (fun _ _ _ h => h) (Or.inl ⟨by kernel_rfl, ?_⟩) (by assumption) ?_
                              rotate_left
                              · (intro w hSw; (try dsimp only at hSw); go_simp; (try with_reducible rfl))
                              try simp only [List.getElem_toArray, List.getElem_cons_succ, List.getElem_cons_zero, Act.put, List.setIfInBounds_toArray, List.set_cons_zero, List.set_cons_succ]
                              refine wpAnyH_ready (rs := [7, 14]) (by kernel_rfl) (by simp) ?_
                              refine AllReadyH.cons rfl (fun K hK => ?_) (AllReadyH.cons rfl (fun K hK => ?_) AllReadyH.nil)
                              · go_simp
                                refine hK.out _ _ hHeld (fun hHeld => ?_)
                                clear hK K
                                try simp only [List.getElem_toArray, List.getElem_cons_succ, List.getElem_cons_zero, Act.put, List.setIfInBounds_toArray, List.set_cons_zero, List.set_cons_succ]
                                refine wpAnyH_ready (rs := [14]) (by kernel_rfl) (by simp) ?_
                                refine AllReadyH.cons rfl (fun K hK => ?_) AllReadyH.nil
                                go_simp
                                refine hK.out _ _ hHeld (fun hHeld => ?_)
                                clear hK K
                                try simp only [List.getElem_toArray, List.getElem_cons_succ, List.getElem_cons_zero, Act.put, List.setIfInBounds_toArray, List.set_cons_zero, List.set_cons_succ]
                                refine wpAnyH_ready (rs := [15]) (by kernel_rfl) (by simp) ?_
                                refine AllReadyH.cons rfl (fun K hK => ?_) AllReadyH.nil
                                go_simp
                                refine (refMac_calls Ad sz cd C Ax cx dd xx W5.drew HRD.out HRX.out (by have := HSB.out; omega)).mono ?_
                                rintro e w7 ⟨A7, c7, rfl, ho7, hb7⟩
                                have R7 := HR5.out.drew.below hb7
                                have v7 := ValR.of_own ho7
                                have c9 : w7.cell? ⟨ga, d, none⟩ = some (.slice Ad sz cd) := (hb7.cell (p := ⟨ga, d, none⟩) lga).trans hcd
                                have f9 := (R7.h1.frz d).1
                                have s7 : w7.cell? ⟨G, 1, none⟩ = some (.int .i64 (d : Int)) ∧ w7.cell? ⟨G, 2, none⟩ = some (.int .i64 (x : Int)) ∧ w7.cell? ⟨G, 3, none⟩ = some (.int .u8 (C.toNat : Int)) := ⟨(hb7.cell (p := ⟨G, 1, none⟩) lG).trans b1, (hb7.cell (p := ⟨G, 2, none⟩) lG).trans b2, (hb7.cell (p := ⟨G, 3, none⟩) lG).trans b3⟩
                                have s7a := cs_keep3 (p := ⟨ga, d, none⟩) (x := .slice A7 sz c7) s7 (by show ga ≠ G; omega) (by show ga ≠ G; omega) (by show ga ≠ G; omega)
                                have R6 := R7.setReg1 d HD.out v7 HLX.out
                                have HR6 := Lib.hid R6
                                clear R7 v7 R6 ho7 hb7
                                refine hK.out _ _ s7 (fun hHeld => ?_)
                                clear hK K
                                try simp only [List.getElem_toArray, List.getElem_cons_succ, List.getElem_cons_zero, Act.put, List.setIfInBounds_toArray, List.set_cons_zero, List.set_cons_succ]
                                refine wpAnyH_take (i := 16) (v := ?_) rfl (by kernel_rfl) (by kernel_rfl) (by kernel_rfl) (fun _ _ _ h => h) (Or.inl ⟨by kernel_rfl, ?_⟩) (by assumption) ?_
                                rotate_left
                                · (intro w hSw; (try dsimp only at hSw); go_simp; (try with_reducible rfl))
                                try simp only [List.getElem_toArray, List.getElem_cons_succ, List.getElem_cons_zero, Act.put, List.setIfInBounds_toArray, List.set_cons_zero, List.set_cons_succ]
                                refine wpAnyH_take (i := 17) (v := ?_) rfl (by kernel_rfl) (by kernel_rfl) (by kernel_rfl) (fun _ _ _ h => h) (Or.inl ⟨by kernel_rfl, ?_⟩) (by assumption) ?_
                                rotate_left
                                · (intro w hSw; (try dsimp only at hSw); go_simp; (try with_reducible rfl))
                                try simp only [List.getElem_toArray, List.getElem_cons_succ, List.getElem_cons_zero, Act.put, List.setIfInBounds_toArray, List.set_cons_zero, List.set_cons_succ]
                                refine wpAnyH_take (i := 18) (v := ?_) rfl (by kernel_rfl) (by kernel_rfl) (by kernel_rfl) (fun _ _ _ h => h) (Or.inl ⟨by kernel_rfl, ?_⟩) (by assumption) ?_
                                rotate_left
                                · (intro w hSw; (try dsimp only at hSw); go_simp; (try with_reducible rfl))
                                try simp only [List.getElem_toArray, List.getElem_cons_succ, List.getElem_cons_zero, Act.put, List.setIfInBounds_toArray, List.set_cons_zero, List.set_cons_succ]
                                refine wpAnyH_take (i := 19) (v := ?_) rfl (by kernel_rfl) (by kernel_rfl) (by kernel_rfl) (fun _ _ _ h => h) (Or.inl ⟨by kernel_rfl, ?_⟩) (by assumption) ?_
                                rotate_left
                                · (intro w hSw; (try dsimp only at hSw); go_simp; (try with_reducible rfl))
                                try simp only [List.getElem_toArray, List.getElem_cons_succ, List.getElem_cons_zero, Act.put, List.setIfInBounds_toArray, List.set_cons_zero, List.set_cons_succ]
                                refine wpAnyH_ready (rs := [20]) (by kernel_rfl) (by simp) ?_
                                refine AllReadyH.cons rfl (fun K hK => ?_) AllReadyH.nil
                                go_simp
                                refine hK.out _ _ s7a (fun hHeld => ?_)
                                clear hK K
                                try simp only [List.getElem_toArray, List.getElem_cons_succ, List.getElem_cons_zero, Act.put, List.setIfInBounds_toArray, List.set_cons_zero, List.set_cons_succ]
                                refine wpAnyH_done (by kernel_rfl) ?_ _
                                go_wp2_with fail
                                go_roundw
                                case rel => exact ⟨i + 1, _, by omega, by go_num, by rw [HV.out, HSI.out, HRV.out]; rfl, HR6.out⟩
                                case measure => simp [intOf]; omega
                              · go_simp
                                refine hK.out _ _ hHeld (fun hHeld => ?_)
                                clear hK K
                                try simp only [List.getElem_toArray, List.getElem_cons_succ, List.getElem_cons_zero, Act.put, List.setIfInBounds_toArray, List.set_cons_zero, List.set_cons_succ]
                                refine wpAnyH_ready (rs := [7]) (by kernel_rfl) (by simp) ?_
                                refine AllReadyH.cons rfl (fun K hK => ?_) AllReadyH.nil
                                go_simp
                                refine hK.out _ _ hHeld (fun hHeld => ?_)
                                clear hK K
                                try simp only [List.getElem_toArray, List.getElem_cons_succ, List.getElem_cons_zero, Act.put, List.setIfInBounds_toArray, List.set_cons_zero, List.set_cons_succ]
                                refine wpAnyH_ready (rs := [15]) (by kernel_rfl) (by simp) ?_
                                refine AllReadyH.cons rfl (fun K hK => ?_) AllReadyH.nil
                                go_simp
                                refine (refMac_calls Ad sz cd C Ax cx dd xx W5.drew HRD.out HRX.out (by have := HSB.out; omega)).mono ?_
                                rintro e w7 ⟨A7, c7, rfl, ho7, hb7⟩
                                have R7 := HR5.out.drew.below hb7
                                have v7 := ValR.of_own ho7
                                have c9 : w7.cell? ⟨ga, d, none⟩ = some (.slice Ad sz cd) := (hb7.cell (p := ⟨ga, d, none⟩) lga).trans hcd
                                have f9 := (R7.h1.frz d).1
                                have s7 : w7.cell? ⟨G, 1, none⟩ = some (.int .i64 (d : Int)) ∧ w7.cell? ⟨G, 2, none⟩ = some (.int .i64 (x : Int)) ∧ w7.cell? ⟨G, 3, none⟩ = some (.int .u8 (C.toNat : Int)) := ⟨(hb7.cell (p := ⟨G, 1, none⟩) lG).trans b1, (hb7.cell (p := ⟨G, 2, none⟩) lG).trans b2, (hb7.cell (p := ⟨G, 3, none⟩) lG).trans b3⟩
                                have s7a := cs_keep3 (p := ⟨ga, d, none⟩) (x := .slice A7 sz c7) s7 (by show ga ≠ G; omega) (by show ga ≠ G; omega) (by show ga ≠ G; omega)
                                have R6 := R7.setReg1 d HD.out v7 HLX.out
                                have HR6 := Lib.hid R6
                                clear R7 v7 R6 ho7 hb7
                                refine hK.out _ _ s7 (fun hHeld => ?_)
                                clear hK K
                                try simp only [List.getElem_toArray, List.getElem_cons_succ, List.getElem_cons_zero, Act.put, List.setIfInBounds_toArray, List.set_cons_zero, List.set_cons_succ]
                                refine wpAnyH_take (i := 16) (v := ?_) rfl (by kernel_rfl) (by kernel_rfl) (by kernel_rfl) (fun _ _ _ h => h) (Or.inl ⟨by kernel_rfl, ?_⟩) (by assumption) ?_
                                rotate_left
                                · (intro w hSw; (try dsimp only at hSw); go_simp; (try with_reducible rfl))
                                try simp only [List.getElem_toArray, List.getElem_cons_succ, List.getElem_cons_zero, Act.put, List.setIfInBounds_toArray, List.set_cons_zero, List.set_cons_succ]
                                refine wpAnyH_take (i := 17) (v := ?_) rfl (by kernel_rfl) (by kernel_rfl) (by kernel_rfl) (fun _ _ _ h => h) (Or.inl ⟨by kernel_rfl, ?_⟩) (by assumption) ?_
                                rotate_left
                                · (intro w hSw; (try dsimp only at hSw); go_simp; (try with_reducible rfl))
                                try simp only [List.getElem_toArray, List.getElem_cons_succ, List.getElem_cons_zero, Act.put, List.setIfInBounds_toArray, List.set_cons_zero, List.set_cons_succ]
                                refine wpAnyH_take (i := 18) (v := ?_) rfl (by kernel_rfl) (by kernel_rfl) (by kernel_rfl) (fun _ _ _ h => h) (Or.inl ⟨by kernel_rfl, ?_⟩) (by assumption) ?_
                                rotate_left
                                · (intro w hSw; (try dsimp only at hSw); go_simp; (try with_reducible rfl))
                                try simp only [List.getElem_toArray, List.getElem_cons_succ, List.getElem_cons_zero, Act.put, List.setIfInBounds_toArray, List.set_cons_zero, List.set_cons_succ]
                                refine wpAnyH_take (i := 19) (v := ?_) rfl (by kernel_rfl) (by kernel_rfl) (by kernel_rfl) (fun _ _ _ h => h) (Or.inl ⟨by kernel_rfl, ?_⟩) (by assumption) ?_
                                rotate_left
                                · (intro w hSw; (try dsimp only at hSw); go_simp; (try with_reducible rfl))
                                try simp only [List.getElem_toArray, List.getElem_cons_succ, List.getElem_cons_zero, Act.put, List.setIfInBounds_toArray, List.set_cons_zero, List.set_cons_succ]
                                refine wpAnyH_ready (rs := [20]) (by kernel_rfl) (by simp) ?_
                                refine AllReadyH.cons rfl (fun K hK => ?_) AllReadyH.nil
                                go_simp
                                refine hK.out _ _ s7a (fun hHeld => ?_)
                                clear hK K
                                try simp only [List.getElem_toArray, List.getElem_cons_succ, List.getElem_cons_zero, Act.put, List.setIfInBounds_toArray, List.set_cons_zero, List.set_cons_succ]
                                refine wpAnyH_done (by kernel_rfl) ?_ _
                                go_wp2_with fail
                                go_roundw
                                case rel => exact ⟨i + 1, _, by omega, by go_num, by rw [HV.out, HSI.out, HRV.out]; rfl, HR6.out⟩
                                case measure => simp [intOf]; omega
                    · have k3b : (kk == 3) = false := by simpa using k3
                      by_cases k4 : kk = 4
                      · subst k4
                        as_aux_lemma =>
                          cases fr with
                          | false =>
                            have HB9 := Lib.hid (HNO.out (by unfold rStep; rw [if_neg (by simp), if_neg (by simp), if_neg (by simp), if_pos rfl]; split; (rename_i hcc; (simp only); rw [fr_no HFR.out hcc.1.1 hcc.1.2]; cases st.outs.getD D.toNat none <;> rfl)))
                            go_wp2_with fail
                            go_ret2
                            exact HB9.out
                          | true =>
                            have hT : (0 ≤ T ∧ T < nr) ∧ (st.regs.getD T.toNat none).isSome = true := by have := HFR.out.symm; simpa [and_assoc] using this
                            obtain ⟨x, rfl⟩ : ∃ x : Nat, T = (x : Int) := ⟨T.toNat, (Int.toNat_of_nonneg hT.1.1).symm⟩
                            have t0 : (0 : Int) ≤ (x : Int) := hT.1.1
                            have t1 : (x : Int) < (nr : Int) := hT.1.2
                            obtain ⟨xx, hxx⟩ := Option.isSome_iff_exists.1 hT.2
                            rw [Int.toNat_natCast] at hxx
                            by_cases q1 : 0 ≤ D
                            · have e1 : decide (0 ≤ D) = true := decide_eq_true q1
                              by_cases q2 : D < no
                              · have e2 : decide (D < (no : Int)) = true := decide_eq_true q2
                                obtain ⟨d, rfl⟩ : ∃ d : Nat, D = (d : Int) := ⟨D.toNat, (Int.toNat_of_nonneg q1).symm⟩
                                have e3 : decide (d < no) = true := decide_eq_true (by omega)
                                have f0 := HR5.out.h2.flag (i := d) (by rw [HR5.out.ok.lo]; omega)
                                cases hd : st.outs.getD d none with
                                | some dd =>
                                  rw [hd] at f0
                                  have f0' : W5.cell? ⟨ga + 3, d, none⟩ = some (.bool true) := f0
                                  clear f0 hT
                                  have HB9 := Lib.hid (HNO.out (by unfold rStep; rw [if_neg (by simp), if_neg (by simp), if_neg (by simp), if_pos rfl]; split; (simp only [Int.toNat_natCast]; rw [hxx, hd]); rfl))
                                  go_wp2_with fail
                                  go_ret2
                                  exact HB9.out
                                | none =>
                                  rw [hd] at f0
                                  have f0' : W5.cell? ⟨ga + 3, d, none⟩ = some (.bool false) := f0
                                  clear f0
                                  have lx := HR5.out.ok.wr _ _ hxx
                                  obtain ⟨Ax, cx, hcx, hlx, hrx⟩ := HR5.out.h1.row hxx
                                  have rdx := hrx.rd
                                  rw [lx] at hcx rdx
                                  have HRX := Lib.hid rdx
                                  have hRv : rStep nr no sz L st ⟨4, (d : Int), (x : Int), C0⟩ = some { st with outs := st.outs.set d (some xx) } := by
                                    unfold rStep
                                    rw [if_neg (by simp), if_neg (by simp), if_neg (by simp), if_pos rfl, if_pos (by simp only; omega)]
                                    simp only [Int.toNat_natCast]
                                    rw [hd, hxx]
                                  have HRV := Lib.hid hRv
                                  have HLX := Lib.hid lx
                                  have j0 : (0 : Int) ≤ (d : Int) := q1
                                  have lG : G < W5.heap.size := HN5.out.lt
                                  have lga : ga < W5.heap.size := HR5.out.h1.lta
                                  have hgg := HGL.out
                                  have hga := HR5.out.hga
                                  clear hRv hrx rdx hlx hT hd hxx lx
                                  go_wp2_with fail
                                  refine wp_region_held_drew (S := fun y => y.cell? ⟨G, 1, none⟩ = some (.int .i64 (d : Int)) ∧ y.cell? ⟨G, 2, none⟩ = some (.int .i64 (x : Int)) ∧ y.cell? ⟨ga, x, none⟩ = some (.slice Ax sz cx)) (by kernel_rfl) ⟨b1, b2, hcx⟩ (fun hHeld => ?_)
                                  refine wpAnyH_take (i := 0) (v := ?_) rfl (by kernel_rfl) (by kernel_rfl) (by kernel_rfl) (fun _ _ _ h => h) (Or.inl ⟨by kernel_rfl, ?_⟩) (by assumption) ?_
                                  rotate_left
                                  · (intro w hSw; (try dsimp only at hSw); go_simp; (try with_reducible rfl))
                                  try simp only [List.getElem_toArray, List.getElem_cons_succ, List.getElem_cons_zero, Act.put, List.setIfInBounds_toArray, List.set_cons_zero, List.set_cons_succ]
                                  refine wpAnyH_take (i := 1) (v := ?_) rfl (by kernel_rfl) (by kernel_rfl) (by kernel_rfl) (fun _ _ _ h => h) (Or.inl ⟨by kernel_rfl, ?_⟩) (by assumption) ?_
                                  rotate_left
                                  · (intro w hSw; (try dsimp only at hSw); go_simp; (try with_reducible rfl))
                                  try simp only [List.getElem_toArray, List.getElem_cons_succ, List.getElem_cons_zero, Act.put, List.setIfInBounds_toArray, List.set_cons_zero, List.set_cons_succ]
                                  refine wpAnyH_take (i := 2) (v := ?_) rfl (by kernel_rfl) (by kernel_rfl) (by kernel_rfl) (fun _ _ _ h => h) (Or.inl ⟨by kernel_rfl, ?_⟩) (by assumption) ?_
                                  rotate_left
                                  · (intro w hSw; (try dsimp only at hSw); go_simp; (try with_reducible rfl))
                                  try simp only [List.getElem_toArray, List.getElem_cons_succ, List.getElem_cons_zero, Act.put, List.setIfInBounds_toArray, List.set_cons_zero, List.set_cons_succ]
                                  refine wpAnyH_take (i := 3) (v := ?_) rfl (by kernel_rfl) (by kernel_rfl) (by kernel_rfl) (fun _ _ _ h => h) (Or.inl ⟨by kernel_rfl, ?_⟩) (by assumption) ?_
                                  rotate_left
                                  · (intro w hSw; (try dsimp only at hSw); go_simp; (try with_reducible rfl))
                                  try simp only [List.getElem_toArray, List.getElem_cons_succ, List.getElem_cons_zero, Act.put, List.setIfInBounds_toArray, List.set_cons_zero, List.set_cons_succ]
                                  refine wpAnyH_take (i := 4) (v := ?_) rfl (by kernel_rfl) (by kernel_rfl) (by kernel_rfl) (fun _ _ _ h => h) (Or.inl ⟨by kernel_rfl, ?_⟩) (by assumption) ?_
                                  rotate_left
                                  · (intro w hSw; (try dsimp only at hSw); go_simp; (try with_reducible rfl))
                                  try simp only [List.getElem_toArray, List.getElem_cons_succ, List.getElem_cons_zero, Act.put, List.setIfInBounds_toArray, List.set_cons_zero, List.set_cons_succ]
                                  refine wpAnyH_take (i := 5) (v := ?_) rfl (by kernel_rfl) (by kernel_rfl) (by kernel_rfl) (fun _ _ _ h => h) (Or.inl ⟨by kernel_rfl, ?_⟩) (by assumption) ?_
                                  rotate_left
                                  · (intro w hSw; (try dsimp only at hSw); go_simp; (try with_reducible rfl))
                                  try simp only [List.getElem_toArray, List.getElem_cons_succ, List.getElem_cons_zero, Act.put, List.setIfInBounds_toArray, List.set_cons_zero, List.set_cons_succ]
                                  refine wpAnyH_take (i := 6) (v := ?_) rfl (by kernel_rfl) (by kernel_rfl) (by kernel_rfl) (fun _ _ _ h => h) (Or.inl ⟨by kernel_rfl, ?_⟩) (by assumption) ?_
                                  rotate_left
                                  · (intro w hSw; (try dsimp only at hSw); go_simp; (try with_reducible rfl))
                                  try simp only [List.getElem_toArray, List.getElem_cons_succ, List.getElem_cons_zero, Act.put, List.setIfInBounds_toArray, List.set_cons_zero, List.set_cons_succ]
                                  refine wpAnyH_take (i := 7) (v := ?_) rfl (by kernel_rfl) (by kernel_rfl) (by kernel_rfl) (fun _ _ _ h => h) (Or.inl ⟨by kernel_rfl, ?_⟩) (by assumption) ?_
                                  rotate_left
                                  · (intro w hSw; (try dsimp only at hSw); go_simp; (try with_reducible rfl))
                                  try simp only [List.getElem_toArray, List.getElem_cons_succ, List.getElem_cons_zero, Act.put, List.setIfInBounds_toArray, List.set_cons_zero, List.set_cons_succ]
                                  refine wpAnyH_take (i := 8) (v := ?_) rfl (by kernel_rfl) (by kernel_rfl) (by kernel_rfl) (fun _ _ _ h => h) (Or.inl ⟨by kernel_rfl, ?_⟩) (by assumption) ?_
                                  rotate_left
                                  · (intro w hSw; (try dsimp only at hSw); go_simp; (try with_reducible rfl))
                                  try simp only [List.getElem_toArray, List.getElem_cons_succ, List.getElem_cons_zero, Act.put, List.setIfInBounds_toArray, List.set_cons_zero, List.set_cons_succ]
                                  refine wpAnyH_take (i := 9) (v := ?_) rfl (by kernel_rfl) (by kernel_rfl) (by kernel_rfl) (fun _ _ _ h => h) (Or.inl ⟨by kernel_rfl, ?_⟩) (by assumption) ?_
                                  rotate_left
                                  · (intro w hSw; (try dsimp only at hSw); go_simp; (try with_reducible rfl))
                                  try simp only [List.getElem_toArray, List.getElem_cons_succ, List.getElem_cons_zero, Act.put, List.setIfInBounds_toArray, List.set_cons_zero, List.set_cons_succ]
                                  refine wpAnyH_take (i := 10) (v := ?_) rfl (by kernel_rfl) (by kernel_rfl) (by kernel_rfl) (fun _ _ _ h => h) (Or.inl ⟨by kernel_rfl, ?_⟩) (by assumption) ?_
                                  rotate_left
                                  · (intro w hSw; (try dsimp only at hSw); go_simp; (try with_reducible rfl))
                                  try simp only [List.getElem_toArray, List.getElem_cons_succ, List.getElem_cons_zero, Act.put, List.setIfInBounds_toArray, List.set_cons_zero, List.set_cons_succ]
                                  refine wpAnyH_ready (rs := [11]) (by kernel_rfl) (by simp) ?_
                                  refine AllReadyH.cons rfl (fun K hK => ?_) AllReadyH.nil
                                  go_simp
                                  refine (copy_own Ax sz cx xx W5.drew HRX.out (by have := HSB.out; omega)).mono ?_
                                  rintro e w7 ⟨A7, c7, rfl, ho7, hb7⟩
                                  have R7 := HR5.out.drew.below hb7
                                  have v7 := ValR.of_own ho7
                                  obtain ⟨u7, c9⟩ := R7.h2.any (i := d) (by rw [R7.ok.lo]; omega)
                                  have f9 := (R7.h2.frz d).1
                                  have c9b := cs_st (p := ⟨ga + 2, d, none⟩) (R7.h2.flag (i := d) (by rw [R7.ok.lo]; omega)) (by simp) (.slice A7 sz c7)
                                  have f9b := (R7.h2.hs.far (p := ⟨ga + 2, d, none⟩) (by simp) (.slice A7 sz c7)).frozen d
                                  have s7 : w7.cell? ⟨G, 1, none⟩ = some (.int .i64 (d : Int)) ∧ w7.cell? ⟨G, 2, none⟩ = some (.int .i64 (x : Int)) ∧ w7.cell? ⟨ga, x, none⟩ = some (.slice Ax sz cx) := ⟨(hb7.cell (p := ⟨G, 1, none⟩) lG).trans b1, (hb7.cell (p := ⟨G, 2, none⟩) lG).trans b2, (hb7.cell (p := ⟨ga, x, none⟩) lga).trans hcx⟩
                                  have s7a := cs_keep3 (p := ⟨ga + 2, d, none⟩) (x := .slice A7 sz c7) s7 (by show ga + 2 ≠ G; omega) (by show ga + 2 ≠ G; omega) (by show ga + 2 ≠ ga; omega)
                                  have s7b := cs_keep3 (p := ⟨ga + 3, d, none⟩) (x := .bool true) s7a (by show ga + 3 ≠ G; omega) (by show ga + 3 ≠ G; omega) (by show ga + 3 ≠ ga; omega)
                                  have R6 := R7.setOut d v7 HLX.out
                                  have HR6 := Lib.hid R6
                                  clear R7 v7 R6 ho7 hb7
                                  refine hK.out _ _ s7 (fun hHeld => ?_)
                                  clear hK K
                                  try simp only [List.getElem_toArray, List.getElem_cons_succ, List.getElem_cons_zero, Act.put, List.setIfInBounds_toArray, List.set_cons_zero, List.set_cons_succ]
                                  refine wpAnyH_take (i := 12) (v := ?_) rfl (by kernel_rfl) (by kernel_rfl) (by kernel_rfl) (fun _ _ _ h => h) (Or.inl ⟨by kernel_rfl, ?_⟩) (by assumption) ?_
                                  rotate_left
                                  · (intro w hSw; (try dsimp only at hSw); go_simp; (try with_reducible rfl))
                                  try simp only [List.getElem_toArray, List.getElem_cons_succ, List.getElem_cons_zero, Act.put, List.setIfInBounds_toArray, List.set_cons_zero, List.set_cons_succ]
                                  refine wpAnyH_ready (rs := [13]) (by kernel_rfl) (by simp) ?_
                                  refine AllReadyH.cons rfl (fun K hK => ?_) AllReadyH.nil
                                  go_simp
                                  refine hK.out _ _ s7a (fun hHeld => ?_)
                                  clear hK K
                                  try simp only [List.getElem_toArray, List.getElem_cons_succ, List.getElem_cons_zero, Act.put, List.setIfInBounds_toArray, List.set_cons_zero, List.set_cons_succ]
                                  refine wpAnyH_take (i := 14) (v := ?_) rfl (by kernel_rfl) (by kernel_rfl) (by kernel_rfl) (fun _ _ _ h => h) (Or.inl ⟨by kernel_rfl, ?_⟩) (by assumption) ?_
                                  rotate_left
                                  · (intro w hSw; (try dsimp only at hSw); go_simp; (try with_reducible rfl))
                                  try simp only [List.getElem_toArray, List.getElem_cons_succ, List.getElem_cons_zero, Act.put, List.setIfInBounds_toArray, List.set_cons_zero, List.set_cons_succ]
                                  refine wpAnyH_ready (rs := [15]) (by kernel_rfl) (by simp) ?_
                                  refine AllReadyH.cons rfl (fun K hK => ?_) AllReadyH.nil
                                  go_simp
                                  refine hK.out _ _ s7b (fun hHeld => ?_)
                                  clear hK K
                                  try simp only [List.getElem_toArray, List.getElem_cons_succ, List.getElem_cons_zero, Act.put, List.setIfInBounds_toArray, List.set_cons_zero, List.set_cons_succ]
                                  refine wpAnyH_done (by kernel_rfl) ?_ _
                                  go_wp2_with fail
                                  go_roundw
                                  case rel => exact ⟨i + 1, _, by omega, by go_num, by rw [HV.out, HSI.out, HRV.out]; rfl, HR6.out⟩
                                  case measure => simp [intOf]; omega
                              · have e2 : decide (D < (no : Int)) = false := decide_eq_false q2
                                clear hT
                                have HB9 := Lib.hid (HNO.out (by unfold rStep; rw [if_neg (by simp), if_neg (by simp), if_neg (by simp), if_pos rfl, if_neg (by simp only; omega)]))
                                go_wp2_with fail
                                go_ret2
                                exact HB9.out
                            · have e1 : decide (0 ≤ D) = false := decide_eq_false q1
                              clear hT
                              have HB9 := Lib.hid (HNO.out (by unfold rStep; rw [if_neg (by simp), if_neg (by simp), if_neg (by simp), if_pos rfl, if_neg (by simp only; omega)]))
                              go_wp2_with fail
                              go_ret2
                              exact HB9.out
                      · have k4b : (kk == 4) = false := by simpa using k4
                        have HB9 := Lib.hid (HNO.out (by simp [rStep, k1, k2, k3, k4]))
                        clear k1 k2 k3 k4
                        go_wp2_with fail
                        go_ret2
                        exact HB9.out
          · as_aux_lemma =>
              obtain rfl : i = l.length := by omega
              have hrun : rRun nr no sz L l ⟨List.replicate nr none, List.replicate no none, 0⟩ = some st := by rw [HV.out, List.drop_length]; rfl
              have p2 : wr.cell? ⟨w.heap.size, 2, none⟩ = some (.int .i64 (no : Int)) := hR.hp.cell 2
              have HRUN := Lib.hid hrun
              have HRW := Lib.hid hR
              clear hrun hR hv
              go_wp2_with fail
              go_loopw [16] (fun v16 wz => wz = wr ∧ ∃ j : Nat, j ≤ no ∧ v16 = .int .i64 (j : Int) ∧ ∀ i, i < j → (st.outs.getD i none).isSome = true) (fun v16 _ => no - (intOf v16).toNat)
              case atStart => exact ⟨rfl, 0, by omega, rfl, fun i h => absurd h (by omega)⟩
              case round =>
                obtain ⟨hwz, j, hj2, rfl, hall⟩ := hrel
                replace hwz := hwz.symm
                subst hwz
                have HALL := Lib.hid hall
                clear hall
                by_cases hjn : j < no
                · have j0 : (0 : Int) ≤ (j : Int) := by omega
                  have j1 : (j : Int) < (no : Int) := by omega
                  have f0 := HRW.out.h2.flag (i := j) (by rw [HRW.out.ok.lo]; exact hjn)
                  obtain ⟨fl, hfl⟩ : ∃ fl, fl = (st.outs.getD j none).isSome := ⟨_, rfl⟩
                  rw [← hfl] at f0
                  have HFL := Lib.hid hfl
                  clear hfl
                  cases fl with
                  | true =>
                    go_wp2_with fail
                    go_roundw
                    case rel => exact ⟨by first | trivial | rfl, j + 1, by omega, by go_num, fun i hi => by
                      rcases Nat.lt_or_ge i j with h | h
                      · exact HALL.out i h
                      · obtain rfl : i = j := by omega
                        exact HFL.out.symm⟩
                    case measure => simp [intOf]; omega
                  | false =>
                    have hnone : rAll nr no sz L l = none := by
                      unfold rAll
                      rw [HRUN.out]
                      refine if_neg fun h => ?_
                      have hlt : j < st.outs.length := by rw [HRW.out.ok.lo]; exact hjn
                      have h2 := h _ (List.getElem_mem hlt)
                      have h3 := HFL.out
                      rw [List.getD_eq_getElem?_getD, List.getElem?_eq_getElem hlt, Option.getD_some, h2] at h3
                      cases h3
                    have HNONE := Lib.hid hnone
                    clear hnone
                    go_wp2_with fail
                    go_ret2
                    exact ⟨HRW.out.hq, fun h => absurd HR.out h, fun _ h => absurd HLIM.out h, fun _ _ _ => rfl, fun _ _ st' h' => by rw [Int.toNat_natCast, Int.toNat_natCast, ← HSZ.out, HNONE.out] at h'; cases h'⟩
                · obtain rfl : j = no := by omega
                  have hsome : rAll nr j sz L l = some st := by
                    unfold rAll
                    rw [HRUN.out]
                    refine if_pos fun o ho => ?_
                    obtain ⟨i, hi, rfl⟩ := List.getElem_of_mem ho
                    have := HALL.out i (by rw [← HRW.out.ok.lo]; exact hi)
                    rw [List.getD_eq_getElem?_getD, List.getElem?_eq_getElem hi, Option.getD_some] at this
                    exact this
                  have HSOME := Lib.hid hsome
                  clear hsome
                  go_wp2_with fail
                  go_ret2
                  refine ⟨HRW.out.hq, fun h => absurd HR.out h, fun _ h => absurd HLIM.out h, fun _ _ h => ?_, fun _ _ st' h' => ?_⟩
                  · rw [Int.toNat_natCast, Int.toNat_natCast, ← HSZ.out, HSOME.out] at h
                    cases h
                  · rw [Int.toNat_natCast, Int.toNat_natCast, ← HSZ.out, HSOME.out] at h'
                    cases h'
                    have hga := HRW.out.hga
                    exact ⟨ga + 2, ga + 3, by omega, by omega, rfl, HRW.out.h2⟩
      · have hcs : r < 0 ∨ (0 ≤ r ∧ 256 < r) ∨ (0 ≤ r ∧ r ≤ 256 ∧ o < 0) ∨ (0 ≤ r ∧ r ≤ 256 ∧ 0 ≤ o ∧ 64 < o) ∨ (0 ≤ r ∧ r ≤ 256 ∧ 0 ≤ o ∧ o ≤ 64 ∧ 65536 < l.length) := by unfold LimB at hlim; omega
        have HN := Lib.hid (show RunR w l r o L (.returned (.tuple #[.slice none 0 0, .int .i64 2])) wr from ⟨HS.out.below, fun h => absurd HR.out h, fun _ _ => rfl, fun _ h => absurd h hlim, fun _ h => absurd h hlim⟩)
        clear hlim
        rcases hcs with h1 | ⟨h1, h2⟩ | ⟨h1, h2, h3⟩ | ⟨h1, h2, h3, h4⟩ | ⟨h1, h2, h3, h4, h5⟩
        · have d1 : decide (r < 0) = true := decide_eq_true h1
          go_wp2_with fail
          go_ret2
          exact HN.out
        · have d1 : decide (r < 0) = false := decide_eq_false (by omega)
          have d2 : decide (256 < r) = true := decide_eq_true h2
          go_wp2_with fail
          go_ret2
          exact HN.out
        · have d1 : decide (r < 0) = false := decide_eq_false (by omega)
          have d2 : decide (256 < r) = false := decide_eq_false (by omega)
          have d3 : decide (o < 0) = true := decide_eq_true h3
          go_wp2_with fail
          go_ret2
          exact HN.out
        · have d1 : decide (r < 0) = false := decide_eq_false (by omega)
          have d2 : decide (256 < r) = false := decide_eq_false (by omega)
          have d3 : decide (o < 0) = false := decide_eq_false (by omega)
          have d4 : decide (64 < o) = true := decide_eq_true h4
          go_wp2_with fail
          go_ret2
          exact HN.out
        · have d1 : decide (r < 0) = false := decide_eq_false (by omega)
          have d2 : decide (256 < r) = false := decide_eq_false (by omega)
          have d3 : decide (o < 0) = false := decide_eq_false (by omega)
          have d4 : decide (64 < o) = false := decide_eq_false (by omega)
          have d5 : decide ((65536 : Int) < (l.length : Int)) = true := decide_eq_true (by omega)
          go_wp2_with fail
          go_ret2
          exact HN.out
end Go.Proofs.Ythbjcafldbocpaa
namespace Go.Proofs.Ythbjcafldbocpaa
open Go.RowKit Go.Proofs.YthbjcafldbocpaaW.PrintWords Go.Proofs.Ythbjcafldbocpaa.P0
set_option linter.unusedVariables false
set_option linter.unusedSimpArgs false
theorem RunR.any {w : World} {l : List S59} {r o : Int} {L : List (List UInt8)} {e : Ending} {w' : World} (h : RunR w l r o L e w') : ∃ v h, e = .returned (.tuple #[v, .int .i64 h]) ∧ Below w.heap.size w w' := by
  obtain ⟨hb, h1, h2, h3, h4⟩ := h
  by_cases hr : Rect L
  · by_cases hl : LimB l r o
    · cases hv : rAll r.toNat o.toNat (sizeL L) L l with
      | none => exact ⟨_, _, h3 hr hl hv, hb⟩
      | some st =>
        obtain ⟨gz, gd, _, _, e, _⟩ := h4 hr hl st hv
        exact ⟨_, _, e, hb⟩
    · exact ⟨_, _, h2 hr hl, hb⟩
  · exact ⟨_, _, h1 hr, hb⟩
theorem rowOf_outs {m : Nat} : ∀ (sa : List (Option (List UInt8))) (i : Nat), (∀ o ∈ sa, ∃ x, o = some x ∧ x.length = m) → (h : i < sa.length) → sa[i] = some (rowOf m (outsD sa) i)
  | a :: sa, 0, ha, h => by
    obtain ⟨x, rfl, lx⟩ := ha a (by simp)
    show some x = some (((x ++ outsD sa).drop (0 * m)).take m)
    rw [Nat.zero_mul, List.drop_zero, List.take_append_of_le_length (by omega), List.take_of_length_le (by omega)]
  | a :: sa, i + 1, ha, h => by
    obtain ⟨x, rfl, lx⟩ := ha a (by simp)
    have ih := rowOf_outs sa i (fun o h => ha o (by simp [h])) (by simpa using h)
    rw [List.getElem_cons_succ, ih]
    show some _ = some (((x ++ outsD sa).drop ((i + 1) * m)).take m)
    rw [List.drop_append, List.drop_eq_nil_of_le (by rw [Nat.add_mul]; omega), List.nil_append, lx, show (i + 1) * m - m = i * m by rw [Nat.add_mul]; omega]
    rfl
theorem outs_apply {no m sz : Nat} {L : List (List UInt8)} {st : VS} (ha : ∀ o ∈ st.outs, ∃ x, o = some x ∧ x.length = m) (hl : st.outs.length = no) : (mapV m sz L st).outs = (applyL no m sz L (outsD st.outs)).map some := by
  apply List.ext_getElem (by simp [mapV, applyL, hl])
  intro i h1 h2
  have hi : i < st.outs.length := by simpa [mapV] using h1
  simp only [mapV, List.getElem_map, applyL, List.getElem_range]
  rw [rowOf_outs st.outs i ha hi]
  rfl
end Go.Proofs.Ythbjcafldbocpaa
namespace Go.Proofs.Ythbjcafldbocpaa
open Go.RowKit Go.Proofs.YthbjcafldbocpaaW.PrintWords Go.Proofs.Ythbjcafldbocpaa.P0
set_option linter.unusedVariables false
set_option linter.unusedSimpArgs false
theorem likeB_self (r c : Int) (xs : List UInt8) : likeB r c xs r c xs = true := by simp [likeB, sameB_self]
def slV (gy j : Nat) : List Value := (List.range j).map fun i => .slice (some ⟨gy, i, none⟩) 1 1
theorem slV_succ (gy j : Nat) : slV gy (j + 1) = slV gy j ++ [.slice (some ⟨gy, j, none⟩) 1 1] := by
  unfold slV
  rw [List.range_succ, List.map_append]
  rfl
theorem own_gy {w : World} {base n c : Nat} {A : Option Addr} {xs : List UInt8} (h : OwnB w base A n c xs) : ∃ gy, (0 < n → A = some ⟨gy, 0, none⟩) ∧ n ≤ c := by
  refine ⟨match A with | some a => a.block | none => 0, fun hn => ?_, own_le h⟩
  rcases h.2.2 with ⟨h1, h2⟩ | ⟨g, c2, cur, hv, _⟩
  · omega
  · injection hv with h1 _ _
    subst h1
    rfl
theorem rdl_singles {w : World} {base m : Nat} {v : Value} {gy : Nat} {A : Option Addr} {y : List UInt8} (hv : w.ownsRow base 35 1 v m (slV gy m)) (hy : y.length = m) (hA : 0 < m → A = some ⟨gy, 0, none⟩) (hr : Rd w w.heap.size A m (bVs y)) : ∃ A' c', v = .slice A' m c' ∧ m ≤ c' ∧ RdL w w.heap.size A' (singles y) := by
  rcases hv.2 with ⟨rfl, rfl⟩ | ⟨g, cap, cur, rfl, hb, hg, hc, hm, hs, ht⟩
  · exact ⟨none, 0, rfl, Nat.le_refl _, fun i hi => by rw [singles_length, hy] at hi; omega⟩
  · refine ⟨some ⟨g, 0, none⟩, cap, rfl, hc, fun i hi => ?_⟩
    rw [singles_length, hy] at hi
    have hcell : w.cell? ⟨g, 0 + i, none⟩ = some (.slice (some ⟨gy, i, none⟩) 1 1) := by
      have h1 := World.ownsRow.cells hv (g := g) rfl i (.slice (some ⟨gy, i, none⟩) 1 1) (by simp [slV, hi])
      rw [addr_add] at h1
      exact h1
    obtain ⟨g1, o1, e1, hg1, hc1⟩ := hr.2 (by omega)
    rw [hA (by omega)] at e1
    simp only [Option.some.injEq, Addr.mk.injEq, and_true] at e1
    obtain ⟨rfl, rfl⟩ := e1
    refine ⟨g, 0, some ⟨gy, i, none⟩, 1, rfl, heap_lt hg, by rw [singles_get y (by omega)]; exact hcell, by rw [singles_get y (by omega)]; exact Nat.le_refl _, by rw [singles_get y (by omega)]; simp, ?_⟩
    rw [singles_get y (by omega)]
    refine ⟨rfl, fun _ => ⟨gy, i, rfl, hg1, fun j u hu => ?_⟩⟩
    cases j with
    | zero =>
      have h2 := hc1 i (.int .u8 ((y.getD i 0).toNat : Int)) (by rw [bVs_get y i (by omega)]; simp [List.getD_eq_getElem?_getD, show i < y.length by omega])
      rw [Nat.zero_add] at h2
      simp [bVs] at hu
      rw [← hu]
      simpa using h2
    | succ j => simp [bVs] at hu
theorem Cx.poke {w0 w : World} {bs : List (Nat × TypeId × List Value)} {rs : List (Option Addr × Nat × List UInt8)} (h : Cx w0 w bs rs) {g : Nat} (hg : w0.heap.size ≤ g) (hne : ∀ b ∈ bs, b.1 ≠ g) (i : Nat) (u : Value) : Cx w0 (w.setCell ⟨g, i, none⟩ u) bs [] :=
  ⟨h.below.setCell hg u, fun b hm => (h.rows b hm).far (hne b hm) u, fun r hm => absurd hm (by simp)⟩
theorem own_gy2 {w : World} {base n c : Nat} {A : Option Addr} {xs : List UInt8} (h : OwnB w base A n c xs) (hn : 0 < n) : ∃ gy, A = some ⟨gy, 0, none⟩ := by
  obtain ⟨gy, h1, _⟩ := own_gy h
  exact ⟨gy, h1 hn⟩
theorem poke_facts {w W : World} {base n c ng g : Nat} {B : Option Addr} {X xs : List UInt8} {bs : List (Nat × TypeId × List Value)} {rs : List (Option Addr × Nat × List UInt8)} (ho : OwnB W base (some ⟨g, 0, none⟩) n c X) (hx : Rd w w.heap.size B ng (bVs xs)) (S : Cx w W bs rs) (hb : w.heap.size ≤ base) (hn : 0 < n) (ht : ∀ b ∈ bs, b.2.1 ≠ 5) :
    W.cell? ⟨g, 0, none⟩ = some (.int .u8 ((X.getD 0 0).toNat : Int)) ∧ W.frozen? ⟨g, 0, none⟩ = false ∧ ∀ v : UInt8, Cx w (W.setCell ⟨g, 0, none⟩ (.int .u8 (v.toNat : Int))) bs [(some ⟨g, 0, none⟩, n, X.set 0 v), (B, ng, xs)] := by
  have hl := ho.1
  have hgb := (ho.row g rfl).1
  obtain ⟨g', e', _, _, hc, hf⟩ := ho.at_ hn
  simp only [Option.some.injEq, Addr.mk.injEq, and_true] at e'
  subst e'
  refine ⟨hc, hf, fun v => ?_⟩
  · have hne : ∀ b ∈ bs, b.1 ≠ g := by
      rintro b hm rfl
      rcases ho.2.2 with ⟨h0, _⟩ | ⟨g', k, cells, hv, _, hh, _⟩
      · cases h0
      · injection hv with hv1 _ _
        injection hv1 with hv1
        injection hv1 with hv1
        subst hv1
        exact ht b hm (row_type (S.rows b hm) hh)
    have h2 := S.poke (by omega : w.heap.size ≤ g) hne 0 (.int .u8 (v.toNat : Int))
    exact (h2.add (hx.go h2.below)).add (ho.store 0 v).rd
set_option maxRecDepth 100000 in
set_option maxHeartbeats 1600000 in
theorem verifyAll_no {w : World} {A B Y : Option Addr} {c nl ng kg nd kd : Nat} {r o q gr gc : Int} {xs : List UInt8} (a : Int × Int × List UInt8 × Int) (eh : Int) (hx : Rd w w.heap.size B ng (bVs xs)) (hcond : a.2.2.2 ≠ 0 ∨ (a.2.2.2 = 0 ∧ eh ≠ 0) ∨ (a.2.2.2 = 0 ∧ eh = 0 ∧ (nd : Int) ≠ gc))
    (H1 : Hid (∀ w1, Below w.heap.size w w1 → Calls Try.prog 13 #[.agg #[.slice A nl c, .int .i64 r, .int .i64 o, .int .u64 q], .int .i64 gr] w1 fun e w' => MatE w' w1.heap.size a.1 a.2.1 a.2.2.1 a.2.2.2 e ∧ Below w1.heap.size w1 w'))
    (H2 : Hid (∀ w1 Aa ca, Rd w1 w1.heap.size Aa a.2.2.1.length (bVs a.2.2.1) → a.2.2.1.length ≤ ca → Rd w1 w1.heap.size B ng (bVs xs) → Calls Try.prog 28 #[.agg #[.int .i64 a.1, .int .i64 a.2.1, .slice Aa a.2.2.1.length ca], .agg #[.int .i64 gr, .int .i64 gc, .slice B ng kg]] w1 fun e w' => ∃ x y g p cap, e = .returned (.tuple #[.agg #[.int .i64 x, .int .i64 y, .slice g p cap], .int .i64 eh]) ∧ Below w1.heap.size w1 w')) :
    Calls Try.prog 9 #[progV A nl c r o q, mV gr gc B ng kg, .slice Y nd kd] w fun e w' => e = .returned (.bool true) ∧ Below w.heap.size w w' := by
  obtain ⟨ar, ac, ad, ae⟩ := a
  unfold progV
  have S := (((Cx.start w).add hx).box 26 [.slice A nl c, .int .i64 r, .int .i64 o, .int .u64 q]).box 37 [.int .i64 gr, .int .i64 gc, .slice B ng kg]
  simp only [World.size_alloc] at S
  simp only at hcond H2
  go_enter Try.func9, Try.ntmps9
  go_wp2_with fail
  refine (H1.out _ S.below).mono ?_
  rintro e w1 ⟨⟨va, ba, hba, rfl, oa⟩, hb1⟩
  obtain ⟨Aa, ca, rfl, hxa⟩ := oa.slice
  have HLE := Lib.hid (own_le hxa)
  replace S := ((S.go hb1).add hxa.rd).box 37 [.int .i64 ar, .int .i64 ac, .slice Aa ad.length ca]
  clear hb1 oa hxa
  obtain ⟨c0, c1, c2⟩ := S.cells3 0 rfl
  obtain ⟨d0, d1, d2⟩ := S.cells3 1 rfl
  go_wp2_with fail
  refine (H2.out _ _ _ (S.rd 0 rfl) HLE.out (S.rd 1 rfl)).mono ?_
  rintro e w2 ⟨x, y, g, p, cap, rfl, hb2⟩
  replace S := (S.go hb2).box 37 [.int .i64 x, .int .i64 y, .slice g p cap]
  clear hb2 c0 c1 c2 d0 d1 d2
  obtain ⟨d0, d1, d2⟩ := S.cells3 2 rfl
  rcases hcond with h1 | ⟨h1, h2⟩ | ⟨h1, h2, h3⟩
  · have t1 : (ae != 0) = true := by simpa using h1
    clear h1
    go_wp2_with fail
    refine (anchored25_calls _).mono ?_
    rintro e w4 ⟨rfl, hb4⟩
    replace S := S.go hb4
    clear hb4
    go_wp2_with fail
    go_ret
    exact ⟨rfl, S.below⟩
  · subst h1
    have t2 : (eh != 0) = true := by simpa using h2
    clear h2
    go_wp2_with fail
    refine (anchored25_calls _).mono ?_
    rintro e w4 ⟨rfl, hb4⟩
    replace S := S.go hb4
    clear hb4
    go_wp2_with fail
    go_ret
    exact ⟨rfl, S.below⟩
  · subst h1 h2
    have t3 : ((nd : Int) != gc) = true := by simpa using h3
    clear h3
    go_wp2_with fail
    refine (anchored25_calls _).mono ?_
    rintro e w4 ⟨rfl, hb4⟩
    replace S := S.go hb4
    clear hb4
    go_wp2_with fail
    go_ret
    exact ⟨rfl, S.below⟩
set_option maxRecDepth 100000 in
set_option maxHeartbeats 4000000 in
theorem verifyAll_yes {w : World} {A B Y : Option Addr} {c ng kg kd no m k : Nat} {l : List S59} {r q : Int} {ad xs ds : List UInt8} {st : VS} (hC : Kd.C k59 w A l.length l) (hb : ∀ s ∈ l, byteB s.f3 = true) (hm : mayB l r (no : Int) = true)
    (hst : rAll r.toNat no (sizeL (singles (mulG m k 1 xs ds))) (singles (mulG m k 1 xs ds)) l = some st) (hso : st.outs = (applyL no m (sizeL (singles (mulG m k 1 xs ds))) (singles (mulG m k 1 xs ds)) ad).map some)
    (hno : no ≤ 64) (hm64 : m ≤ 64) (hk : k ≤ 64) (had : ad.length = no * m) (hxl : xs.length = m * k) (hdl : ds.length = k)
    (hx : Rd w w.heap.size B ng (bVs xs)) (hkg : ng ≤ kg) (hd : Rd w w.heap.size Y k (bVs ds)) (hkd : k ≤ kd)
    (H1 : Hid (∀ w1, Below w.heap.size w w1 → Calls Try.prog 13 #[.agg #[.slice A l.length c, .int .i64 r, .int .i64 (no : Int), .int .u64 q], .int .i64 (m : Int)] w1 fun e w' => MatE w' w1.heap.size (no : Int) (m : Int) ad 0 e ∧ Below w1.heap.size w1 w')) :
    Calls Try.prog 9 #[progV A l.length c r (no : Int) q, mV (m : Int) (k : Int) B ng kg, .slice Y k kd] w fun e w' => e = .returned (.bool true) ∧ Below w.heap.size w w' := by
  obtain ⟨p, hp⟩ : ∃ p, p = no * k := ⟨_, rfl⟩
  obtain ⟨X, hX⟩ : ∃ X, X = mulG no m k ad xs := ⟨_, rfl⟩
  obtain ⟨y, hy⟩ : ∃ y, y = mulG m k 1 xs ds := ⟨_, rfl⟩
  obtain ⟨z, hz⟩ : ∃ z, z = mulG no k 1 X ds := ⟨_, rfl⟩
  have hng : ng = m * k := by have := hx.len; rw [bVs_length, hxl] at this; exact this.symm
  have lX : X.length = p := by rw [hX, hp]; exact grid_length _ _ _
  have ly : y.length = m := by rw [hy]; exact mul1_length
  have lz : z.length = no := by rw [hz]; exact mul1_length
  have hzy : z = mulG no m 1 ad y := by rw [hz, hX, hy, mul_groups]
  have HHm := Lib.hid hm
  have HST := Lib.hid hst
  have HSO := Lib.hid hso
  have HC := Lib.hid hC
  have HB := Lib.hid hb
  have HAD := Lib.hid had
  have HXL := Lib.hid hxl
  have HDL := Lib.hid hdl
  have HP := Lib.hid hp
  have HX := Lib.hid hX
  have HY := Lib.hid hy
  have HZ := Lib.hid hz
  have HNG := Lib.hid hng
  have HLX := Lib.hid lX
  have HLY := Lib.hid ly
  have HLZ := Lib.hid lz
  have HZY := Lib.hid hzy
  unfold progV
  have S := ((((Cx.start w).add hx).add hd).box 26 [.slice A l.length c, .int .i64 r, .int .i64 (no : Int), .int .u64 q]).box 37 [.int .i64 (m : Int), .int .i64 (k : Int), .slice B ng kg]
  simp only [World.size_alloc] at S
  have HX0 := Lib.hid hx
  clear hm hst hso hC hb had hxl hdl hp hX hy hz hng lX ly lz hzy hx hd
  have t3 : (((k : Nat) : Int) != ((k : Nat) : Int)) = false := by simp
  go_enter Try.func9, Try.ntmps9
  go_wp2_with fail
  refine (H1.out _ S.below).mono ?_
  rintro e w1 ⟨⟨va, ba, hba, rfl, oa⟩, hb1⟩
  obtain ⟨Aa, ca, rfl, hxa⟩ := oa.slice
  have HLE := Lib.hid (own_le hxa)
  replace S := ((S.go hb1).add hxa.rd).box 37 [.int .i64 (no : Int), .int .i64 (m : Int), .slice Aa ad.length ca]
  clear hb1 oa hxa
  obtain ⟨na, hna⟩ : ∃ na, na = ad.length := ⟨_, rfl⟩
  rw [← hna] at S HLE ⊢
  have HNA := Lib.hid (show na = no * m from hna.trans HAD.out)
  clear hna
  obtain ⟨c0, c1, c2⟩ := S.cells3 0 rfl
  obtain ⟨d0, d1, d2⟩ := S.cells3 1 rfl
  go_wp2_with fail
  have HBA := Lib.hid S.below.size
  refine (refMul_nat no m k Aa na ca ad B ng kg xs _ hno hm64 hk HNA.out HNG.out (S.rd 0 rfl) HLE.out (S.rd 2 rfl) hkg).mono ?_
  rintro e w2 ⟨g2, cap2, rfl, ho2, hb2⟩
  rw [← HP.out, ← HX.out] at ho2
  rw [← HP.out]
  replace S := ((S.go hb2).add ho2.rd).box 37 [.int .i64 (no : Int), .int .i64 (k : Int), .slice g2 p cap2]
  have HO2 := Lib.hid (OwnB.below ho2 ((Below.refl _ _).alloc (Nat.le_refl _) (.cells [Value.int .i64 (no : Int), .int .i64 (k : Int), .slice g2 p cap2].toArray 37)) (Nat.le_refl _))
  have HW1 := Lib.hid hb2.size
  have HLE2 := Lib.hid (own_le ho2)
  clear hb2 ho2 c0 c1 c2 d0 d1 d2
  obtain ⟨c0, c1, c2⟩ := S.cells3 0 rfl
  obtain ⟨d0, d1, d2⟩ := S.cells3 2 rfl
  obtain ⟨p0, p1, p2, p3⟩ := S.cells4 3 rfl
  go_wp2_with fail
  have hrw : rightB (no : Int) (k : Int) p = true := by rw [HP.out]; simp [rightB]; omega
  have hdo := does_yes (wc := 0) (c := c) (nl := l.length) (A := A) (r := r) (q := q) (wr := (no : Int)) (kw := cap2) (S.rd 3 rfl) (S.rd 0 rfl) hkg hno hm64 hk HNG.out HAD.out hrw (Lib.hid fun w1 hw => H1.out w1 (S.below.trans (hw.mono S.below.size)))
  rw [← HX.out, likeB_self] at hdo
  refine hdo.mono ?_
  clear hrw hdo
  rintro e w3 ⟨rfl, hb3⟩
  replace S := S.go hb3
  replace HO2 := Lib.hid (OwnB.below HO2.out hb3 (by simp))
  clear hb3 c0 c1 c2 d0 d1 d2 p0 p1 p2 p3
  obtain ⟨d0, d1, d2⟩ := S.cells3 2 rfl
  go_wp2_with fail
  refine (rapply3_calls hm64 hk HXL.out HDL.out (S.rd 3 rfl) hkg (S.rd 2 rfl) hkd).mono ?_
  rintro e w4 ⟨Ay, cy, rfl, hoy, hb4⟩
  rw [← HY.out] at hoy
  obtain ⟨gy, hgy, hly⟩ := own_gy hoy
  replace S := (S.go hb4).add hoy.rd
  have HO4 := Lib.hid (OwnB.below HO2.out hb4 (by simp))
  have HHY := Lib.hid hgy
  have HS4 := Lib.hid S
  clear hb4 HO2 hoy hgy S d0 d1 d2
  go_wp2_with fail
  go_loopw [15, 16] (fun v15 v16 wr => ∃ j : Nat, j ≤ m ∧ v16 = .int .i64 (j : Int) ∧ wr.ownsRow w4.heap.size 35 1 v15 j (slV gy j) ∧ Below w4.heap.size w4 wr) (fun _ v16 _ => m - (intOf v16).toNat)
  case atStart => exact ⟨0, by omega, rfl, World.ownsRow_nil _ _ _ _, Below.refl _ _⟩
  case round =>
    obtain ⟨j, hj, rfl, how, hbw⟩ := hrel
    have HOW := Lib.hid how
    have HBW := Lib.hid hbw
    by_cases hlt : j < m
    · obtain rfl := HHY.out (by omega)
      have i0 : (0 : Int) ≤ (j : Int) := by omega
      obtain ⟨pp, hpp⟩ : ∃ pp, pp = j + 1 := ⟨_, rfl⟩
      have hw : IntKind.i64.wrap ((j : Int) + 1) = (pp : Int) := by rw [IntKind.wrap_i64]; omega
      have q1 : (j : Int) ≤ (pp : Int) := by omega
      have q2 : (pp : Int) ≤ (m : Int) := by omega
      have q3 : (pp : Int) ≤ (cy : Int) := by omega
      have q4 : pp - j = 1 := by omega
      have q5 : pp ≤ cy := by omega
      have q6 : j ≤ pp := by omega
      have HPP := Lib.hid hpp
      clear hpp how hbw
      go_upto_region 13 with fail
      go_wp2_with (at_builtin; refine wpList_append_one 34 35 (.slice none 0 0) 24 Try.underlying34 nil_info rfl (.tmp 76) (.tmp 84) rfl rfl w4.heap.size _ j (slV gy j) (.slice (some ⟨gy, j, none⟩) 1 1) rfl rfl HOW.out _ rfl (by simp) (by simp only [maxLen]; omega) (by omega) (by have := HBW.out.size; omega) ?_; intro v1 w9 ho9 hb9 hg9)
      have HO9 := Lib.hid ho9
      have HB9 := Lib.hid (HBW.out.trans hb9)
      clear ho9 hb9 hg9
      go_wp2_with fail
      go_roundw
      case rel => exact ⟨j + 1, by omega, by go_num, by rw [slV_succ]; exact HO9.out, HB9.out⟩
      case measure => simp [intOf] <;> omega
    · obtain rfl : j = m := by omega
      have SW := HS4.out.go hbw
      obtain ⟨A6, c6, rfl, hc6, hrdl⟩ := rdl_singles how HLY.out HHY.out (SW.rd 0 rfl)
      have hO5 := OwnB.below HO4.out hbw (by simp)
      have hrun := run23_calls (c := c) (cB := c6) (r := r) (o := (no : Int)) (q := q) (stepsZ_of (Kd.C_below HC.out SW.below) HB.out) hrdl (by rw [singles_length, HLY.out]; omega) (fun b hb => by
        obtain ⟨x, _, rfl⟩ := List.mem_map.1 hb
        simp)
      rw [singles_length, HLY.out] at hrun
      have HRUN := Lib.hid hrun
      have HO5 := Lib.hid hO5
      have HSW := Lib.hid SW
      obtain ⟨p0, p1, p2, p3⟩ := SW.cells4 3 rfl
      clear how hbw HOW HBW SW hO5 hrun hrdl HO4 HS4
      go_wp2_with fail
      refine HRUN.out.mono ?_
      rintro e w7 ⟨hb7, _, _, _, h4⟩
      have hrect : Rect (singles y) := fun i hi => by
        rw [singles_length] at hi
        rw [singles_rect i hi]
        unfold sizeL
        rw [singles_rect 0 (by omega)]
      obtain ⟨gz, gd, hgz, hgd, rfl, hbk⟩ := h4 hrect (by
        have h5 := HHm.out
        unfold mayB at h5
        rw [Bool.and_eq_true, decide_eq_true_eq] at h5
        unfold LimB
        omega) st (by rw [Int.toNat_natCast, HY.out]; exact HST.out)
      have hbk2 : Bank w7 gz gd ((applyL no j (sizeL (singles y)) (singles y) ad).map some) := by rw [← HY.out] at HSO; rw [← HSO.out]; exact hbk
      rw [Int.toNat_natCast]
      have S7 := HSW.out.go hb7
      have HBK := Lib.hid hbk2
      have HO7 := Lib.hid (OwnB.below HO5.out hb7 (by simp))
      have HS7 := Lib.hid S7
      obtain ⟨d0, d1, d2⟩ := S7.cells3 0 rfl
      clear h4 hbk hbk2 hb7 S7 p0 p1 p2 p3 HRUN HO5 HSW hgz hgd hrect
      go_wp2_with fail
      refine (rapply3_calls hno hk (HLX.out.trans HP.out) HDL.out (HS7.out.rd 1 rfl) HLE2.out (HS7.out.rd 3 rfl) hkd).mono ?_
      rintro e w8 ⟨Az, cz, rfl, hoz, hb8⟩
      rw [← HZ.out] at hoz
      obtain ⟨gzz, hgzz, hlz⟩ := own_gy hoz
      have HGZ := Lib.hid hgzz
      clear hgzz
      have S8 := (HS7.out.go hb8).add hoz.rd
      have HBK8 := Lib.hid (HBK.out.below hb8)
      have HO8 := Lib.hid (OwnB.below HO7.out hb8 (by simp))
      have HS8 := Lib.hid S8
      have t8 : (((no : Nat) : Int) != ((no : Nat) : Int)) = false := by simp
      clear hb8 S8 hoz HBK HO7 HS7 d0 d1 d2
      go_wp2_with fail
      go_loopw [21] (fun v21 wr => ∃ i : Nat, i ≤ no ∧ v21 = .int .i64 (i : Int) ∧ Below w8.heap.size w8 wr) (fun v21 _ => no - (intOf v21).toNat)
      case atStart => exact ⟨0, by omega, rfl, Below.refl _ _⟩
      case round =>
        obtain ⟨i, hi, rfl, hbr⟩ := hrel
        have HBR := Lib.hid hbr
        by_cases hin : i < no
        · have i0 : (0 : Int) ≤ (i : Int) := by omega
          have i1 : (i : Int) < (no : Int) := by omega
          obtain rfl := HGZ.out (by omega)
          by_cases hj0 : j = 0
          · have e1 : decide ((0 : Int) < (j : Int)) = false := decide_eq_false (by omega)
            have e2 : decide (0 < j) = false := decide_eq_false (by omega)
            clear hj0
            have HBD := Lib.hid (Below.drew hbr)
            clear hbr
            go_wp2_with fail
            refine wp_region_held_drew (S := fun _ => True) (by kernel_rfl) trivial (fun hHeld => ?_)
            refine wpAnyH_take (i := 0) (v := ?_) rfl (by kernel_rfl) (by kernel_rfl) (by kernel_rfl) (fun _ _ _ h => h) (Or.inl ⟨by kernel_rfl, ?_⟩) (by assumption) ?_
            rotate_left
            · (intro w hSw; (try dsimp only at hSw); go_simp; (try with_reducible rfl))
            try simp only [List.getElem_toArray, List.getElem_cons_succ, List.getElem_cons_zero, Act.put, List.setIfInBounds_toArray, List.set_cons_zero, List.set_cons_succ]
            refine wpAnyH_take (i := 1) (v := ?_) rfl (by kernel_rfl) (by kernel_rfl) (by kernel_rfl) (fun _ _ _ h => h) (Or.inl ⟨by kernel_rfl, ?_⟩) (by assumption) ?_
            rotate_left
            · (intro w hSw; (try dsimp only at hSw); go_simp; (try with_reducible rfl))
            try simp only [List.getElem_toArray, List.getElem_cons_succ, List.getElem_cons_zero, Act.put, List.setIfInBounds_toArray, List.set_cons_zero, List.set_cons_succ]
            refine wpAnyH_take (i := 2) (v := ?_) rfl (by kernel_rfl) (by kernel_rfl) (by kernel_rfl) (fun _ _ _ h => h) (Or.inl ⟨by kernel_rfl, ?_⟩) (by assumption) ?_
            rotate_left
            · (intro w hSw; (try dsimp only at hSw); go_simp; (try with_reducible rfl))
            try simp only [List.getElem_toArray, List.getElem_cons_succ, List.getElem_cons_zero, Act.put, List.setIfInBounds_toArray, List.set_cons_zero, List.set_cons_succ]
            refine wpAnyH_take (i := 3) (v := ?_) rfl (by kernel_rfl) (by kernel_rfl) (by kernel_rfl) (fun _ _ _ h => h) (Or.inl ⟨by kernel_rfl, ?_⟩) (by assumption) ?_
            rotate_left
            · (intro w hSw; (try dsimp only at hSw); go_simp; (try with_reducible rfl))
            try simp only [List.getElem_toArray, List.getElem_cons_succ, List.getElem_cons_zero, Act.put, List.setIfInBounds_toArray, List.set_cons_zero, List.set_cons_succ]
            refine wpAnyH_take (i := 4) rfl (by kernel_rfl) (by kernel_rfl) (by kernel_rfl) (fun _ _ _ h => h) (Or.inr ⟨by kernel_rfl, rfl⟩) (by assumption) ?_
            try simp only [List.getElem_toArray, List.getElem_cons_succ, List.getElem_cons_zero, Act.put, List.setIfInBounds_toArray, List.set_cons_zero, List.set_cons_succ]
            refine wpAnyH_take (i := 5) rfl (by kernel_rfl) (by kernel_rfl) (by kernel_rfl) (fun _ _ _ h => h) (Or.inr ⟨by kernel_rfl, rfl⟩) (by assumption) ?_
            try simp only [List.getElem_toArray, List.getElem_cons_succ, List.getElem_cons_zero, Act.put, List.setIfInBounds_toArray, List.set_cons_zero, List.set_cons_succ]
            refine wpAnyH_take (i := 6) rfl (by kernel_rfl) (by kernel_rfl) (by kernel_rfl) (fun _ _ _ h => h) (Or.inr ⟨by kernel_rfl, rfl⟩) (by assumption) ?_
            try simp only [List.getElem_toArray, List.getElem_cons_succ, List.getElem_cons_zero, Act.put, List.setIfInBounds_toArray, List.set_cons_zero, List.set_cons_succ]
            refine wpAnyH_take (i := 7) rfl (by kernel_rfl) (by kernel_rfl) (by kernel_rfl) (fun _ _ _ h => h) (Or.inr ⟨by kernel_rfl, rfl⟩) (by assumption) ?_
            try simp only [List.getElem_toArray, List.getElem_cons_succ, List.getElem_cons_zero, Act.put, List.setIfInBounds_toArray, List.set_cons_zero, List.set_cons_succ]
            refine wpAnyH_take (i := 8) rfl (by kernel_rfl) (by kernel_rfl) (by kernel_rfl) (fun _ _ _ h => h) (Or.inr ⟨by kernel_rfl, rfl⟩) (by assumption) ?_
            try simp only [List.getElem_toArray, List.getElem_cons_succ, List.getElem_cons_zero, Act.put, List.setIfInBounds_toArray, List.set_cons_zero, List.set_cons_succ]
            refine wpAnyH_take (i := 9) rfl (by kernel_rfl) (by kernel_rfl) (by kernel_rfl) (fun _ _ _ h => h) (Or.inr ⟨by kernel_rfl, rfl⟩) (by assumption) ?_
            try simp only [List.getElem_toArray, List.getElem_cons_succ, List.getElem_cons_zero, Act.put, List.setIfInBounds_toArray, List.set_cons_zero, List.set_cons_succ]
            refine wpAnyH_take (i := 10) rfl (by kernel_rfl) (by kernel_rfl) (by kernel_rfl) (fun _ _ _ h => h) (Or.inr ⟨by kernel_rfl, rfl⟩) (by assumption) ?_
            try simp only [List.getElem_toArray, List.getElem_cons_succ, List.getElem_cons_zero, Act.put, List.setIfInBounds_toArray, List.set_cons_zero, List.set_cons_succ]
            refine wpAnyH_take (i := 11) rfl (by kernel_rfl) (by kernel_rfl) (by kernel_rfl) (fun _ _ _ h => h) (Or.inr ⟨by kernel_rfl, rfl⟩) (by assumption) ?_
            try simp only [List.getElem_toArray, List.getElem_cons_succ, List.getElem_cons_zero, Act.put, List.setIfInBounds_toArray, List.set_cons_zero, List.set_cons_succ]
            refine wpAnyH_take (i := 12) rfl (by kernel_rfl) (by kernel_rfl) (by kernel_rfl) (fun _ _ _ h => h) (Or.inr ⟨by kernel_rfl, rfl⟩) (by assumption) ?_
            try simp only [List.getElem_toArray, List.getElem_cons_succ, List.getElem_cons_zero, Act.put, List.setIfInBounds_toArray, List.set_cons_zero, List.set_cons_succ]
            refine wpAnyH_take (i := 13) rfl (by kernel_rfl) (by kernel_rfl) (by kernel_rfl) (fun _ _ _ h => h) (Or.inr ⟨by kernel_rfl, rfl⟩) (by assumption) ?_
            try simp only [List.getElem_toArray, List.getElem_cons_succ, List.getElem_cons_zero, Act.put, List.setIfInBounds_toArray, List.set_cons_zero, List.set_cons_succ]
            refine wpAnyH_take (i := 14) rfl (by kernel_rfl) (by kernel_rfl) (by kernel_rfl) (fun _ _ _ h => h) (Or.inr ⟨by kernel_rfl, rfl⟩) (by assumption) ?_
            try simp only [List.getElem_toArray, List.getElem_cons_succ, List.getElem_cons_zero, Act.put, List.setIfInBounds_toArray, List.set_cons_zero, List.set_cons_succ]
            refine wpAnyH_take (i := 15) rfl (by kernel_rfl) (by kernel_rfl) (by kernel_rfl) (fun _ _ _ h => h) (Or.inr ⟨by kernel_rfl, rfl⟩) (by assumption) ?_
            try simp only [List.getElem_toArray, List.getElem_cons_succ, List.getElem_cons_zero, Act.put, List.setIfInBounds_toArray, List.set_cons_zero, List.set_cons_succ]
            refine wpAnyH_take (i := 16) rfl (by kernel_rfl) (by kernel_rfl) (by kernel_rfl) (fun _ _ _ h => h) (Or.inr ⟨by kernel_rfl, rfl⟩) (by assumption) ?_
            try simp only [List.getElem_toArray, List.getElem_cons_succ, List.getElem_cons_zero, Act.put, List.setIfInBounds_toArray, List.set_cons_zero, List.set_cons_succ]
            refine wpAnyH_take (i := 17) rfl (by kernel_rfl) (by kernel_rfl) (by kernel_rfl) (fun _ _ _ h => h) (Or.inr ⟨by kernel_rfl, rfl⟩) (by assumption) ?_
            try simp only [List.getElem_toArray, List.getElem_cons_succ, List.getElem_cons_zero, Act.put, List.setIfInBounds_toArray, List.set_cons_zero, List.set_cons_succ]
            refine wpAnyH_take (i := 18) rfl (by kernel_rfl) (by kernel_rfl) (by kernel_rfl) (fun _ _ _ h => h) (Or.inr ⟨by kernel_rfl, rfl⟩) (by assumption) ?_
            try simp only [List.getElem_toArray, List.getElem_cons_succ, List.getElem_cons_zero, Act.put, List.setIfInBounds_toArray, List.set_cons_zero, List.set_cons_succ]
            refine wpAnyH_take (i := 19) rfl (by kernel_rfl) (by kernel_rfl) (by kernel_rfl) (fun _ _ _ h => h) (Or.inr ⟨by kernel_rfl, rfl⟩) (by assumption) ?_
            try simp only [List.getElem_toArray, List.getElem_cons_succ, List.getElem_cons_zero, Act.put, List.setIfInBounds_toArray, List.set_cons_zero, List.set_cons_succ]
            refine wpAnyH_take (i := 20) rfl (by kernel_rfl) (by kernel_rfl) (by kernel_rfl) (fun _ _ _ h => h) (Or.inr ⟨by kernel_rfl, rfl⟩) (by assumption) ?_
            try simp only [List.getElem_toArray, List.getElem_cons_succ, List.getElem_cons_zero, Act.put, List.setIfInBounds_toArray, List.set_cons_zero, List.set_cons_succ]
            refine wpAnyH_take (i := 21) rfl (by kernel_rfl) (by kernel_rfl) (by kernel_rfl) (fun _ _ _ h => h) (Or.inr ⟨by kernel_rfl, rfl⟩) (by assumption) ?_
            try simp only [List.getElem_toArray, List.getElem_cons_succ, List.getElem_cons_zero, Act.put, List.setIfInBounds_toArray, List.set_cons_zero, List.set_cons_succ]
            refine wpAnyH_take (i := 22) rfl (by kernel_rfl) (by kernel_rfl) (by kernel_rfl) (fun _ _ _ h => h) (Or.inr ⟨by kernel_rfl, rfl⟩) (by assumption) ?_
            try simp only [List.getElem_toArray, List.getElem_cons_succ, List.getElem_cons_zero, Act.put, List.setIfInBounds_toArray, List.set_cons_zero, List.set_cons_succ]
            refine wpAnyH_take (i := 23) (v := ?_) rfl (by kernel_rfl) (by kernel_rfl) (by kernel_rfl) (fun _ _ _ h => h) (Or.inl ⟨by kernel_rfl, ?_⟩) (by assumption) ?_
            rotate_left
            · (intro w hSw; (try dsimp only at hSw); go_simp; (try with_reducible rfl))
            try simp only [List.getElem_toArray, List.getElem_cons_succ, List.getElem_cons_zero, Act.put, List.setIfInBounds_toArray, List.set_cons_zero, List.set_cons_succ]
            refine wpAnyH_done (by kernel_rfl) ?_ _
            go_wp2_with fail
            go_roundw
            case rel => exact ⟨i + 1, by omega, by go_num, HBD.out⟩
            case measure => simp [intOf] <;> omega
          · have e1 : decide ((0 : Int) < (j : Int)) = true := decide_eq_true (by omega)
            have e2 : decide (0 < j) = true := decide_eq_true (by omega)
            have hsz1 : sizeL (singles y) = 1 := by unfold sizeL; rw [singles_rect 0 (by rw [HLY.out]; omega)]
            have hbk := HBK8.out.below hbr
            rw [hsz1, apply_single HLY.out HAD.out, ← HZY.out] at hbk
            obtain ⟨A1, c1, hk0, hl1, hr1⟩ := hbk.row (i := i) (l := [z.getD i 0]) (by simp [singles, List.getD_eq_getElem?_getD, HLZ.out, hin])
            obtain ⟨g1, o1, cells, rfl, hh1, hcc1⟩ := hr1 (by simp)
            have k1 : wr.cell? ⟨g1, o1, none⟩ = some (.int .u8 ((z.getD i 0).toNat : Int)) := by
              have h9 := hcc1 0 (by simp)
              rw [Nat.add_zero] at h9
              rw [cell_of_row wr g1 o1 cells _ _ hh1, h9]
              rfl
            have hz2 := (HS8.out.rd 0 rfl).go hbr
            obtain ⟨g9, o9, e9, _, hcz⟩ := hz2.2 (by omega)
            simp only [Option.some.injEq, Addr.mk.injEq, and_true] at e9
            obtain ⟨rfl, rfl⟩ := e9
            have k2 : wr.cell? ⟨gzz, i, none⟩ = some (.int .u8 ((z.getD i 0).toNat : Int)) := by
              have h9 := hcz i (.int .u8 ((z.getD i 0).toNat : Int)) (by rw [bVs_get z i (by rw [HLZ.out]; exact hin)]; simp [List.getD_eq_getElem?_getD, HLZ.out, hin])
              rw [Nat.zero_add] at h9
              exact h9
            simp only [List.length_singleton] at hk0
            have e3 : (((z.getD i 0).toNat : Int) != ((z.getD i 0).toNat : Int)) = false := by simp
            have HBD := Lib.hid (Below.drew hbr)
            obtain ⟨zi, hzi⟩ : ∃ zi : Int, zi = ((z.getD i 0).toNat : Int) := ⟨_, rfl⟩
            rw [← hzi] at k1 k2 e3
            clear hbr hbk hr1 hh1 hcc1 hz2 hcz hzi hsz1 hl1
            go_wp2_with fail
            refine wp_region_held_drew (S := fun x => x.cell? ⟨gz, i, none⟩ = some (.slice (some ⟨g1, o1, none⟩) 1 c1) ∧ x.cell? ⟨g1, o1, none⟩ = some (.int .u8 zi) ∧ x.cell? ⟨gzz, i, none⟩ = some (.int .u8 zi)) (by kernel_rfl) ⟨hk0, k1, k2⟩ (fun hHeld => ?_)
            refine wpAnyH_take (i := 0) (v := ?_) rfl (by kernel_rfl) (by kernel_rfl) (by kernel_rfl) (fun _ _ _ h => h) (Or.inl ⟨by kernel_rfl, ?_⟩) (by assumption) ?_
            rotate_left
            · (intro w hSw; (try dsimp only at hSw); go_simp; (try with_reducible rfl))
            try simp only [List.getElem_toArray, List.getElem_cons_succ, List.getElem_cons_zero, Act.put, List.setIfInBounds_toArray, List.set_cons_zero, List.set_cons_succ]
            refine wpAnyH_take (i := 1) (v := ?_) rfl (by kernel_rfl) (by kernel_rfl) (by kernel_rfl) (fun _ _ _ h => h) (Or.inl ⟨by kernel_rfl, ?_⟩) (by assumption) ?_
            rotate_left
            · (intro w hSw; (try dsimp only at hSw); go_simp; (try with_reducible rfl))
            try simp only [List.getElem_toArray, List.getElem_cons_succ, List.getElem_cons_zero, Act.put, List.setIfInBounds_toArray, List.set_cons_zero, List.set_cons_succ]
            refine wpAnyH_take (i := 2) (v := ?_) rfl (by kernel_rfl) (by kernel_rfl) (by kernel_rfl) (fun _ _ _ h => h) (Or.inl ⟨by kernel_rfl, ?_⟩) (by assumption) ?_
            rotate_left
            · (intro w hSw; (try dsimp only at hSw); go_simp; (try with_reducible rfl))
            try simp only [List.getElem_toArray, List.getElem_cons_succ, List.getElem_cons_zero, Act.put, List.setIfInBounds_toArray, List.set_cons_zero, List.set_cons_succ]
            refine wpAnyH_take (i := 3) (v := ?_) rfl (by kernel_rfl) (by kernel_rfl) (by kernel_rfl) (fun _ _ _ h => h) (Or.inl ⟨by kernel_rfl, ?_⟩) (by assumption) ?_
            rotate_left
            · (intro w hSw; (try dsimp only at hSw); go_simp; (try with_reducible rfl))
            try simp only [List.getElem_toArray, List.getElem_cons_succ, List.getElem_cons_zero, Act.put, List.setIfInBounds_toArray, List.set_cons_zero, List.set_cons_succ]
            refine wpAnyH_take (i := 4) (v := ?_) rfl (by kernel_rfl) (by kernel_rfl) (by kernel_rfl) (fun _ _ _ h => h) (Or.inl ⟨by kernel_rfl, ?_⟩) (by assumption) ?_
            rotate_left
            · (intro w hSw; (try dsimp only at hSw); go_simp; (try with_reducible rfl))
            try simp only [List.getElem_toArray, List.getElem_cons_succ, List.getElem_cons_zero, Act.put, List.setIfInBounds_toArray, List.set_cons_zero, List.set_cons_succ]
            refine wpAnyH_take (i := 5) (v := ?_) rfl (by kernel_rfl) (by kernel_rfl) (by kernel_rfl) (fun _ _ _ h => h) (Or.inl ⟨by kernel_rfl, ?_⟩) (by assumption) ?_
            rotate_left
            · (intro w hSw; (try dsimp only at hSw); go_simp; (try with_reducible rfl))
            try simp only [List.getElem_toArray, List.getElem_cons_succ, List.getElem_cons_zero, Act.put, List.setIfInBounds_toArray, List.set_cons_zero, List.set_cons_succ]
            refine wpAnyH_take (i := 6) (v := ?_) rfl (by kernel_rfl) (by kernel_rfl) (by kernel_rfl) (fun _ _ _ h => h) (Or.inl ⟨by kernel_rfl, ?_⟩) (by assumption) ?_
            rotate_left
            · (intro w hSw; (try dsimp only at hSw); go_simp; (try with_reducible rfl))
            try simp only [List.getElem_toArray, List.getElem_cons_succ, List.getElem_cons_zero, Act.put, List.setIfInBounds_toArray, List.set_cons_zero, List.set_cons_succ]
            refine wpAnyH_take (i := 7) (v := ?_) rfl (by kernel_rfl) (by kernel_rfl) (by kernel_rfl) (fun _ _ _ h => h) (Or.inl ⟨by kernel_rfl, ?_⟩) (by assumption) ?_
            rotate_left
            · (intro w hSw; (try dsimp only at hSw); go_simp; (try with_reducible rfl))
            try simp only [List.getElem_toArray, List.getElem_cons_succ, List.getElem_cons_zero, Act.put, List.setIfInBounds_toArray, List.set_cons_zero, List.set_cons_succ]
            refine wpAnyH_take (i := 8) (v := ?_) rfl (by kernel_rfl) (by kernel_rfl) (by kernel_rfl) (fun _ _ _ h => h) (Or.inl ⟨by kernel_rfl, ?_⟩) (by assumption) ?_
            rotate_left
            · (intro w hSw; (try dsimp only at hSw); go_simp; (try with_reducible rfl))
            try simp only [List.getElem_toArray, List.getElem_cons_succ, List.getElem_cons_zero, Act.put, List.setIfInBounds_toArray, List.set_cons_zero, List.set_cons_succ]
            refine wpAnyH_take (i := 9) (v := ?_) rfl (by kernel_rfl) (by kernel_rfl) (by kernel_rfl) (fun _ _ _ h => h) (Or.inl ⟨by kernel_rfl, ?_⟩) (by assumption) ?_
            rotate_left
            · (intro w hSw; (try dsimp only at hSw); go_simp; (try with_reducible rfl))
            try simp only [List.getElem_toArray, List.getElem_cons_succ, List.getElem_cons_zero, Act.put, List.setIfInBounds_toArray, List.set_cons_zero, List.set_cons_succ]
            refine wpAnyH_take (i := 10) (v := ?_) rfl (by kernel_rfl) (by kernel_rfl) (by kernel_rfl) (fun _ _ _ h => h) (Or.inl ⟨by kernel_rfl, ?_⟩) (by assumption) ?_
            rotate_left
            · (intro w hSw; (try dsimp only at hSw); go_simp; (try with_reducible rfl))
            try simp only [List.getElem_toArray, List.getElem_cons_succ, List.getElem_cons_zero, Act.put, List.setIfInBounds_toArray, List.set_cons_zero, List.set_cons_succ]
            refine wpAnyH_take (i := 11) (v := ?_) rfl (by kernel_rfl) (by kernel_rfl) (by kernel_rfl) (fun _ _ _ h => h) (Or.inl ⟨by kernel_rfl, ?_⟩) (by assumption) ?_
            rotate_left
            · (intro w hSw; (try dsimp only at hSw); go_simp; (try with_reducible rfl))
            try simp only [List.getElem_toArray, List.getElem_cons_succ, List.getElem_cons_zero, Act.put, List.setIfInBounds_toArray, List.set_cons_zero, List.set_cons_succ]
            refine wpAnyH_take (i := 12) (v := ?_) rfl (by kernel_rfl) (by kernel_rfl) (by kernel_rfl) (fun _ _ _ h => h) (Or.inl ⟨by kernel_rfl, ?_⟩) (by assumption) ?_
            rotate_left
            · (intro w hSw; (try dsimp only at hSw); go_simp; (try with_reducible rfl))
            try simp only [List.getElem_toArray, List.getElem_cons_succ, List.getElem_cons_zero, Act.put, List.setIfInBounds_toArray, List.set_cons_zero, List.set_cons_succ]
            refine wpAnyH_take (i := 13) (v := ?_) rfl (by kernel_rfl) (by kernel_rfl) (by kernel_rfl) (fun _ _ _ h => h) (Or.inl ⟨by kernel_rfl, ?_⟩) (by assumption) ?_
            rotate_left
            · (intro w hSw; (try dsimp only at hSw); go_simp; (try with_reducible rfl))
            try simp only [List.getElem_toArray, List.getElem_cons_succ, List.getElem_cons_zero, Act.put, List.setIfInBounds_toArray, List.set_cons_zero, List.set_cons_succ]
            refine wpAnyH_take (i := 14) (v := ?_) rfl (by kernel_rfl) (by kernel_rfl) (by kernel_rfl) (fun _ _ _ h => h) (Or.inl ⟨by kernel_rfl, ?_⟩) (by assumption) ?_
            rotate_left
            · (intro w hSw; (try dsimp only at hSw); go_simp; (try with_reducible rfl))
            try simp only [List.getElem_toArray, List.getElem_cons_succ, List.getElem_cons_zero, Act.put, List.setIfInBounds_toArray, List.set_cons_zero, List.set_cons_succ]
            refine wpAnyH_take (i := 15) (v := ?_) rfl (by kernel_rfl) (by kernel_rfl) (by kernel_rfl) (fun _ _ _ h => h) (Or.inl ⟨by kernel_rfl, ?_⟩) (by assumption) ?_
            rotate_left
            · (intro w hSw; (try dsimp only at hSw); go_simp; (try with_reducible rfl))
            try simp only [List.getElem_toArray, List.getElem_cons_succ, List.getElem_cons_zero, Act.put, List.setIfInBounds_toArray, List.set_cons_zero, List.set_cons_succ]
            refine wpAnyH_take (i := 16) (v := ?_) rfl (by kernel_rfl) (by kernel_rfl) (by kernel_rfl) (fun _ _ _ h => h) (Or.inl ⟨by kernel_rfl, ?_⟩) (by assumption) ?_
            rotate_left
            · (intro w hSw; (try dsimp only at hSw); go_simp; (try with_reducible rfl))
            try simp only [List.getElem_toArray, List.getElem_cons_succ, List.getElem_cons_zero, Act.put, List.setIfInBounds_toArray, List.set_cons_zero, List.set_cons_succ]
            refine wpAnyH_take (i := 17) (v := ?_) rfl (by kernel_rfl) (by kernel_rfl) (by kernel_rfl) (fun _ _ _ h => h) (Or.inl ⟨by kernel_rfl, ?_⟩) (by assumption) ?_
            rotate_left
            · (intro w hSw; (try dsimp only at hSw); go_simp; (try with_reducible rfl))
            try simp only [List.getElem_toArray, List.getElem_cons_succ, List.getElem_cons_zero, Act.put, List.setIfInBounds_toArray, List.set_cons_zero, List.set_cons_succ]
            refine wpAnyH_take (i := 18) (v := ?_) rfl (by kernel_rfl) (by kernel_rfl) (by kernel_rfl) (fun _ _ _ h => h) (Or.inl ⟨by kernel_rfl, ?_⟩) (by assumption) ?_
            rotate_left
            · (intro w hSw; (try dsimp only at hSw); go_simp; (try with_reducible rfl))
            try simp only [List.getElem_toArray, List.getElem_cons_succ, List.getElem_cons_zero, Act.put, List.setIfInBounds_toArray, List.set_cons_zero, List.set_cons_succ]
            refine wpAnyH_take (i := 19) (v := ?_) rfl (by kernel_rfl) (by kernel_rfl) (by kernel_rfl) (fun _ _ _ h => h) (Or.inl ⟨by kernel_rfl, ?_⟩) (by assumption) ?_
            rotate_left
            · (intro w hSw; (try dsimp only at hSw); go_simp; (try with_reducible rfl))
            try simp only [List.getElem_toArray, List.getElem_cons_succ, List.getElem_cons_zero, Act.put, List.setIfInBounds_toArray, List.set_cons_zero, List.set_cons_succ]
            refine wpAnyH_take (i := 20) (v := ?_) rfl (by kernel_rfl) (by kernel_rfl) (by kernel_rfl) (fun _ _ _ h => h) (Or.inl ⟨by kernel_rfl, ?_⟩) (by assumption) ?_
            rotate_left
            · (intro w hSw; (try dsimp only at hSw); go_simp; (try with_reducible rfl))
            try simp only [List.getElem_toArray, List.getElem_cons_succ, List.getElem_cons_zero, Act.put, List.setIfInBounds_toArray, List.set_cons_zero, List.set_cons_succ]
            refine wpAnyH_take (i := 21) (v := ?_) rfl (by kernel_rfl) (by kernel_rfl) (by kernel_rfl) (fun _ _ _ h => h) (Or.inl ⟨by kernel_rfl, ?_⟩) (by assumption) ?_
            rotate_left
            · (intro w hSw; (try dsimp only at hSw); go_simp; (try with_reducible rfl))
            try simp only [List.getElem_toArray, List.getElem_cons_succ, List.getElem_cons_zero, Act.put, List.setIfInBounds_toArray, List.set_cons_zero, List.set_cons_succ]
            refine wpAnyH_take (i := 22) (v := ?_) rfl (by kernel_rfl) (by kernel_rfl) (by kernel_rfl) (fun _ _ _ h => h) (Or.inl ⟨by kernel_rfl, ?_⟩) (by assumption) ?_
            rotate_left
            · (intro w hSw; (try dsimp only at hSw); go_simp; (try with_reducible rfl))
            try simp only [List.getElem_toArray, List.getElem_cons_succ, List.getElem_cons_zero, Act.put, List.setIfInBounds_toArray, List.set_cons_zero, List.set_cons_succ]
            refine wpAnyH_take (i := 23) (v := ?_) rfl (by kernel_rfl) (by kernel_rfl) (by kernel_rfl) (fun _ _ _ h => h) (Or.inl ⟨by kernel_rfl, ?_⟩) (by assumption) ?_
            rotate_left
            · (intro w hSw; (try dsimp only at hSw); go_simp; (try with_reducible rfl))
            try simp only [List.getElem_toArray, List.getElem_cons_succ, List.getElem_cons_zero, Act.put, List.setIfInBounds_toArray, List.set_cons_zero, List.set_cons_succ]
            refine wpAnyH_done (by kernel_rfl) ?_ _
            go_wp2_with fail
            go_roundw
            case rel => exact ⟨i + 1, by omega, by go_num, HBD.out⟩
            case measure => simp [intOf] <;> omega
        · obtain rfl : no = i := by omega
          have S9 := HS8.out.go hbr
          have HO9 := Lib.hid (OwnB.below HO8.out hbr (by simp))
          obtain ⟨d0, d1, d2⟩ := S9.cells3 0 rfl
          have HS9 := Lib.hid S9
          clear hbr HBR HBK8 HO8 HS8 S9
          by_cases hno0 : 0 < no
          · have e1 : decide ((0 : Int) < (no : Int)) = true := decide_eq_true (by omega)
            by_cases hk0 : 0 < k
            · have e2 : decide ((0 : Int) < (k : Int)) = true := decide_eq_true (by omega)
              have hp0 : 0 < p := by rw [HP.out]; exact Nat.mul_pos hno0 hk0
              obtain ⟨gg, hgg⟩ := own_gy2 HO9.out hp0
              subst hgg
              have hpk := poke_facts HO9.out HX0.out HS9.out (Nat.le_trans HBA.out (Nat.le_refl _)) hp0 (by simp)
              have s0 := hpk.1
              have s1 := hpk.2.1
              have SP := hpk.2.2 (X.getD 0 0 ^^^ 1)
              obtain ⟨xi, hxi⟩ : ∃ xi : Int, xi = (((X.getD 0 0 : UInt8).toNat : Nat) : Int) := ⟨_, rfl⟩
              obtain ⟨xo, hxo⟩ : ∃ xo : Int, xo = (((X.getD 0 0 ^^^ 1 : UInt8).toNat : Nat) : Int) := ⟨_, rfl⟩
              rw [← hxi] at s0
              rw [← hxo] at SP
              have hbx : bits .xor .u8 xi 1 = xo := by rw [hxi, hxo]; exact bxor_u8 _ 1
              have hlt0 := Lib.hid (like_turned (r := (no : Int)) (c := (k : Int)) (xs := X) (by rw [HLX.out]; exact hp0))
              obtain ⟨p0, p1, p2, p3⟩ := SP.cells4 3 rfl
              obtain ⟨f0, f1, f2⟩ := SP.cells3 2 rfl
              obtain ⟨m0, m1, m2⟩ := SP.cells3 0 rfl
              have HSP := Lib.hid SP
              have q0 : (0 : Int) < (p : Int) := by omega
              clear hpk hxi hxo SP
              have hrw : rightB (no : Int) (k : Int) p = true := by rw [HP.out]; simp [rightB]; omega
              have hdo := does_yes (wc := 0) (c := c) (nl := l.length) (A := A) (r := r) (q := q) (wr := (no : Int)) (kw := cap2) (HSP.out.rd 1 rfl) (HSP.out.rd 0 rfl) hkg hno hm64 hk HNG.out HAD.out hrw (Lib.hid fun w1 hw => H1.out w1 (HSP.out.below.trans (hw.mono HSP.out.below.size)))
              rw [← HX.out, hlt0.out] at hdo
              have HDO := Lib.hid hdo
              clear hrw hdo
              go_wp2_with fail
              refine HDO.out.mono ?_
              rintro e wz ⟨rfl, hbz⟩
              have S10 := HSP.out.go hbz
              clear hbz HDO p0 p1 p2 p3 f0 f1 f2 m0 m1 m2 s0 s1
              go_wp2_with fail
              refine (anchored25_calls _).mono ?_
              rintro e wy ⟨rfl, hby⟩
              have S11 := S10.go hby
              clear hby
              go_wp2_with fail
              go_ret
              exact ⟨rfl, S11.below⟩
            · have e2 : decide ((0 : Int) < (k : Int)) = false := decide_eq_false (by omega)
              have e3 : decide (0 < k) = false := decide_eq_false hk0
              clear hk0
              go_wp2_with fail
              refine (anchored25_calls _).mono ?_
              rintro e wz ⟨rfl, hbz⟩
              have S10 := HS9.out.go hbz
              clear hbz
              go_wp2_with fail
              go_ret
              exact ⟨rfl, S10.below⟩
          · have e1 : decide ((0 : Int) < (no : Int)) = false := decide_eq_false (by omega)
            have e3 : decide (0 < no) = false := decide_eq_false hno0
            clear hno0
            go_wp2_with fail
            refine (anchored25_calls _).mono ?_
            rintro e wz ⟨rfl, hbz⟩
            have S10 := HS9.out.go hbz
            clear hbz
            go_wp2_with fail
            go_ret
            exact ⟨rfl, S10.below⟩
theorem makes_small {l : List S59} {r o q n : Int} : (makesV l r o q n).2.2.1.length ≤ 4096 := by
  by_cases he : (makesV l r o q n).2.2.2 = 0
  · obtain ⟨st, no, m, i, e1, e2, a1, a2, a3, a4, a5, _⟩ := makes_shape he
    rw [a3]
    show (outsD st.outs).length ≤ 4096
    rw [outsD_length _ a4, a5]
    exact Nat.mul_le_mul a1 a2
  · have h : (makesV l r o q n).2.2.1 = [] := by
      unfold makesV at he ⊢
      split
      · rfl
      · split
        · rename_i h1 _ _ _ h2
          rw [if_neg h1, h2] at he
          exact absurd rfl he
        · rfl
    rw [h]
    exact Nat.zero_le _
theorem verifyAll_calls (A : Option Addr) (c : Nat) (l : List S59) (r o q : Int) (gr gc : Int) (B : Option Addr) (ng kg : Nat) (xs : List UInt8) (Y : Option Addr) (nd kd : Nat) (ds : List UInt8) (w : World) (hC : Kd.C k59 w A l.length l) (hc : l.length ≤ c) (hb : ∀ s ∈ l, byteB s.f3 = true) (hq : 0 ≤ q) (hq2 : q < 2 ^ 64)
    (b1 : -9223372036854775808 ≤ gr ∧ gr ≤ 9223372036854775807) (b2 : -9223372036854775808 ≤ gc ∧ gc ≤ 9223372036854775807) (rx : Rd w w.heap.size B ng (bVs xs)) (lx : ng ≤ kg) (kx : kg ≤ 140737488351232)
    (ry : Rd w w.heap.size Y nd (bVs ds)) (ly : nd ≤ kd) (ky : kd ≤ 140737488351232) :
    Calls Try.prog 9 #[progV A l.length c r o q, mV gr gc B ng kg, .slice Y nd kd] w fun e w' => e = .returned (.bool true) ∧ Below w.heap.size w w' := by
  have H1 := Lib.hid (fun w1 (hw : Below w.heap.size w w1) => makes_calls (r := r) (o := o) (n := gr) (Kd.C_below hC hw) hc hb hq hq2)
  have H2 : ∀ w1 Aa ca, Rd w1 w1.heap.size Aa (makesV l r o q gr).2.2.1.length (bVs (makesV l r o q gr).2.2.1) → (makesV l r o q gr).2.2.1.length ≤ ca → Rd w1 w1.heap.size B ng (bVs xs) → Calls Try.prog 28 #[.agg #[.int .i64 (makesV l r o q gr).1, .int .i64 (makesV l r o q gr).2.1, .slice Aa (makesV l r o q gr).2.2.1.length ca], .agg #[.int .i64 gr, .int .i64 gc, .slice B ng kg]] w1 fun e w' => ∃ x y g p cap, e = .returned (.tuple #[.agg #[.int .i64 x, .int .i64 y, .slice g p cap], .int .i64 (muE (mulB (makesV l r o q gr).1 (makesV l r o q gr).2.1 (makesV l r o q gr).2.2.1.length gr gc ng))]) ∧ Below w1.heap.size w1 w' := by
    intro w1 Aa ca ha hla hx
    have hs := makes_small (l := l) (r := r) (o := o) (q := q) (n := gr)
    refine (rmul3_calls _ _ Aa _ ca _ gr gc B ng kg xs w1 ha hla (by omega) hx lx (by omega)).mono ?_
    rintro e w' ⟨g, cap, rfl, _, hbl⟩
    exact ⟨_, _, _, _, _, rfl, hbl⟩
  by_cases he : (makesV l r o q gr).2.2.2 = 0
  · by_cases hm : mulB (makesV l r o q gr).1 (makesV l r o q gr).2.1 (makesV l r o q gr).2.2.1.length gr gc ng = true
    · by_cases hd : (nd : Int) = gc
      · obtain ⟨st, no, m, i, e1, e2, a1, a2, a3, a4, a5, hmay, hv⟩ := makes_shape he
        subst e1 e2
        have hr : rightB (m : Int) gc ng = true := by
          unfold mulB at hm
          rw [Bool.and_eq_true, Bool.and_eq_true] at hm
          exact hm.1.2
        obtain ⟨m', k, e3, e4, _, k2, k3⟩ := right_natW hr
        obtain rfl : m = m' := by omega
        subst e4
        obtain rfl : nd = k := by omega
        have hxl : xs.length = m * nd := by have := rx.len; rw [bVs_length] at this; omega
        have hdl : ds.length = nd := by have := ry.len; rw [bVs_length] at this; omega
        have hm2 := hmay
        unfold mayB at hm2
        rw [Bool.and_eq_true, decide_eq_true_eq, List.all_eq_true] at hm2
        have hly : (mulG m nd 1 xs ds).length = m := mul1_length
        have hrect : ∀ i, i < m → ((singles (mulG m nd 1 xs ds)).getD i []).length = sizeL (singles (mulG m nd 1 xs ds)) := fun i hi => by
          rw [singles_rect i (by omega)]
          unfold sizeL
          rw [singles_rect 0 (by omega)]
        have hs : rAll r.toNat no (sizeL (singles (mulG m nd 1 xs ds))) (singles (mulG m nd 1 xs ds)) l = some (mapV m (sizeL (singles (mulG m nd 1 xs ds))) (singles (mulG m nd 1 xs ds)) st) := by
          rw [Int.toNat_natCast, Int.toNat_natCast] at hv
          exact sim_all (by rw [singles_length, hly]) hrect hm2.2 hv
        rw [a3] at H1
        exact verifyAll_yes hC hb hmay hs (outs_apply a4 a5) a1 a2 k2 (by rw [outsD_length _ a4, a5]) hxl hdl rx lx ry ly H1
      · exact verifyAll_no (makesV l r o q gr) _ rx (.inr (.inr ⟨he, by rw [hm]; rfl, hd⟩)) H1 (Lib.hid H2)
    · exact verifyAll_no (makesV l r o q gr) _ rx (.inr (.inl ⟨he, by rw [Bool.not_eq_true] at hm; rw [hm]; decide⟩)) H1 (Lib.hid H2)
  · exact verifyAll_no (makesV l r o q gr) _ rx (.inl he) H1 (Lib.hid H2)
end Go.Proofs.Ythbjcafldbocpaa
