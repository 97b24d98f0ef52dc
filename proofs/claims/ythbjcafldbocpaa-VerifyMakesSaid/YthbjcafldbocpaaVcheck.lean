/- The walks of verify.look where it refuses, and of verify.Check. -/
import Derived.Test.YthbjcafldbocpaaVlook
import Derived.Test.YthbjcafldbocpaaVmay
namespace Go.Proofs.Ythbjcafldbocpaa
open Go.RowKit Go.Proofs.YthbjcafldbocpaaW.PrintWords Go.Proofs.Ythbjcafldbocpaa.P0
set_option linter.unusedVariables false
set_option linter.unusedSimpArgs false
/-- a program, as a value -/
def progV (AS : Option Addr) (nS cS : Nat) (regs outs reads : Int) : Value := .agg #[.slice AS nS cS, .int .i64 regs, .int .i64 outs, .int .u64 reads]
theorem look_far (AS : Option Addr) (nS cS : Nat) (regs outs reads n : Int) (hn : n < 0 ∨ 64 < n) (w : World) :
    Calls Try.prog 30 #[progV AS nS cS regs outs reads, .int .i64 n] w fun e w' => e = .returned (.tuple #[.pointer none, .int .i64 2]) ∧ Below w.heap.size w w' := by
  unfold progV
  by_cases h0 : n < 0
  · have h1 : decide (n < 0) = true := decide_eq_true h0
    go_enter Try.func30, Try.ntmps30
    go_wp2_with fail
    go_ret2
    exact ⟨rfl, (Below.refl _ _).alloc (Nat.le_refl _) _⟩
  · have h1 : decide (n < 0) = false := decide_eq_false h0
    have h2 : decide (64 < n) = true := decide_eq_true (by omega)
    go_enter Try.func30, Try.ntmps30
    go_wp2_with fail
    go_ret2
    exact ⟨rfl, (Below.refl _ _).alloc (Nat.le_refl _) _⟩
theorem look_no (AS : Option Addr) (nS cS : Nat) (regs outs reads n : Int) (h0 : 0 ≤ n) (h1 : n ≤ 64) (w : World)
    (hwr : ∀ w1, Below w.heap.size w w1 → Calls Try.prog 48 #[.agg #[.slice AS nS cS, .int .i64 regs, .int .i64 outs, .int .u64 reads]] w1 fun e w' => e = .returned (.tuple #[.slice none 0 0, .int .i64 2]) ∧ Below w1.heap.size w1 w') :
    Calls Try.prog 30 #[progV AS nS cS regs outs reads, .int .i64 n] w fun e w' => e = .returned (.tuple #[.pointer none, .int .i64 2]) ∧ Below w.heap.size w w' := by
  unfold progV
  have h2 : decide (n < 0) = false := decide_eq_false (by omega)
  have h3 : decide (64 < n) = false := decide_eq_false (by omega)
  go_enter Try.func30, Try.ntmps30
  go_wp2_with fail
  have q : Below w.heap.size w (w.alloc (.cells #[.slice AS nS cS, .int .i64 regs, .int .i64 outs, .int .u64 reads] 26)) := (Below.refl _ _).alloc (Nat.le_refl _) _
  refine (hwr _ q).mono ?_
  rintro e w1 ⟨rfl, hb⟩
  go_wp2_with fail
  go_ret2
  exact ⟨rfl, q.trans (hb.mono (by simp))⟩
/-- the answer of Check -/
def checkV (l : List S59) (r o q n : Int) : Int × Int :=
  if n < 0 ∨ 64 < n ∨ mayB l r o = false then (0, 2)
  else match vAll r.toNat o.toNat q.toNat n.toNat (l.map psOf) with
    | (i, some _) => ((i : Int), 0)
    | (i, none) => ((i : Int), 250)
set_option maxRecDepth 100000 in
theorem look_all {w : World} {A : Option Addr} {c : Nat} {l : List S59} {r o q n : Int} (hC : Kd.C k59 w A l.length l) (hc : l.length ≤ c) (hb : ∀ s ∈ l, byteB s.f3 = true) (hq : 0 ≤ q) (hq2 : q < 2 ^ 64) (hn : 0 ≤ n) (hn2 : n ≤ 64) (hm : mayB l r o = true) :
    Calls Try.prog 30 #[progV A l.length c r o q, .int .i64 n] w fun e w' => LookPost w A (l.map psOf) c r.toNat o.toNat q.toNat n.toNat e w' := by
  have h1 := hm
  unfold mayB at h1
  rw [Bool.and_eq_true, decide_eq_true_eq, List.all_eq_true] at h1
  obtain ⟨⟨r1, r2, o1, o2, hl⟩, ho⟩ := h1
  have hst := steps_of hC ho hb
  have er : ((r.toNat : Nat) : Int) = r := Int.toNat_of_nonneg r1
  have eo : ((o.toNat : Nat) : Int) = o := Int.toNat_of_nonneg o1
  have eq : ((q.toNat : Nat) : Int) = q := Int.toNat_of_nonneg hq
  have en : ((n.toNat : Nat) : Int) = n := Int.toNat_of_nonneg hn
  have el : (l.map psOf).length = l.length := List.length_map _
  have hok : ∀ s ∈ l.map psOf, s.Ok := by
    intro s hs
    obtain ⟨x, hx, rfl⟩ := List.mem_map.1 hs
    exact psOf_ok (ho x hx)
  have hrange : ∀ s ∈ l.map psOf, s.k < 256 := by
    intro s hs
    have := hok s hs
    unfold PS.Ok at this
    omega
  have hmay := may_ok (w := w) r o q hC hc
  rw [hm] at hmay
  have H := look_yes A (l.map psOf) c r.toNat o.toNat q.toNat n.toNat w hst (by omega) (by omega) (by rw [el]; exact hl) (by omega) (by omega) hok (fun w1 hb1 => by
    have hst1 := steps_of (Kd.C_below hC hb1) ho hb
    refine write_yes A (l.map psOf) c r.toNat o.toNat q.toNat w1 hst1 (by omega) (by omega) (by rw [el]; exact hl) ?_ hrange (all_ok ho hb)
    intro w2 hb2
    rw [el, er, eo, eq]
    exact hmay w2 (hb1.trans (hb2.mono hb1.size)))
  rw [el, er, eo, eq, en] at H
  exact H
theorem look_bad {w : World} {A : Option Addr} {c : Nat} {l : List S59} {r o q n : Int} (hC : Kd.C k59 w A l.length l) (hc : l.length ≤ c) (h : n < 0 ∨ 64 < n ∨ mayB l r o = false) :
    Calls Try.prog 30 #[progV A l.length c r o q, .int .i64 n] w fun e w' => e = .returned (.tuple #[.pointer none, .int .i64 2]) ∧ Below w.heap.size w w' := by
  by_cases hn : n < 0 ∨ 64 < n
  · exact look_far A l.length c r o q n hn w
  · have hm : mayB l r o = false := by rcases h with h | h | h; exact absurd (.inl h) hn; exact absurd (.inr h) hn; exact h
    refine look_no A l.length c r o q n (by omega) (by omega) w (fun w1 hb1 => ?_)
    refine write_no A l.length c r o q w1 (fun w2 hb2 => ?_)
    have := may_ok (w := w) r o q hC hc w2 (hb1.trans (hb2.mono hb1.size))
    rw [hm] at this
    exact this
set_option maxRecDepth 100000 in
theorem check_calls {w : World} {A : Option Addr} {c : Nat} {l : List S59} {r o q n : Int} (hC : Kd.C k59 w A l.length l) (hc : l.length ≤ c) (hb : ∀ s ∈ l, byteB s.f3 = true) (hq : 0 ≤ q) (hq2 : q < 2 ^ 64) :
    Calls Try.prog 10 #[progV A l.length c r o q, .int .i64 n] w fun e w' => e = .returned (.tuple #[.int .i64 (checkV l r o q n).1, .int .i64 (checkV l r o q n).2]) ∧ Below w.heap.size w w' := by
  have q0 : ∀ o, Below w.heap.size w (w.alloc o) := fun o => (Below.refl _ _).alloc (Nat.le_refl _) _
  by_cases h : n < 0 ∨ 64 < n ∨ mayB l r o = false
  · have e : checkV l r o q n = (0, 2) := by unfold checkV; exact if_pos h
    rw [e]
    unfold progV
    go_enter Try.func10, Try.ntmps10
    go_wp2_with fail
    refine (look_bad (Kd.C_below hC (q0 _)) hc h).mono ?_
    rintro e w' ⟨rfl, hb'⟩
    go_wp2_with fail
    go_ret2
    exact ⟨rfl, (q0 _).trans (hb'.mono (by simp))⟩
  · have h' : mayB l r o = true := by
      cases hm : mayB l r o
      · exact absurd (.inr (.inr hm)) h
      · rfl
    have e : checkV l r o q n = match vAll r.toNat o.toNat q.toNat n.toNat (l.map psOf) with
      | (i, some _) => ((i : Int), 0)
      | (i, none) => ((i : Int), 250) := by unfold checkV; exact if_neg h
    rw [e]
    obtain ⟨⟨pl, st⟩, hv⟩ : ∃ v, v = vAll r.toNat o.toNat q.toNat n.toNat (l.map psOf) := ⟨_, rfl⟩
    rw [← hv]
    unfold progV
    go_enter Try.func10, Try.ntmps10
    go_wp2_with fail
    refine (look_all (Kd.C_below hC (q0 _)) hc hb hq hq2 (by omega) (by omega) h').mono ?_
    rintro e w' ⟨gk, gr, gs, go, gd, G, hbl, hy, hno⟩
    rw [← hv] at hy hno
    have hbl' := (q0 (.cells #[.slice A l.length c, .int .i64 r, .int .i64 o, .int .u64 q] 26)).trans (hbl.mono (by simp))
    cases st with
    | some st =>
      obtain ⟨rfl, hW⟩ := hy st rfl
      have k5 : w'.cell? ⟨gk, 5, none⟩ = some (.int .i64 (pl : Int)) := hW.hk.cell 5
      clear hy hno hW
      go_wp2_with fail
      go_ret2
      exact ⟨rfl, hbl'⟩
    | none =>
      obtain ⟨rfl, ld, hk⟩ := hno rfl
      have k5 : w'.cell? ⟨gk, 5, none⟩ = some (.int .i64 (pl : Int)) := hk.cell 5
      clear hy hno hk
      go_wp2_with fail
      go_ret2
      exact ⟨rfl, hbl'⟩
end Go.Proofs.Ythbjcafldbocpaa
