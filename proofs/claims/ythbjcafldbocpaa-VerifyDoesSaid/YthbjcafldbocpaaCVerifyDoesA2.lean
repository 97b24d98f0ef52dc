/- What the functions compute that the law VerifyDoes reaches, proved by walking them; conditions stand at each theorem. -/
import Derived.Deep.CutBlock
import Derived.Deep.AppendLies
import Derived.Laws.BitsAllLaws
import Derived.Lib.Hide
import Derived.Deep.RegionHeld3
import Derived.Deep.QuietTactic
import Derived.BigQuiet
import Derived.Laws.IdiomStrings
import Derived.Laws.BytesArg
import Derived.Test.YthbjcafldbocpaaCVerifyDoesA1
namespace Go.Proofs.Ythbjcafldbocpaa
open Go.RowKit
set_option linter.unusedVariables false
set_option linter.unusedSimpArgs false

theorem Ctx.set {w0 w : World} {bs : List (Nat × List Value)} (h : Ctx w0 w bs []) {p : Addr} (hp : w0.heap.size ≤ p.block) (hn : ∀ b ∈ bs, b.1 ≠ p.block) (u : Value) : Ctx w0 (w.setCell p u) bs [] :=
  ⟨h.below.setCell hp u, fun b hm => (h.rows b hm).far (hn b hm) u, fun r hm => absurd hm (by simp)⟩
def CurS (w : World) (g q : Nat) (v : UInt8) (new : List UInt8) : Prop := ∃ l : List UInt8, q < l.length ∧ l.set q v = new ∧ Row w g 5 (bVs l)
section
variable {w w' : World} {g q : Nat} {v : UInt8} {new : List UInt8}
theorem CurS.go (h : CurS w g q v new) (hb : Below w.heap.size w w') : CurS w' g q v new := by
  obtain ⟨l, h1, h2, h3⟩ := h
  exact ⟨l, h1, h2, h3.below hb h3.lt⟩
theorem CurS.drew (h : CurS w g q v new) : CurS w.drew g q v new := h
theorem CurS.cell (h : CurS w g q v new) : ∃ old, w.cell? ⟨g, q, none⟩ = some old := by
  obtain ⟨l, h1, h2, h3⟩ := h
  exact h3.has (by rw [bVs_length]; exact h1)
theorem CurS.frozen (h : CurS w g q v new) : w.frozen? ⟨g, q, none⟩ = false := by
  obtain ⟨l, h1, h2, h3⟩ := h
  exact h3.frozen q
theorem CurS.done (h : CurS w g q v new) : Row (w.setCell ⟨g, q, none⟩ (.int .u8 (v.toNat : Int))) g 5 (bVs new) := by
  obtain ⟨l, h1, h2, h3⟩ := h
  have := h3.set q (.int .u8 (v.toNat : Int))
  rwa [bVs_set, h2] at this
theorem CurS.set (h : CurS w g q v new) : CurS (w.setCell ⟨g, q, none⟩ (.int .u8 (v.toNat : Int))) g q v new := by
  have hd := h.done
  obtain ⟨l, h1, h2, h3⟩ := h
  refine ⟨new, by rw [← h2, List.length_set]; exact h1, ?_, hd⟩
  rw [← h2, List.set_set]
theorem CurS.fin (h : CurS (w.setCell ⟨g, q, none⟩ (.int .u8 (v.toNat : Int))) g q v new) : Row (w.setCell ⟨g, q, none⟩ (.int .u8 (v.toNat : Int))) g 5 (bVs new) := by
  obtain ⟨l, h1, h2, h3⟩ := h
  have he : l.set q v = l := by
    have hc : (w.setCell ⟨g, q, none⟩ (.int .u8 (v.toNat : Int))).cell? ⟨g, q, none⟩ = some (.int .u8 ((l[q]).toNat : Int)) := by rw [h3.cell, bVs_get l q h1]
    have h4 := h3
    unfold Row at h4
    simp only [World.setCell, Array.getElem?_modify, if_true] at h4
    have hv : l[q] = v := by
      cases ho : w.heap[g]? with
      | none => rw [ho] at h4; simp at h4
      | some o =>
        rw [ho] at h4
        cases o with
        | cells c e fz =>
          simp at h4
          have h5 : (c.setIfInBounds q (.int .u8 (v.toNat : Int)))[q]? = (bVs l).toArray[q]? := by rw [h4.1]
          rw [show (bVs l).toArray[q]? = (bVs l)[q]? by simp, bVs_get l q h1, Array.getElem?_setIfInBounds] at h5
          by_cases hq : q < c.size
          · simp [hq] at h5
            exact (UInt8.toNat_inj.1 (by omega)).symm
          · simp [hq] at h5
        | _ => simp at h4
    rw [← hv]
    exact List.set_getElem_self h1
  rw [← h2, he]
  exact h3
theorem CurS.lt (h : CurS w g q v new) : g < w.heap.size := by
  obtain ⟨l, h1, h2, h3⟩ := h
  exact h3.lt
end
end Go.Proofs.Ythbjcafldbocpaa
namespace Go.Proofs.Ythbjcafldbocpaa
open Go.RowKit
set_option linter.unusedVariables false
set_option linter.unusedSimpArgs false

section
variable {x y : World} {g : Nat} {t t' : TypeId} {ys : List Value} {o o' : Obj} {a b c : Value}
theorem box_last (h : Below (x.alloc (.cells #[a, b, c] t)).heap.size (x.alloc (.cells #[a, b, c] t)) y) : Row y x.heap.size t [a, b, c] := (Row.new x [a, b, c] t).below h (by simp)
theorem box_prev (h : Below ((x.alloc (.cells #[a, b, c] t)).alloc o).heap.size ((x.alloc (.cells #[a, b, c] t)).alloc o) y) : Row y x.heap.size t [a, b, c] := ((Row.new x [a, b, c] t).alloc o).below h (by simp; omega)
theorem box_lastD (h : Below (x.alloc (.cells #[a, b, c] t)).drew.heap.size (x.alloc (.cells #[a, b, c] t)).drew y) : Row y x.heap.size t [a, b, c] := (show Row (x.alloc (.cells #[a, b, c] t)).drew x.heap.size t [a, b, c] from Row.new x [a, b, c] t).below h (show x.heap.size < (x.alloc (.cells #[a, b, c] t)).heap.size by simp)
theorem box_prevD (h : Below ((x.alloc (.cells #[a, b, c] t)).alloc o).drew.heap.size ((x.alloc (.cells #[a, b, c] t)).alloc o).drew y) : Row y x.heap.size t [a, b, c] := (show Row ((x.alloc (.cells #[a, b, c] t)).alloc o).drew x.heap.size t [a, b, c] from (Row.new x [a, b, c] t).alloc o).below h (show x.heap.size < ((x.alloc (.cells #[a, b, c] t)).alloc o).heap.size by simp; omega)
theorem carry0 (r : Row x g t ys) (h : Below x.heap.size x y) : Row y g t ys := r.below h r.lt
theorem carry1 (r : Row x g t ys) (h : Below (x.alloc o).heap.size (x.alloc o) y) : Row y g t ys := carry0 (r.alloc o) h
theorem carry2 (r : Row x g t ys) (h : Below ((x.alloc o).alloc o').heap.size ((x.alloc o).alloc o') y) : Row y g t ys := carry0 ((r.alloc o).alloc o') h
theorem size_drew (x : World) : x.drew.heap.size = x.heap.size := rfl
theorem Row.newE (x : World) (cs : List Value) (t : TypeId) (e : g = x.heap.size) : Row (x.alloc (.cells cs.toArray t)) g t cs := by rw [e]; exact Row.new x cs t
theorem Row.drew (r : Row x g t ys) : Row x.drew g t ys := r
theorem Ctx.cons {w0 : World} {bs : List (Nat × List Value)} (h : Ctx w0 x bs []) (r : Row x g 37 ys) : Ctx w0 x ((g, ys) :: bs) [] :=
  ⟨h.below, fun b hm => by
    rcases List.mem_cons.1 hm with rfl | hm
    · exact r
    · exact h.rows b hm, fun r hm => absurd hm (by simp)⟩
theorem Row.rd {xs : List UInt8} {n : Nat} (r : Row x g 5 (bVs xs)) (hn : xs.length = n) : Rd x x.heap.size (some ⟨g, 0, none⟩) n (bVs xs) := by
  refine ⟨by rw [bVs_length, hn], fun _ => ⟨g, 0, rfl, r.lt, fun j u hu => ?_⟩⟩
  rw [Nat.zero_add, r.cell, hu]
theorem Row.two (h : Row x g t [a, b, c]) : x.cell? ⟨g, 0, none⟩ = some a ∧ x.cell? ⟨g, 1, none⟩ = some b ∧ x.cell? ⟨g, 2, none⟩ = some c ∧ x.frozen? ⟨g, 0, none⟩ = false ∧ x.frozen? ⟨g, 1, none⟩ = false ∧ x.frozen? ⟨g, 2, none⟩ = false ∧ g < x.heap.size := by
  obtain ⟨h0, h1, h2, h3, h4, h5⟩ := h.three
  exact ⟨h0, h1, h2, h3, h4, h5, h.lt⟩
end
end Go.Proofs.Ythbjcafldbocpaa
namespace Go.Proofs.Ythbjcafldbocpaa
open Go.RowKit
set_option linter.unusedVariables false
set_option linter.unusedSimpArgs false
def LookMid (w : World) (AS : Option Addr) (cS nS regs outs reads n : Nat) (v : Value) (x : World) : Prop :=
  ∃ gk gr gs go gd : Nat, v = .pointer (some ⟨gk, 0, none⟩) ∧ LkG w.heap.size gk gr gs go gd regs outs reads n ∧ LkW x gk gr gs go gd regs outs reads n AS nS cS 0 ⟨List.replicate regs none, List.replicate outs none, 0⟩ ∧ Below w.heap.size w x
def LookPost (w : World) (AS : Option Addr) (l : List PS) (cS regs outs reads n : Nat) (e : Ending) (w' : World) : Prop :=
  ∃ gk gr gs go gd : Nat, LkG w.heap.size gk gr gs go gd regs outs reads n ∧ Below w.heap.size w w' ∧
    (∀ st, (vAll regs outs reads n l).2 = some st → e = .returned (.tuple #[.pointer (some ⟨gk, 0, none⟩), .int .i64 0]) ∧ LkW w' gk gr gs go gd regs outs reads n AS l.length cS (vAll regs outs reads n l).1 st) ∧
    ((vAll regs outs reads n l).2 = none → e = .returned (.tuple #[.pointer (some ⟨gk, 0, none⟩), .int .i64 250]) ∧ ∃ ld, Row w' gk 82 (lkV AS l.length cS regs outs reads n (vAll regs outs reads n l).1 gr gs go gd ld))
theorem st0_ok (nr no n : Nat) : VS.Ok ⟨List.replicate nr none, List.replicate no none, 0⟩ nr no n := by
  refine ⟨by simp, by simp, fun i l h => ?_, fun i l h => ?_⟩ <;> (rw [List.getD_eq_getElem?_getD, List.getElem?_replicate] at h; split at h <;> cases h)
theorem mid_of {w x : World} {AS : Option Addr} {cS nS regs outs reads n gk gr gs go gd : Nat} {v : Value} {L1 L2 L3 L4 : List Value} (e1 : L1 = bVs (flatR (List.replicate regs none))) (e2 : L2 = bolVs (somes (List.replicate regs none))) (e3 : L3 = bVs (flatR (List.replicate outs none))) (e4 : L4 = bolVs (somes (List.replicate outs none)))
    (hv : v = .pointer (some ⟨gk, 0, none⟩)) (hk : Row x gk 82 (lkV AS nS cS regs outs reads n 0 gr gs go gd 0)) (hs : Row x gs 4 L2) (hr : Row x gr 87 L1) (hd : Row x gd 4 L4) (ho : Row x go 87 L3)
    (hb : Below w.heap.size w x) (lo : w.heap.size ≤ gk ∧ w.heap.size ≤ gr ∧ w.heap.size ≤ gs ∧ w.heap.size ≤ go ∧ w.heap.size ≤ gd) (ne : gs ≠ gk ∧ gr ≠ gk ∧ gr ≠ gs ∧ gd ≠ gk ∧ go ≠ gk ∧ go ≠ gd ∧ gs ≠ go ∧ gr ≠ go ∧ gs ≠ gd ∧ gr ≠ gd) (hn : n ≤ 64) (hrd : reads < 2 ^ 64) : LookMid w AS cS nS regs outs reads n v x := by
  subst e1 e2 e3 e4
  obtain ⟨a1, a2, a3, a4, a5⟩ := lo
  obtain ⟨b1, b2, b3, b4, b5, b6, b7, b8, b9, b10⟩ := ne
  exact ⟨gk, gr, gs, go, gd, hv, ⟨a1, a2, a3, a4, a5, b1, b2, b3, b4, b5, b6, b7, b8, b9, b10, hn, hrd⟩, ⟨hk, hs, hr, hd, ho, st0_ok _ _ _, show (0 : Nat) < 2 ^ 64 by decide⟩, hb⟩
theorem below_al {w x : World} (h : Below w.heap.size w x) (o : Obj) : Below w.heap.size w (x.alloc o) := h.alloc h.size o
theorem below_dr {w x : World} (h : Below w.heap.size w x) : Below w.heap.size w x.drew := ⟨h.os, h.tape, h.output, h.size, h.block⟩
theorem cs_alloc4 {x : World} {a b c d : Addr} {p q r s : Value} (h : x.cell? a = some p ∧ x.cell? b = some q ∧ x.cell? c = some r ∧ x.cell? d = some s) (o : Obj) : (x.alloc o).cell? a = some p ∧ (x.alloc o).cell? b = some q ∧ (x.alloc o).cell? c = some r ∧ (x.alloc o).cell? d = some s := by
  have hc : ∀ {a : Addr} {p : Value}, x.cell? a = some p → (x.alloc o).cell? a = some p := fun h => (World.cell?_alloc_some x _ o (by rw [h]; rfl)).trans h
  exact ⟨hc h.1, hc h.2.1, hc h.2.2.1, hc h.2.2.2⟩
set_option maxRecDepth 100000 in
set_option maxHeartbeats 4000000 in
theorem look_yes (AS : Option Addr) (l : List PS) (cS regs outs reads n : Nat) (w : World) (hl : StepsAt w w.heap.size AS l) (hr : regs ≤ 256) (ho : outs ≤ 64) (hlen : l.length ≤ 65536) (hn : n ≤ 64) (hrd : reads < 2 ^ 64) (hok : ∀ s ∈ l, s.Ok)
    (hwr : ∀ w1, Below w.heap.size w w1 → Calls Try.prog 48 #[.agg #[.slice AS l.length cS, .int .i64 (regs : Int), .int .i64 (outs : Int), .int .u64 (reads : Int)]] w1 fun e w' => ∃ v, e = .returned (.tuple #[v, .int .i64 0]) ∧ Below w1.heap.size w1 w') :
    Calls Try.prog 30 #[.agg #[.slice AS l.length cS, .int .i64 (regs : Int), .int .i64 (outs : Int), .int .u64 (reads : Int)], .int .i64 (n : Int)] w fun e w' => LookPost w AS l cS regs outs reads n e w' := by
  have h0 : decide ((n : Int) < 0) = false := decide_eq_false (by omega)
  have h1 : decide ((64 : Int) < (n : Int)) = false := decide_eq_false (by omega)
  go_enter Try.func30, Try.ntmps30
  go_wp2_with fail
  have q : Below w.heap.size w (w.alloc (.cells #[.slice AS l.length cS, .int .i64 (regs : Int), .int .i64 (outs : Int), .int .u64 (reads : Int)] 26)) := (Below.refl _ _).alloc (Nat.le_refl _) _
  have hp0 := Row.new w [.slice AS l.length cS, .int .i64 (regs : Int), .int .i64 (outs : Int), .int .u64 (reads : Int)] 26
  refine (hwr _ q).mono ?_
  rintro e w1 ⟨v, rfl, hb⟩
  have hp1 := hp0.below hb hp0.lt
  have q1 : Below w.heap.size w w1 := q.trans (hb.mono (by simp))
  have p0 : w1.cell? ⟨w.heap.size, 0, none⟩ = some (.slice AS l.length cS) := hp1.cell 0
  have p1 : w1.cell? ⟨w.heap.size, 1, none⟩ = some (.int .i64 (regs : Int)) := hp1.cell 1
  have p2 : w1.cell? ⟨w.heap.size, 2, none⟩ = some (.int .i64 (outs : Int)) := hp1.cell 2
  have p3 : w1.cell? ⟨w.heap.size, 3, none⟩ = some (.int .u64 (reads : Int)) := hp1.cell 3
  clear hp0 hb
  have hm1 := fun w => make_content regs hr w
  have hm2 := fun w => make_bools regs hr w
  have hm3 := fun w => make_content outs (by omega) w
  have hm4 := fun w => make_bools outs (by omega) w
  obtain ⟨L1, hL1⟩ : ∃ L1, L1 = bVs (flatR (List.replicate regs none)) := ⟨_, rfl⟩
  obtain ⟨L2, hL2⟩ : ∃ L2, L2 = bolVs (somes (List.replicate regs none)) := ⟨_, rfl⟩
  obtain ⟨L3, hL3⟩ : ∃ L3, L3 = bVs (flatR (List.replicate outs none)) := ⟨_, rfl⟩
  obtain ⟨L4, hL4⟩ : ∃ L4, L4 = bolVs (somes (List.replicate outs none)) := ⟨_, rfl⟩
  rw [← hL1] at hm1
  rw [← hL2] at hm2
  rw [← hL3] at hm3
  rw [← hL4] at hm4
  have HL1 := Lib.hid hL1
  have HL2 := Lib.hid hL2
  have HL3 := Lib.hid hL3
  have HL4 := Lib.hid hL4
  have HP1 := Lib.hid hp1
  have HQ1 := Lib.hid q1
  have LT1 := Lib.hid (show w.heap.size < w1.heap.size from hp1.lt)
  clear hL1 hL2 hL3 hL4 hp1 q1 hwr q
  go_wp2_with fail
  go_cut [8] from 22 to 37 (fun s8 wx => LookMid w AS cS l.length regs outs reads n s8 wx)
  case first =>
    refine wp_region_held_drew (S := (fun x => x.cell? ⟨w.heap.size, 0, none⟩ = some (.slice AS l.length cS) ∧ x.cell? ⟨w.heap.size, 1, none⟩ = some (.int .i64 (regs : Int)) ∧ x.cell? ⟨w.heap.size, 2, none⟩ = some (.int .i64 (outs : Int)) ∧ x.cell? ⟨w.heap.size, 3, none⟩ = some (.int .u64 (reads : Int)))) (by kernel_rfl) ⟨p0, p1, p2, p3⟩ (fun hHeld => ?_)
    refine wpAnyH_take (i := 0) (v := ?_) rfl (by kernel_rfl) (by kernel_rfl) (by kernel_rfl) (fun _ _ _ h => h) (Or.inl ⟨by kernel_rfl, ?_⟩) (by assumption) ?_
    rotate_left
    · (intro w hSw; (try dsimp only at hSw); go_simp; (try with_reducible rfl))
    try simp only [List.getElem_toArray, List.getElem_cons_succ, List.getElem_cons_zero, Act.put, List.setIfInBounds_toArray, List.set_cons_zero, List.set_cons_succ]
    refine wpAnyH_take (i := 1) (v := ?_) rfl (by kernel_rfl) (by kernel_rfl) (by kernel_rfl) (fun _ _ _ h => h) (Or.inl ⟨by kernel_rfl, ?_⟩) (by assumption) ?_
    rotate_left
    · (intro w hSw; (try dsimp only at hSw); go_simp; (try with_reducible rfl))
    try simp only [List.getElem_toArray, List.getElem_cons_succ, List.getElem_cons_zero, Act.put, List.setIfInBounds_toArray, List.set_cons_zero, List.set_cons_succ]
    refine wpAnyH_take (i := 2) (v := ?_) rfl (by kernel_rfl) (by kernel_rfl) (by kernel_rfl) (fun _ _ _ h => h) (Or.inl ⟨by kernel_rfl, ?_⟩) (by assumption) ?_
    rotate_left
    · (intro w hSw; (try dsimp only at hSw); go_simp; (try with_reducible rfl))
    try simp only [List.getElem_toArray, List.getElem_cons_succ, List.getElem_cons_zero, Act.put, List.setIfInBounds_toArray, List.set_cons_zero, List.set_cons_succ]
    refine wpAnyH_take (i := 3) (v := ?_) rfl (by kernel_rfl) (by kernel_rfl) (by kernel_rfl) (fun _ _ _ h => h) (Or.inl ⟨by kernel_rfl, ?_⟩) (by assumption) ?_
    rotate_left
    · (intro w hSw; (try dsimp only at hSw); go_simp; (try with_reducible rfl))
    try simp only [List.getElem_toArray, List.getElem_cons_succ, List.getElem_cons_zero, Act.put, List.setIfInBounds_toArray, List.set_cons_zero, List.set_cons_succ]
    refine wpAnyH_take (i := 5) (v := ?_) rfl (by kernel_rfl) (by kernel_rfl) (by kernel_rfl) (fun _ _ _ h => h) (Or.inl ⟨by kernel_rfl, ?_⟩) (by assumption) ?_
    rotate_left
    · (intro w hSw; (try dsimp only at hSw); go_simp; (try with_reducible rfl))
    try simp only [List.getElem_toArray, List.getElem_cons_succ, List.getElem_cons_zero, Act.put, List.setIfInBounds_toArray, List.set_cons_zero, List.set_cons_succ]
    refine wpAnyH_take (i := 6) (v := ?_) rfl (by kernel_rfl) (by kernel_rfl) (by kernel_rfl) (fun _ _ _ h => h) (Or.inl ⟨by kernel_rfl, ?_⟩) (by assumption) ?_
    rotate_left
    · (intro w hSw; (try dsimp only at hSw); go_simp; (try with_reducible rfl))
    try simp only [List.getElem_toArray, List.getElem_cons_succ, List.getElem_cons_zero, Act.put, List.setIfInBounds_toArray, List.set_cons_zero, List.set_cons_succ]
    refine wpAnyH_take (i := 8) (v := ?_) rfl (by kernel_rfl) (by kernel_rfl) (by kernel_rfl) (fun _ _ _ h => h) (Or.inl ⟨by kernel_rfl, ?_⟩) (by assumption) ?_
    rotate_left
    · (intro w hSw; (try dsimp only at hSw); go_simp; (try with_reducible rfl))
    try simp only [List.getElem_toArray, List.getElem_cons_succ, List.getElem_cons_zero, Act.put, List.setIfInBounds_toArray, List.set_cons_zero, List.set_cons_succ]
    refine wpAnyH_take (i := 9) (v := ?_) rfl (by kernel_rfl) (by kernel_rfl) (by kernel_rfl) (fun _ _ _ h => h) (Or.inl ⟨by kernel_rfl, ?_⟩) (by assumption) ?_
    rotate_left
    · (intro w hSw; (try dsimp only at hSw); go_simp; (try with_reducible rfl))
    try simp only [List.getElem_toArray, List.getElem_cons_succ, List.getElem_cons_zero, Act.put, List.setIfInBounds_toArray, List.set_cons_zero, List.set_cons_succ]
    refine wpAnyH_take (i := 11) (v := ?_) rfl (by kernel_rfl) (by kernel_rfl) (by kernel_rfl) (fun _ _ _ h => h) (Or.inl ⟨by kernel_rfl, ?_⟩) (by assumption) ?_
    rotate_left
    · (intro w hSw; (try dsimp only at hSw); go_simp; (try with_reducible rfl))
    try simp only [List.getElem_toArray, List.getElem_cons_succ, List.getElem_cons_zero, Act.put, List.setIfInBounds_toArray, List.set_cons_zero, List.set_cons_succ]
    refine wpAnyH_take (i := 12) (v := ?_) rfl (by kernel_rfl) (by kernel_rfl) (by kernel_rfl) (fun _ _ _ h => h) (Or.inl ⟨by kernel_rfl, ?_⟩) (by assumption) ?_
    rotate_left
    · (intro w hSw; (try dsimp only at hSw); go_simp; (try with_reducible rfl))
    try simp only [List.getElem_toArray, List.getElem_cons_succ, List.getElem_cons_zero, Act.put, List.setIfInBounds_toArray, List.set_cons_zero, List.set_cons_succ]
    --NODES
    refine wpAnyH_ready (rs := [4, 7, 10, 13]) (by kernel_rfl) (by simp) ?_
    refine AllReadyH.cons rfl (fun K hK => ?_) (AllReadyH.cons rfl (fun K hK => ?_) (AllReadyH.cons rfl (fun K hK => ?_) (AllReadyH.cons rfl (fun K hK => ?_) (AllReadyH.nil))))
    · go_simp
      refine hK.out _ _ (cs_alloc4 hHeld _) (fun hHeld => ?_)
      clear hK K
      try simp only [List.getElem_toArray, List.getElem_cons_succ, List.getElem_cons_zero, Act.put, List.setIfInBounds_toArray, List.set_cons_zero, List.set_cons_succ]
      refine wpAnyH_ready (rs := [7, 10, 13]) (by kernel_rfl) (by simp) ?_
      refine AllReadyH.cons rfl (fun K hK => ?_) (AllReadyH.cons rfl (fun K hK => ?_) (AllReadyH.cons rfl (fun K hK => ?_) (AllReadyH.nil)))
      · go_simp
        refine hK.out _ _ (cs_alloc4 hHeld _) (fun hHeld => ?_)
        clear hK K
        try simp only [List.getElem_toArray, List.getElem_cons_succ, List.getElem_cons_zero, Act.put, List.setIfInBounds_toArray, List.set_cons_zero, List.set_cons_succ]
        refine wpAnyH_ready (rs := [10, 13]) (by kernel_rfl) (by simp) ?_
        refine AllReadyH.cons rfl (fun K hK => ?_) (AllReadyH.cons rfl (fun K hK => ?_) (AllReadyH.nil))
        · go_simp
          refine hK.out _ _ (cs_alloc4 hHeld _) (fun hHeld => ?_)
          clear hK K
          try simp only [List.getElem_toArray, List.getElem_cons_succ, List.getElem_cons_zero, Act.put, List.setIfInBounds_toArray, List.set_cons_zero, List.set_cons_succ]
          refine wpAnyH_ready (rs := [13]) (by kernel_rfl) (by simp) ?_
          refine AllReadyH.cons rfl (fun K hK => ?_) (AllReadyH.nil)
          · go_simp
            refine hK.out _ _ (cs_alloc4 hHeld _) (fun hHeld => ?_)
            clear hK K
            try simp only [List.getElem_toArray, List.getElem_cons_succ, List.getElem_cons_zero, Act.put, List.setIfInBounds_toArray, List.set_cons_zero, List.set_cons_succ]
            refine wpAnyH_ready (rs := [14]) (by kernel_rfl) (by simp) ?_
            refine AllReadyH.cons rfl (fun K hK => ?_) AllReadyH.nil
            go_simp
            refine hK.out _ _ hHeld (fun hHeld => ?_)
            clear hK K
            try simp only [List.getElem_toArray, List.getElem_cons_succ, List.getElem_cons_zero, Act.put, List.setIfInBounds_toArray, List.set_cons_zero, List.set_cons_succ]
            refine wpAnyH_ready (rs := [15]) (by kernel_rfl) (by simp) ?_
            refine AllReadyH.cons rfl (fun K hK => ?_) AllReadyH.nil
            go_simp
            refine hK.out _ _ (cs_alloc4 hHeld _) (fun hHeld => ?_)
            clear hK K
            try simp only [List.getElem_toArray, List.getElem_cons_succ, List.getElem_cons_zero, Act.put, List.setIfInBounds_toArray, List.set_cons_zero, List.set_cons_succ]
            refine wpAnyH_ready (rs := [16]) (by kernel_rfl) (by simp) ?_
            refine AllReadyH.cons rfl (fun K hK => ?_) AllReadyH.nil
            go_simp
            refine hK.out _ _ hHeld (fun hHeld => ?_)
            clear hK K
            try simp only [List.getElem_toArray, List.getElem_cons_succ, List.getElem_cons_zero, Act.put, List.setIfInBounds_toArray, List.set_cons_zero, List.set_cons_succ]
            refine wpAnyH_done (by kernel_rfl) ?_ _
            go_wp2_with fail
            go_meet
            exact mid_of HL1.out HL2.out HL3.out HL4.out rfl (by repeat' (first | with_reducible refine Row.drew ?_ | with_reducible refine Row.newE _ _ _ (by simp) | exact Row.newE _ _ _ (by simp) | with_reducible refine Row.alloc ?_ _)) (by repeat' (first | with_reducible refine Row.drew ?_ | with_reducible refine Row.newE _ _ _ (by simp) | exact Row.newE _ _ _ (by simp) | with_reducible refine Row.alloc ?_ _)) (by repeat' (first | with_reducible refine Row.drew ?_ | with_reducible refine Row.newE _ _ _ (by simp) | exact Row.newE _ _ _ (by simp) | with_reducible refine Row.alloc ?_ _)) (by repeat' (first | with_reducible refine Row.drew ?_ | with_reducible refine Row.newE _ _ _ (by simp) | exact Row.newE _ _ _ (by simp) | with_reducible refine Row.alloc ?_ _)) (by repeat' (first | with_reducible refine Row.drew ?_ | with_reducible refine Row.newE _ _ _ (by simp) | exact Row.newE _ _ _ (by simp) | with_reducible refine Row.alloc ?_ _)) (by repeat' (first | with_reducible exact HQ1.out | with_reducible refine below_dr ?_ | with_reducible refine below_al ?_ _)) (by have := LT1.out; refine ⟨?_, ?_, ?_, ?_, ?_⟩ <;> omega) (by refine ⟨?_, ?_, ?_, ?_, ?_, ?_, ?_, ?_, ?_, ?_⟩ <;> omega) hn hrd
        · go_simp
          refine hK.out _ _ (cs_alloc4 hHeld _) (fun hHeld => ?_)
          clear hK K
          try simp only [List.getElem_toArray, List.getElem_cons_succ, List.getElem_cons_zero, Act.put, List.setIfInBounds_toArray, List.set_cons_zero, List.set_cons_succ]
          refine wpAnyH_ready (rs := [10]) (by kernel_rfl) (by simp) ?_
          refine AllReadyH.cons rfl (fun K hK => ?_) (AllReadyH.nil)
          · go_simp
            refine hK.out _ _ (cs_alloc4 hHeld _) (fun hHeld => ?_)
            clear hK K
            try simp only [List.getElem_toArray, List.getElem_cons_succ, List.getElem_cons_zero, Act.put, List.setIfInBounds_toArray, List.set_cons_zero, List.set_cons_succ]
            refine wpAnyH_ready (rs := [14]) (by kernel_rfl) (by simp) ?_
            refine AllReadyH.cons rfl (fun K hK => ?_) AllReadyH.nil
            go_simp
            refine hK.out _ _ hHeld (fun hHeld => ?_)
            clear hK K
            try simp only [List.getElem_toArray, List.getElem_cons_succ, List.getElem_cons_zero, Act.put, List.setIfInBounds_toArray, List.set_cons_zero, List.set_cons_succ]
            refine wpAnyH_ready (rs := [15]) (by kernel_rfl) (by simp) ?_
            refine AllReadyH.cons rfl (fun K hK => ?_) AllReadyH.nil
            go_simp
            refine hK.out _ _ (cs_alloc4 hHeld _) (fun hHeld => ?_)
            clear hK K
            try simp only [List.getElem_toArray, List.getElem_cons_succ, List.getElem_cons_zero, Act.put, List.setIfInBounds_toArray, List.set_cons_zero, List.set_cons_succ]
            refine wpAnyH_ready (rs := [16]) (by kernel_rfl) (by simp) ?_
            refine AllReadyH.cons rfl (fun K hK => ?_) AllReadyH.nil
            go_simp
            refine hK.out _ _ hHeld (fun hHeld => ?_)
            clear hK K
            try simp only [List.getElem_toArray, List.getElem_cons_succ, List.getElem_cons_zero, Act.put, List.setIfInBounds_toArray, List.set_cons_zero, List.set_cons_succ]
            refine wpAnyH_done (by kernel_rfl) ?_ _
            go_wp2_with fail
            go_meet
            exact mid_of HL1.out HL2.out HL3.out HL4.out rfl (by repeat' (first | with_reducible refine Row.drew ?_ | with_reducible refine Row.newE _ _ _ (by simp) | exact Row.newE _ _ _ (by simp) | with_reducible refine Row.alloc ?_ _)) (by repeat' (first | with_reducible refine Row.drew ?_ | with_reducible refine Row.newE _ _ _ (by simp) | exact Row.newE _ _ _ (by simp) | with_reducible refine Row.alloc ?_ _)) (by repeat' (first | with_reducible refine Row.drew ?_ | with_reducible refine Row.newE _ _ _ (by simp) | exact Row.newE _ _ _ (by simp) | with_reducible refine Row.alloc ?_ _)) (by repeat' (first | with_reducible refine Row.drew ?_ | with_reducible refine Row.newE _ _ _ (by simp) | exact Row.newE _ _ _ (by simp) | with_reducible refine Row.alloc ?_ _)) (by repeat' (first | with_reducible refine Row.drew ?_ | with_reducible refine Row.newE _ _ _ (by simp) | exact Row.newE _ _ _ (by simp) | with_reducible refine Row.alloc ?_ _)) (by repeat' (first | with_reducible exact HQ1.out | with_reducible refine below_dr ?_ | with_reducible refine below_al ?_ _)) (by have := LT1.out; refine ⟨?_, ?_, ?_, ?_, ?_⟩ <;> omega) (by refine ⟨?_, ?_, ?_, ?_, ?_, ?_, ?_, ?_, ?_, ?_⟩ <;> omega) hn hrd
      · go_simp
        refine hK.out _ _ (cs_alloc4 hHeld _) (fun hHeld => ?_)
        clear hK K
        try simp only [List.getElem_toArray, List.getElem_cons_succ, List.getElem_cons_zero, Act.put, List.setIfInBounds_toArray, List.set_cons_zero, List.set_cons_succ]
        refine wpAnyH_ready (rs := [7, 13]) (by kernel_rfl) (by simp) ?_
        refine AllReadyH.cons rfl (fun K hK => ?_) (AllReadyH.cons rfl (fun K hK => ?_) (AllReadyH.nil))
        · go_simp
          refine hK.out _ _ (cs_alloc4 hHeld _) (fun hHeld => ?_)
          clear hK K
          try simp only [List.getElem_toArray, List.getElem_cons_succ, List.getElem_cons_zero, Act.put, List.setIfInBounds_toArray, List.set_cons_zero, List.set_cons_succ]
          refine wpAnyH_ready (rs := [13]) (by kernel_rfl) (by simp) ?_
          refine AllReadyH.cons rfl (fun K hK => ?_) (AllReadyH.nil)
          · go_simp
            refine hK.out _ _ (cs_alloc4 hHeld _) (fun hHeld => ?_)
            clear hK K
            try simp only [List.getElem_toArray, List.getElem_cons_succ, List.getElem_cons_zero, Act.put, List.setIfInBounds_toArray, List.set_cons_zero, List.set_cons_succ]
            refine wpAnyH_ready (rs := [14]) (by kernel_rfl) (by simp) ?_
            refine AllReadyH.cons rfl (fun K hK => ?_) AllReadyH.nil
            go_simp
            refine hK.out _ _ hHeld (fun hHeld => ?_)
            clear hK K
            try simp only [List.getElem_toArray, List.getElem_cons_succ, List.getElem_cons_zero, Act.put, List.setIfInBounds_toArray, List.set_cons_zero, List.set_cons_succ]
            refine wpAnyH_ready (rs := [15]) (by kernel_rfl) (by simp) ?_
            refine AllReadyH.cons rfl (fun K hK => ?_) AllReadyH.nil
            go_simp
            refine hK.out _ _ (cs_alloc4 hHeld _) (fun hHeld => ?_)
            clear hK K
            try simp only [List.getElem_toArray, List.getElem_cons_succ, List.getElem_cons_zero, Act.put, List.setIfInBounds_toArray, List.set_cons_zero, List.set_cons_succ]
            refine wpAnyH_ready (rs := [16]) (by kernel_rfl) (by simp) ?_
            refine AllReadyH.cons rfl (fun K hK => ?_) AllReadyH.nil
            go_simp
            refine hK.out _ _ hHeld (fun hHeld => ?_)
            clear hK K
            try simp only [List.getElem_toArray, List.getElem_cons_succ, List.getElem_cons_zero, Act.put, List.setIfInBounds_toArray, List.set_cons_zero, List.set_cons_succ]
            refine wpAnyH_done (by kernel_rfl) ?_ _
            go_wp2_with fail
            go_meet
            exact mid_of HL1.out HL2.out HL3.out HL4.out rfl (by repeat' (first | with_reducible refine Row.drew ?_ | with_reducible refine Row.newE _ _ _ (by simp) | exact Row.newE _ _ _ (by simp) | with_reducible refine Row.alloc ?_ _)) (by repeat' (first | with_reducible refine Row.drew ?_ | with_reducible refine Row.newE _ _ _ (by simp) | exact Row.newE _ _ _ (by simp) | with_reducible refine Row.alloc ?_ _)) (by repeat' (first | with_reducible refine Row.drew ?_ | with_reducible refine Row.newE _ _ _ (by simp) | exact Row.newE _ _ _ (by simp) | with_reducible refine Row.alloc ?_ _)) (by repeat' (first | with_reducible refine Row.drew ?_ | with_reducible refine Row.newE _ _ _ (by simp) | exact Row.newE _ _ _ (by simp) | with_reducible refine Row.alloc ?_ _)) (by repeat' (first | with_reducible refine Row.drew ?_ | with_reducible refine Row.newE _ _ _ (by simp) | exact Row.newE _ _ _ (by simp) | with_reducible refine Row.alloc ?_ _)) (by repeat' (first | with_reducible exact HQ1.out | with_reducible refine below_dr ?_ | with_reducible refine below_al ?_ _)) (by have := LT1.out; refine ⟨?_, ?_, ?_, ?_, ?_⟩ <;> omega) (by refine ⟨?_, ?_, ?_, ?_, ?_, ?_, ?_, ?_, ?_, ?_⟩ <;> omega) hn hrd
        · go_simp
          refine hK.out _ _ (cs_alloc4 hHeld _) (fun hHeld => ?_)
          clear hK K
          try simp only [List.getElem_toArray, List.getElem_cons_succ, List.getElem_cons_zero, Act.put, List.setIfInBounds_toArray, List.set_cons_zero, List.set_cons_succ]
          refine wpAnyH_ready (rs := [7]) (by kernel_rfl) (by simp) ?_
          refine AllReadyH.cons rfl (fun K hK => ?_) (AllReadyH.nil)
          · go_simp
            refine hK.out _ _ (cs_alloc4 hHeld _) (fun hHeld => ?_)
            clear hK K
            try simp only [List.getElem_toArray, List.getElem_cons_succ, List.getElem_cons_zero, Act.put, List.setIfInBounds_toArray, List.set_cons_zero, List.set_cons_succ]
            refine wpAnyH_ready (rs := [14]) (by kernel_rfl) (by simp) ?_
            refine AllReadyH.cons rfl (fun K hK => ?_) AllReadyH.nil
            go_simp
            refine hK.out _ _ hHeld (fun hHeld => ?_)
            clear hK K
            try simp only [List.getElem_toArray, List.getElem_cons_succ, List.getElem_cons_zero, Act.put, List.setIfInBounds_toArray, List.set_cons_zero, List.set_cons_succ]
            refine wpAnyH_ready (rs := [15]) (by kernel_rfl) (by simp) ?_
            refine AllReadyH.cons rfl (fun K hK => ?_) AllReadyH.nil
            go_simp
            refine hK.out _ _ (cs_alloc4 hHeld _) (fun hHeld => ?_)
            clear hK K
            try simp only [List.getElem_toArray, List.getElem_cons_succ, List.getElem_cons_zero, Act.put, List.setIfInBounds_toArray, List.set_cons_zero, List.set_cons_succ]
            refine wpAnyH_ready (rs := [16]) (by kernel_rfl) (by simp) ?_
            refine AllReadyH.cons rfl (fun K hK => ?_) AllReadyH.nil
            go_simp
            refine hK.out _ _ hHeld (fun hHeld => ?_)
            clear hK K
            try simp only [List.getElem_toArray, List.getElem_cons_succ, List.getElem_cons_zero, Act.put, List.setIfInBounds_toArray, List.set_cons_zero, List.set_cons_succ]
            refine wpAnyH_done (by kernel_rfl) ?_ _
            go_wp2_with fail
            go_meet
            exact mid_of HL1.out HL2.out HL3.out HL4.out rfl (by repeat' (first | with_reducible refine Row.drew ?_ | with_reducible refine Row.newE _ _ _ (by simp) | exact Row.newE _ _ _ (by simp) | with_reducible refine Row.alloc ?_ _)) (by repeat' (first | with_reducible refine Row.drew ?_ | with_reducible refine Row.newE _ _ _ (by simp) | exact Row.newE _ _ _ (by simp) | with_reducible refine Row.alloc ?_ _)) (by repeat' (first | with_reducible refine Row.drew ?_ | with_reducible refine Row.newE _ _ _ (by simp) | exact Row.newE _ _ _ (by simp) | with_reducible refine Row.alloc ?_ _)) (by repeat' (first | with_reducible refine Row.drew ?_ | with_reducible refine Row.newE _ _ _ (by simp) | exact Row.newE _ _ _ (by simp) | with_reducible refine Row.alloc ?_ _)) (by repeat' (first | with_reducible refine Row.drew ?_ | with_reducible refine Row.newE _ _ _ (by simp) | exact Row.newE _ _ _ (by simp) | with_reducible refine Row.alloc ?_ _)) (by repeat' (first | with_reducible exact HQ1.out | with_reducible refine below_dr ?_ | with_reducible refine below_al ?_ _)) (by have := LT1.out; refine ⟨?_, ?_, ?_, ?_, ?_⟩ <;> omega) (by refine ⟨?_, ?_, ?_, ?_, ?_, ?_, ?_, ?_, ?_, ?_⟩ <;> omega) hn hrd
      · go_simp
        refine hK.out _ _ (cs_alloc4 hHeld _) (fun hHeld => ?_)
        clear hK K
        try simp only [List.getElem_toArray, List.getElem_cons_succ, List.getElem_cons_zero, Act.put, List.setIfInBounds_toArray, List.set_cons_zero, List.set_cons_succ]
        refine wpAnyH_ready (rs := [7, 10]) (by kernel_rfl) (by simp) ?_
        refine AllReadyH.cons rfl (fun K hK => ?_) (AllReadyH.cons rfl (fun K hK => ?_) (AllReadyH.nil))
        · go_simp
          refine hK.out _ _ (cs_alloc4 hHeld _) (fun hHeld => ?_)
          clear hK K
          try simp only [List.getElem_toArray, List.getElem_cons_succ, List.getElem_cons_zero, Act.put, List.setIfInBounds_toArray, List.set_cons_zero, List.set_cons_succ]
          refine wpAnyH_ready (rs := [10]) (by kernel_rfl) (by simp) ?_
          refine AllReadyH.cons rfl (fun K hK => ?_) (AllReadyH.nil)
          · go_simp
            refine hK.out _ _ (cs_alloc4 hHeld _) (fun hHeld => ?_)
            clear hK K
            try simp only [List.getElem_toArray, List.getElem_cons_succ, List.getElem_cons_zero, Act.put, List.setIfInBounds_toArray, List.set_cons_zero, List.set_cons_succ]
            refine wpAnyH_ready (rs := [14]) (by kernel_rfl) (by simp) ?_
            refine AllReadyH.cons rfl (fun K hK => ?_) AllReadyH.nil
            go_simp
            refine hK.out _ _ hHeld (fun hHeld => ?_)
            clear hK K
            try simp only [List.getElem_toArray, List.getElem_cons_succ, List.getElem_cons_zero, Act.put, List.setIfInBounds_toArray, List.set_cons_zero, List.set_cons_succ]
            refine wpAnyH_ready (rs := [15]) (by kernel_rfl) (by simp) ?_
            refine AllReadyH.cons rfl (fun K hK => ?_) AllReadyH.nil
            go_simp
            refine hK.out _ _ (cs_alloc4 hHeld _) (fun hHeld => ?_)
            clear hK K
            try simp only [List.getElem_toArray, List.getElem_cons_succ, List.getElem_cons_zero, Act.put, List.setIfInBounds_toArray, List.set_cons_zero, List.set_cons_succ]
            refine wpAnyH_ready (rs := [16]) (by kernel_rfl) (by simp) ?_
            refine AllReadyH.cons rfl (fun K hK => ?_) AllReadyH.nil
            go_simp
            refine hK.out _ _ hHeld (fun hHeld => ?_)
            clear hK K
            try simp only [List.getElem_toArray, List.getElem_cons_succ, List.getElem_cons_zero, Act.put, List.setIfInBounds_toArray, List.set_cons_zero, List.set_cons_succ]
            refine wpAnyH_done (by kernel_rfl) ?_ _
            go_wp2_with fail
            go_meet
            exact mid_of HL1.out HL2.out HL3.out HL4.out rfl (by repeat' (first | with_reducible refine Row.drew ?_ | with_reducible refine Row.newE _ _ _ (by simp) | exact Row.newE _ _ _ (by simp) | with_reducible refine Row.alloc ?_ _)) (by repeat' (first | with_reducible refine Row.drew ?_ | with_reducible refine Row.newE _ _ _ (by simp) | exact Row.newE _ _ _ (by simp) | with_reducible refine Row.alloc ?_ _)) (by repeat' (first | with_reducible refine Row.drew ?_ | with_reducible refine Row.newE _ _ _ (by simp) | exact Row.newE _ _ _ (by simp) | with_reducible refine Row.alloc ?_ _)) (by repeat' (first | with_reducible refine Row.drew ?_ | with_reducible refine Row.newE _ _ _ (by simp) | exact Row.newE _ _ _ (by simp) | with_reducible refine Row.alloc ?_ _)) (by repeat' (first | with_reducible refine Row.drew ?_ | with_reducible refine Row.newE _ _ _ (by simp) | exact Row.newE _ _ _ (by simp) | with_reducible refine Row.alloc ?_ _)) (by repeat' (first | with_reducible exact HQ1.out | with_reducible refine below_dr ?_ | with_reducible refine below_al ?_ _)) (by have := LT1.out; refine ⟨?_, ?_, ?_, ?_, ?_⟩ <;> omega) (by refine ⟨?_, ?_, ?_, ?_, ?_, ?_, ?_, ?_, ?_, ?_⟩ <;> omega) hn hrd
        · go_simp
          refine hK.out _ _ (cs_alloc4 hHeld _) (fun hHeld => ?_)
          clear hK K
          try simp only [List.getElem_toArray, List.getElem_cons_succ, List.getElem_cons_zero, Act.put, List.setIfInBounds_toArray, List.set_cons_zero, List.set_cons_succ]
          refine wpAnyH_ready (rs := [7]) (by kernel_rfl) (by simp) ?_
          refine AllReadyH.cons rfl (fun K hK => ?_) (AllReadyH.nil)
          · go_simp
            refine hK.out _ _ (cs_alloc4 hHeld _) (fun hHeld => ?_)
            clear hK K
            try simp only [List.getElem_toArray, List.getElem_cons_succ, List.getElem_cons_zero, Act.put, List.setIfInBounds_toArray, List.set_cons_zero, List.set_cons_succ]
            refine wpAnyH_ready (rs := [14]) (by kernel_rfl) (by simp) ?_
            refine AllReadyH.cons rfl (fun K hK => ?_) AllReadyH.nil
            go_simp
            refine hK.out _ _ hHeld (fun hHeld => ?_)
            clear hK K
            try simp only [List.getElem_toArray, List.getElem_cons_succ, List.getElem_cons_zero, Act.put, List.setIfInBounds_toArray, List.set_cons_zero, List.set_cons_succ]
            refine wpAnyH_ready (rs := [15]) (by kernel_rfl) (by simp) ?_
            refine AllReadyH.cons rfl (fun K hK => ?_) AllReadyH.nil
            go_simp
            refine hK.out _ _ (cs_alloc4 hHeld _) (fun hHeld => ?_)
            clear hK K
            try simp only [List.getElem_toArray, List.getElem_cons_succ, List.getElem_cons_zero, Act.put, List.setIfInBounds_toArray, List.set_cons_zero, List.set_cons_succ]
            refine wpAnyH_ready (rs := [16]) (by kernel_rfl) (by simp) ?_
            refine AllReadyH.cons rfl (fun K hK => ?_) AllReadyH.nil
            go_simp
            refine hK.out _ _ hHeld (fun hHeld => ?_)
            clear hK K
            try simp only [List.getElem_toArray, List.getElem_cons_succ, List.getElem_cons_zero, Act.put, List.setIfInBounds_toArray, List.set_cons_zero, List.set_cons_succ]
            refine wpAnyH_done (by kernel_rfl) ?_ _
            go_wp2_with fail
            go_meet
            exact mid_of HL1.out HL2.out HL3.out HL4.out rfl (by repeat' (first | with_reducible refine Row.drew ?_ | with_reducible refine Row.newE _ _ _ (by simp) | exact Row.newE _ _ _ (by simp) | with_reducible refine Row.alloc ?_ _)) (by repeat' (first | with_reducible refine Row.drew ?_ | with_reducible refine Row.newE _ _ _ (by simp) | exact Row.newE _ _ _ (by simp) | with_reducible refine Row.alloc ?_ _)) (by repeat' (first | with_reducible refine Row.drew ?_ | with_reducible refine Row.newE _ _ _ (by simp) | exact Row.newE _ _ _ (by simp) | with_reducible refine Row.alloc ?_ _)) (by repeat' (first | with_reducible refine Row.drew ?_ | with_reducible refine Row.newE _ _ _ (by simp) | exact Row.newE _ _ _ (by simp) | with_reducible refine Row.alloc ?_ _)) (by repeat' (first | with_reducible refine Row.drew ?_ | with_reducible refine Row.newE _ _ _ (by simp) | exact Row.newE _ _ _ (by simp) | with_reducible refine Row.alloc ?_ _)) (by repeat' (first | with_reducible exact HQ1.out | with_reducible refine below_dr ?_ | with_reducible refine below_al ?_ _)) (by have := LT1.out; refine ⟨?_, ?_, ?_, ?_, ?_⟩ <;> omega) (by refine ⟨?_, ?_, ?_, ?_, ?_, ?_, ?_, ?_, ?_, ?_⟩ <;> omega) hn hrd
    · go_simp
      refine hK.out _ _ (cs_alloc4 hHeld _) (fun hHeld => ?_)
      clear hK K
      try simp only [List.getElem_toArray, List.getElem_cons_succ, List.getElem_cons_zero, Act.put, List.setIfInBounds_toArray, List.set_cons_zero, List.set_cons_succ]
      refine wpAnyH_ready (rs := [4, 10, 13]) (by kernel_rfl) (by simp) ?_
      refine AllReadyH.cons rfl (fun K hK => ?_) (AllReadyH.cons rfl (fun K hK => ?_) (AllReadyH.cons rfl (fun K hK => ?_) (AllReadyH.nil)))
      · go_simp
        refine hK.out _ _ (cs_alloc4 hHeld _) (fun hHeld => ?_)
        clear hK K
        try simp only [List.getElem_toArray, List.getElem_cons_succ, List.getElem_cons_zero, Act.put, List.setIfInBounds_toArray, List.set_cons_zero, List.set_cons_succ]
        refine wpAnyH_ready (rs := [10, 13]) (by kernel_rfl) (by simp) ?_
        refine AllReadyH.cons rfl (fun K hK => ?_) (AllReadyH.cons rfl (fun K hK => ?_) (AllReadyH.nil))
        · go_simp
          refine hK.out _ _ (cs_alloc4 hHeld _) (fun hHeld => ?_)
          clear hK K
          try simp only [List.getElem_toArray, List.getElem_cons_succ, List.getElem_cons_zero, Act.put, List.setIfInBounds_toArray, List.set_cons_zero, List.set_cons_succ]
          refine wpAnyH_ready (rs := [13]) (by kernel_rfl) (by simp) ?_
          refine AllReadyH.cons rfl (fun K hK => ?_) (AllReadyH.nil)
          · go_simp
            refine hK.out _ _ (cs_alloc4 hHeld _) (fun hHeld => ?_)
            clear hK K
            try simp only [List.getElem_toArray, List.getElem_cons_succ, List.getElem_cons_zero, Act.put, List.setIfInBounds_toArray, List.set_cons_zero, List.set_cons_succ]
            refine wpAnyH_ready (rs := [14]) (by kernel_rfl) (by simp) ?_
            refine AllReadyH.cons rfl (fun K hK => ?_) AllReadyH.nil
            go_simp
            refine hK.out _ _ hHeld (fun hHeld => ?_)
            clear hK K
            try simp only [List.getElem_toArray, List.getElem_cons_succ, List.getElem_cons_zero, Act.put, List.setIfInBounds_toArray, List.set_cons_zero, List.set_cons_succ]
            refine wpAnyH_ready (rs := [15]) (by kernel_rfl) (by simp) ?_
            refine AllReadyH.cons rfl (fun K hK => ?_) AllReadyH.nil
            go_simp
            refine hK.out _ _ (cs_alloc4 hHeld _) (fun hHeld => ?_)
            clear hK K
            try simp only [List.getElem_toArray, List.getElem_cons_succ, List.getElem_cons_zero, Act.put, List.setIfInBounds_toArray, List.set_cons_zero, List.set_cons_succ]
            refine wpAnyH_ready (rs := [16]) (by kernel_rfl) (by simp) ?_
            refine AllReadyH.cons rfl (fun K hK => ?_) AllReadyH.nil
            go_simp
            refine hK.out _ _ hHeld (fun hHeld => ?_)
            clear hK K
            try simp only [List.getElem_toArray, List.getElem_cons_succ, List.getElem_cons_zero, Act.put, List.setIfInBounds_toArray, List.set_cons_zero, List.set_cons_succ]
            refine wpAnyH_done (by kernel_rfl) ?_ _
            go_wp2_with fail
            go_meet
            exact mid_of HL1.out HL2.out HL3.out HL4.out rfl (by repeat' (first | with_reducible refine Row.drew ?_ | with_reducible refine Row.newE _ _ _ (by simp) | exact Row.newE _ _ _ (by simp) | with_reducible refine Row.alloc ?_ _)) (by repeat' (first | with_reducible refine Row.drew ?_ | with_reducible refine Row.newE _ _ _ (by simp) | exact Row.newE _ _ _ (by simp) | with_reducible refine Row.alloc ?_ _)) (by repeat' (first | with_reducible refine Row.drew ?_ | with_reducible refine Row.newE _ _ _ (by simp) | exact Row.newE _ _ _ (by simp) | with_reducible refine Row.alloc ?_ _)) (by repeat' (first | with_reducible refine Row.drew ?_ | with_reducible refine Row.newE _ _ _ (by simp) | exact Row.newE _ _ _ (by simp) | with_reducible refine Row.alloc ?_ _)) (by repeat' (first | with_reducible refine Row.drew ?_ | with_reducible refine Row.newE _ _ _ (by simp) | exact Row.newE _ _ _ (by simp) | with_reducible refine Row.alloc ?_ _)) (by repeat' (first | with_reducible exact HQ1.out | with_reducible refine below_dr ?_ | with_reducible refine below_al ?_ _)) (by have := LT1.out; refine ⟨?_, ?_, ?_, ?_, ?_⟩ <;> omega) (by refine ⟨?_, ?_, ?_, ?_, ?_, ?_, ?_, ?_, ?_, ?_⟩ <;> omega) hn hrd
        · go_simp
          refine hK.out _ _ (cs_alloc4 hHeld _) (fun hHeld => ?_)
          clear hK K
          try simp only [List.getElem_toArray, List.getElem_cons_succ, List.getElem_cons_zero, Act.put, List.setIfInBounds_toArray, List.set_cons_zero, List.set_cons_succ]
          refine wpAnyH_ready (rs := [10]) (by kernel_rfl) (by simp) ?_
          refine AllReadyH.cons rfl (fun K hK => ?_) (AllReadyH.nil)
          · go_simp
            refine hK.out _ _ (cs_alloc4 hHeld _) (fun hHeld => ?_)
            clear hK K
            try simp only [List.getElem_toArray, List.getElem_cons_succ, List.getElem_cons_zero, Act.put, List.setIfInBounds_toArray, List.set_cons_zero, List.set_cons_succ]
            refine wpAnyH_ready (rs := [14]) (by kernel_rfl) (by simp) ?_
            refine AllReadyH.cons rfl (fun K hK => ?_) AllReadyH.nil
            go_simp
            refine hK.out _ _ hHeld (fun hHeld => ?_)
            clear hK K
            try simp only [List.getElem_toArray, List.getElem_cons_succ, List.getElem_cons_zero, Act.put, List.setIfInBounds_toArray, List.set_cons_zero, List.set_cons_succ]
            refine wpAnyH_ready (rs := [15]) (by kernel_rfl) (by simp) ?_
            refine AllReadyH.cons rfl (fun K hK => ?_) AllReadyH.nil
            go_simp
            refine hK.out _ _ (cs_alloc4 hHeld _) (fun hHeld => ?_)
            clear hK K
            try simp only [List.getElem_toArray, List.getElem_cons_succ, List.getElem_cons_zero, Act.put, List.setIfInBounds_toArray, List.set_cons_zero, List.set_cons_succ]
            refine wpAnyH_ready (rs := [16]) (by kernel_rfl) (by simp) ?_
            refine AllReadyH.cons rfl (fun K hK => ?_) AllReadyH.nil
            go_simp
            refine hK.out _ _ hHeld (fun hHeld => ?_)
            clear hK K
            try simp only [List.getElem_toArray, List.getElem_cons_succ, List.getElem_cons_zero, Act.put, List.setIfInBounds_toArray, List.set_cons_zero, List.set_cons_succ]
            refine wpAnyH_done (by kernel_rfl) ?_ _
            go_wp2_with fail
            go_meet
            exact mid_of HL1.out HL2.out HL3.out HL4.out rfl (by repeat' (first | with_reducible refine Row.drew ?_ | with_reducible refine Row.newE _ _ _ (by simp) | exact Row.newE _ _ _ (by simp) | with_reducible refine Row.alloc ?_ _)) (by repeat' (first | with_reducible refine Row.drew ?_ | with_reducible refine Row.newE _ _ _ (by simp) | exact Row.newE _ _ _ (by simp) | with_reducible refine Row.alloc ?_ _)) (by repeat' (first | with_reducible refine Row.drew ?_ | with_reducible refine Row.newE _ _ _ (by simp) | exact Row.newE _ _ _ (by simp) | with_reducible refine Row.alloc ?_ _)) (by repeat' (first | with_reducible refine Row.drew ?_ | with_reducible refine Row.newE _ _ _ (by simp) | exact Row.newE _ _ _ (by simp) | with_reducible refine Row.alloc ?_ _)) (by repeat' (first | with_reducible refine Row.drew ?_ | with_reducible refine Row.newE _ _ _ (by simp) | exact Row.newE _ _ _ (by simp) | with_reducible refine Row.alloc ?_ _)) (by repeat' (first | with_reducible exact HQ1.out | with_reducible refine below_dr ?_ | with_reducible refine below_al ?_ _)) (by have := LT1.out; refine ⟨?_, ?_, ?_, ?_, ?_⟩ <;> omega) (by refine ⟨?_, ?_, ?_, ?_, ?_, ?_, ?_, ?_, ?_, ?_⟩ <;> omega) hn hrd
      · go_simp
        refine hK.out _ _ (cs_alloc4 hHeld _) (fun hHeld => ?_)
        clear hK K
        try simp only [List.getElem_toArray, List.getElem_cons_succ, List.getElem_cons_zero, Act.put, List.setIfInBounds_toArray, List.set_cons_zero, List.set_cons_succ]
        refine wpAnyH_ready (rs := [4, 13]) (by kernel_rfl) (by simp) ?_
        refine AllReadyH.cons rfl (fun K hK => ?_) (AllReadyH.cons rfl (fun K hK => ?_) (AllReadyH.nil))
        · go_simp
          refine hK.out _ _ (cs_alloc4 hHeld _) (fun hHeld => ?_)
          clear hK K
          try simp only [List.getElem_toArray, List.getElem_cons_succ, List.getElem_cons_zero, Act.put, List.setIfInBounds_toArray, List.set_cons_zero, List.set_cons_succ]
          refine wpAnyH_ready (rs := [13]) (by kernel_rfl) (by simp) ?_
          refine AllReadyH.cons rfl (fun K hK => ?_) (AllReadyH.nil)
          · go_simp
            refine hK.out _ _ (cs_alloc4 hHeld _) (fun hHeld => ?_)
            clear hK K
            try simp only [List.getElem_toArray, List.getElem_cons_succ, List.getElem_cons_zero, Act.put, List.setIfInBounds_toArray, List.set_cons_zero, List.set_cons_succ]
            refine wpAnyH_ready (rs := [14]) (by kernel_rfl) (by simp) ?_
            refine AllReadyH.cons rfl (fun K hK => ?_) AllReadyH.nil
            go_simp
            refine hK.out _ _ hHeld (fun hHeld => ?_)
            clear hK K
            try simp only [List.getElem_toArray, List.getElem_cons_succ, List.getElem_cons_zero, Act.put, List.setIfInBounds_toArray, List.set_cons_zero, List.set_cons_succ]
            refine wpAnyH_ready (rs := [15]) (by kernel_rfl) (by simp) ?_
            refine AllReadyH.cons rfl (fun K hK => ?_) AllReadyH.nil
            go_simp
            refine hK.out _ _ (cs_alloc4 hHeld _) (fun hHeld => ?_)
            clear hK K
            try simp only [List.getElem_toArray, List.getElem_cons_succ, List.getElem_cons_zero, Act.put, List.setIfInBounds_toArray, List.set_cons_zero, List.set_cons_succ]
            refine wpAnyH_ready (rs := [16]) (by kernel_rfl) (by simp) ?_
            refine AllReadyH.cons rfl (fun K hK => ?_) AllReadyH.nil
            go_simp
            refine hK.out _ _ hHeld (fun hHeld => ?_)
            clear hK K
            try simp only [List.getElem_toArray, List.getElem_cons_succ, List.getElem_cons_zero, Act.put, List.setIfInBounds_toArray, List.set_cons_zero, List.set_cons_succ]
            refine wpAnyH_done (by kernel_rfl) ?_ _
            go_wp2_with fail
            go_meet
            exact mid_of HL1.out HL2.out HL3.out HL4.out rfl (by repeat' (first | with_reducible refine Row.drew ?_ | with_reducible refine Row.newE _ _ _ (by simp) | exact Row.newE _ _ _ (by simp) | with_reducible refine Row.alloc ?_ _)) (by repeat' (first | with_reducible refine Row.drew ?_ | with_reducible refine Row.newE _ _ _ (by simp) | exact Row.newE _ _ _ (by simp) | with_reducible refine Row.alloc ?_ _)) (by repeat' (first | with_reducible refine Row.drew ?_ | with_reducible refine Row.newE _ _ _ (by simp) | exact Row.newE _ _ _ (by simp) | with_reducible refine Row.alloc ?_ _)) (by repeat' (first | with_reducible refine Row.drew ?_ | with_reducible refine Row.newE _ _ _ (by simp) | exact Row.newE _ _ _ (by simp) | with_reducible refine Row.alloc ?_ _)) (by repeat' (first | with_reducible refine Row.drew ?_ | with_reducible refine Row.newE _ _ _ (by simp) | exact Row.newE _ _ _ (by simp) | with_reducible refine Row.alloc ?_ _)) (by repeat' (first | with_reducible exact HQ1.out | with_reducible refine below_dr ?_ | with_reducible refine below_al ?_ _)) (by have := LT1.out; refine ⟨?_, ?_, ?_, ?_, ?_⟩ <;> omega) (by refine ⟨?_, ?_, ?_, ?_, ?_, ?_, ?_, ?_, ?_, ?_⟩ <;> omega) hn hrd
        · go_simp
          refine hK.out _ _ (cs_alloc4 hHeld _) (fun hHeld => ?_)
          clear hK K
          try simp only [List.getElem_toArray, List.getElem_cons_succ, List.getElem_cons_zero, Act.put, List.setIfInBounds_toArray, List.set_cons_zero, List.set_cons_succ]
          refine wpAnyH_ready (rs := [4]) (by kernel_rfl) (by simp) ?_
          refine AllReadyH.cons rfl (fun K hK => ?_) (AllReadyH.nil)
          · go_simp
            refine hK.out _ _ (cs_alloc4 hHeld _) (fun hHeld => ?_)
            clear hK K
            try simp only [List.getElem_toArray, List.getElem_cons_succ, List.getElem_cons_zero, Act.put, List.setIfInBounds_toArray, List.set_cons_zero, List.set_cons_succ]
            refine wpAnyH_ready (rs := [14]) (by kernel_rfl) (by simp) ?_
            refine AllReadyH.cons rfl (fun K hK => ?_) AllReadyH.nil
            go_simp
            refine hK.out _ _ hHeld (fun hHeld => ?_)
            clear hK K
            try simp only [List.getElem_toArray, List.getElem_cons_succ, List.getElem_cons_zero, Act.put, List.setIfInBounds_toArray, List.set_cons_zero, List.set_cons_succ]
            refine wpAnyH_ready (rs := [15]) (by kernel_rfl) (by simp) ?_
            refine AllReadyH.cons rfl (fun K hK => ?_) AllReadyH.nil
            go_simp
            refine hK.out _ _ (cs_alloc4 hHeld _) (fun hHeld => ?_)
            clear hK K
            try simp only [List.getElem_toArray, List.getElem_cons_succ, List.getElem_cons_zero, Act.put, List.setIfInBounds_toArray, List.set_cons_zero, List.set_cons_succ]
            refine wpAnyH_ready (rs := [16]) (by kernel_rfl) (by simp) ?_
            refine AllReadyH.cons rfl (fun K hK => ?_) AllReadyH.nil
            go_simp
            refine hK.out _ _ hHeld (fun hHeld => ?_)
            clear hK K
            try simp only [List.getElem_toArray, List.getElem_cons_succ, List.getElem_cons_zero, Act.put, List.setIfInBounds_toArray, List.set_cons_zero, List.set_cons_succ]
            refine wpAnyH_done (by kernel_rfl) ?_ _
            go_wp2_with fail
            go_meet
            exact mid_of HL1.out HL2.out HL3.out HL4.out rfl (by repeat' (first | with_reducible refine Row.drew ?_ | with_reducible refine Row.newE _ _ _ (by simp) | exact Row.newE _ _ _ (by simp) | with_reducible refine Row.alloc ?_ _)) (by repeat' (first | with_reducible refine Row.drew ?_ | with_reducible refine Row.newE _ _ _ (by simp) | exact Row.newE _ _ _ (by simp) | with_reducible refine Row.alloc ?_ _)) (by repeat' (first | with_reducible refine Row.drew ?_ | with_reducible refine Row.newE _ _ _ (by simp) | exact Row.newE _ _ _ (by simp) | with_reducible refine Row.alloc ?_ _)) (by repeat' (first | with_reducible refine Row.drew ?_ | with_reducible refine Row.newE _ _ _ (by simp) | exact Row.newE _ _ _ (by simp) | with_reducible refine Row.alloc ?_ _)) (by repeat' (first | with_reducible refine Row.drew ?_ | with_reducible refine Row.newE _ _ _ (by simp) | exact Row.newE _ _ _ (by simp) | with_reducible refine Row.alloc ?_ _)) (by repeat' (first | with_reducible exact HQ1.out | with_reducible refine below_dr ?_ | with_reducible refine below_al ?_ _)) (by have := LT1.out; refine ⟨?_, ?_, ?_, ?_, ?_⟩ <;> omega) (by refine ⟨?_, ?_, ?_, ?_, ?_, ?_, ?_, ?_, ?_, ?_⟩ <;> omega) hn hrd
      · go_simp
        refine hK.out _ _ (cs_alloc4 hHeld _) (fun hHeld => ?_)
        clear hK K
        try simp only [List.getElem_toArray, List.getElem_cons_succ, List.getElem_cons_zero, Act.put, List.setIfInBounds_toArray, List.set_cons_zero, List.set_cons_succ]
        refine wpAnyH_ready (rs := [4, 10]) (by kernel_rfl) (by simp) ?_
        refine AllReadyH.cons rfl (fun K hK => ?_) (AllReadyH.cons rfl (fun K hK => ?_) (AllReadyH.nil))
        · go_simp
          refine hK.out _ _ (cs_alloc4 hHeld _) (fun hHeld => ?_)
          clear hK K
          try simp only [List.getElem_toArray, List.getElem_cons_succ, List.getElem_cons_zero, Act.put, List.setIfInBounds_toArray, List.set_cons_zero, List.set_cons_succ]
          refine wpAnyH_ready (rs := [10]) (by kernel_rfl) (by simp) ?_
          refine AllReadyH.cons rfl (fun K hK => ?_) (AllReadyH.nil)
          · go_simp
            refine hK.out _ _ (cs_alloc4 hHeld _) (fun hHeld => ?_)
            clear hK K
            try simp only [List.getElem_toArray, List.getElem_cons_succ, List.getElem_cons_zero, Act.put, List.setIfInBounds_toArray, List.set_cons_zero, List.set_cons_succ]
            refine wpAnyH_ready (rs := [14]) (by kernel_rfl) (by simp) ?_
            refine AllReadyH.cons rfl (fun K hK => ?_) AllReadyH.nil
            go_simp
            refine hK.out _ _ hHeld (fun hHeld => ?_)
            clear hK K
            try simp only [List.getElem_toArray, List.getElem_cons_succ, List.getElem_cons_zero, Act.put, List.setIfInBounds_toArray, List.set_cons_zero, List.set_cons_succ]
            refine wpAnyH_ready (rs := [15]) (by kernel_rfl) (by simp) ?_
            refine AllReadyH.cons rfl (fun K hK => ?_) AllReadyH.nil
            go_simp
            refine hK.out _ _ (cs_alloc4 hHeld _) (fun hHeld => ?_)
            clear hK K
            try simp only [List.getElem_toArray, List.getElem_cons_succ, List.getElem_cons_zero, Act.put, List.setIfInBounds_toArray, List.set_cons_zero, List.set_cons_succ]
            refine wpAnyH_ready (rs := [16]) (by kernel_rfl) (by simp) ?_
            refine AllReadyH.cons rfl (fun K hK => ?_) AllReadyH.nil
            go_simp
            refine hK.out _ _ hHeld (fun hHeld => ?_)
            clear hK K
            try simp only [List.getElem_toArray, List.getElem_cons_succ, List.getElem_cons_zero, Act.put, List.setIfInBounds_toArray, List.set_cons_zero, List.set_cons_succ]
            refine wpAnyH_done (by kernel_rfl) ?_ _
            go_wp2_with fail
            go_meet
            exact mid_of HL1.out HL2.out HL3.out HL4.out rfl (by repeat' (first | with_reducible refine Row.drew ?_ | with_reducible refine Row.newE _ _ _ (by simp) | exact Row.newE _ _ _ (by simp) | with_reducible refine Row.alloc ?_ _)) (by repeat' (first | with_reducible refine Row.drew ?_ | with_reducible refine Row.newE _ _ _ (by simp) | exact Row.newE _ _ _ (by simp) | with_reducible refine Row.alloc ?_ _)) (by repeat' (first | with_reducible refine Row.drew ?_ | with_reducible refine Row.newE _ _ _ (by simp) | exact Row.newE _ _ _ (by simp) | with_reducible refine Row.alloc ?_ _)) (by repeat' (first | with_reducible refine Row.drew ?_ | with_reducible refine Row.newE _ _ _ (by simp) | exact Row.newE _ _ _ (by simp) | with_reducible refine Row.alloc ?_ _)) (by repeat' (first | with_reducible refine Row.drew ?_ | with_reducible refine Row.newE _ _ _ (by simp) | exact Row.newE _ _ _ (by simp) | with_reducible refine Row.alloc ?_ _)) (by repeat' (first | with_reducible exact HQ1.out | with_reducible refine below_dr ?_ | with_reducible refine below_al ?_ _)) (by have := LT1.out; refine ⟨?_, ?_, ?_, ?_, ?_⟩ <;> omega) (by refine ⟨?_, ?_, ?_, ?_, ?_, ?_, ?_, ?_, ?_, ?_⟩ <;> omega) hn hrd
        · go_simp
          refine hK.out _ _ (cs_alloc4 hHeld _) (fun hHeld => ?_)
          clear hK K
          try simp only [List.getElem_toArray, List.getElem_cons_succ, List.getElem_cons_zero, Act.put, List.setIfInBounds_toArray, List.set_cons_zero, List.set_cons_succ]
          refine wpAnyH_ready (rs := [4]) (by kernel_rfl) (by simp) ?_
          refine AllReadyH.cons rfl (fun K hK => ?_) (AllReadyH.nil)
          · go_simp
            refine hK.out _ _ (cs_alloc4 hHeld _) (fun hHeld => ?_)
            clear hK K
            try simp only [List.getElem_toArray, List.getElem_cons_succ, List.getElem_cons_zero, Act.put, List.setIfInBounds_toArray, List.set_cons_zero, List.set_cons_succ]
            refine wpAnyH_ready (rs := [14]) (by kernel_rfl) (by simp) ?_
            refine AllReadyH.cons rfl (fun K hK => ?_) AllReadyH.nil
            go_simp
            refine hK.out _ _ hHeld (fun hHeld => ?_)
            clear hK K
            try simp only [List.getElem_toArray, List.getElem_cons_succ, List.getElem_cons_zero, Act.put, List.setIfInBounds_toArray, List.set_cons_zero, List.set_cons_succ]
            refine wpAnyH_ready (rs := [15]) (by kernel_rfl) (by simp) ?_
            refine AllReadyH.cons rfl (fun K hK => ?_) AllReadyH.nil
            go_simp
            refine hK.out _ _ (cs_alloc4 hHeld _) (fun hHeld => ?_)
            clear hK K
            try simp only [List.getElem_toArray, List.getElem_cons_succ, List.getElem_cons_zero, Act.put, List.setIfInBounds_toArray, List.set_cons_zero, List.set_cons_succ]
            refine wpAnyH_ready (rs := [16]) (by kernel_rfl) (by simp) ?_
            refine AllReadyH.cons rfl (fun K hK => ?_) AllReadyH.nil
            go_simp
            refine hK.out _ _ hHeld (fun hHeld => ?_)
            clear hK K
            try simp only [List.getElem_toArray, List.getElem_cons_succ, List.getElem_cons_zero, Act.put, List.setIfInBounds_toArray, List.set_cons_zero, List.set_cons_succ]
            refine wpAnyH_done (by kernel_rfl) ?_ _
            go_wp2_with fail
            go_meet
            exact mid_of HL1.out HL2.out HL3.out HL4.out rfl (by repeat' (first | with_reducible refine Row.drew ?_ | with_reducible refine Row.newE _ _ _ (by simp) | exact Row.newE _ _ _ (by simp) | with_reducible refine Row.alloc ?_ _)) (by repeat' (first | with_reducible refine Row.drew ?_ | with_reducible refine Row.newE _ _ _ (by simp) | exact Row.newE _ _ _ (by simp) | with_reducible refine Row.alloc ?_ _)) (by repeat' (first | with_reducible refine Row.drew ?_ | with_reducible refine Row.newE _ _ _ (by simp) | exact Row.newE _ _ _ (by simp) | with_reducible refine Row.alloc ?_ _)) (by repeat' (first | with_reducible refine Row.drew ?_ | with_reducible refine Row.newE _ _ _ (by simp) | exact Row.newE _ _ _ (by simp) | with_reducible refine Row.alloc ?_ _)) (by repeat' (first | with_reducible refine Row.drew ?_ | with_reducible refine Row.newE _ _ _ (by simp) | exact Row.newE _ _ _ (by simp) | with_reducible refine Row.alloc ?_ _)) (by repeat' (first | with_reducible exact HQ1.out | with_reducible refine below_dr ?_ | with_reducible refine below_al ?_ _)) (by have := LT1.out; refine ⟨?_, ?_, ?_, ?_, ?_⟩ <;> omega) (by refine ⟨?_, ?_, ?_, ?_, ?_, ?_, ?_, ?_, ?_, ?_⟩ <;> omega) hn hrd
    · go_simp
      refine hK.out _ _ (cs_alloc4 hHeld _) (fun hHeld => ?_)
      clear hK K
      try simp only [List.getElem_toArray, List.getElem_cons_succ, List.getElem_cons_zero, Act.put, List.setIfInBounds_toArray, List.set_cons_zero, List.set_cons_succ]
      refine wpAnyH_ready (rs := [4, 7, 13]) (by kernel_rfl) (by simp) ?_
      refine AllReadyH.cons rfl (fun K hK => ?_) (AllReadyH.cons rfl (fun K hK => ?_) (AllReadyH.cons rfl (fun K hK => ?_) (AllReadyH.nil)))
      · go_simp
        refine hK.out _ _ (cs_alloc4 hHeld _) (fun hHeld => ?_)
        clear hK K
        try simp only [List.getElem_toArray, List.getElem_cons_succ, List.getElem_cons_zero, Act.put, List.setIfInBounds_toArray, List.set_cons_zero, List.set_cons_succ]
        refine wpAnyH_ready (rs := [7, 13]) (by kernel_rfl) (by simp) ?_
        refine AllReadyH.cons rfl (fun K hK => ?_) (AllReadyH.cons rfl (fun K hK => ?_) (AllReadyH.nil))
        · go_simp
          refine hK.out _ _ (cs_alloc4 hHeld _) (fun hHeld => ?_)
          clear hK K
          try simp only [List.getElem_toArray, List.getElem_cons_succ, List.getElem_cons_zero, Act.put, List.setIfInBounds_toArray, List.set_cons_zero, List.set_cons_succ]
          refine wpAnyH_ready (rs := [13]) (by kernel_rfl) (by simp) ?_
          refine AllReadyH.cons rfl (fun K hK => ?_) (AllReadyH.nil)
          · go_simp
            refine hK.out _ _ (cs_alloc4 hHeld _) (fun hHeld => ?_)
            clear hK K
            try simp only [List.getElem_toArray, List.getElem_cons_succ, List.getElem_cons_zero, Act.put, List.setIfInBounds_toArray, List.set_cons_zero, List.set_cons_succ]
            refine wpAnyH_ready (rs := [14]) (by kernel_rfl) (by simp) ?_
            refine AllReadyH.cons rfl (fun K hK => ?_) AllReadyH.nil
            go_simp
            refine hK.out _ _ hHeld (fun hHeld => ?_)
            clear hK K
            try simp only [List.getElem_toArray, List.getElem_cons_succ, List.getElem_cons_zero, Act.put, List.setIfInBounds_toArray, List.set_cons_zero, List.set_cons_succ]
            refine wpAnyH_ready (rs := [15]) (by kernel_rfl) (by simp) ?_
            refine AllReadyH.cons rfl (fun K hK => ?_) AllReadyH.nil
            go_simp
            refine hK.out _ _ (cs_alloc4 hHeld _) (fun hHeld => ?_)
            clear hK K
            try simp only [List.getElem_toArray, List.getElem_cons_succ, List.getElem_cons_zero, Act.put, List.setIfInBounds_toArray, List.set_cons_zero, List.set_cons_succ]
            refine wpAnyH_ready (rs := [16]) (by kernel_rfl) (by simp) ?_
            refine AllReadyH.cons rfl (fun K hK => ?_) AllReadyH.nil
            go_simp
            refine hK.out _ _ hHeld (fun hHeld => ?_)
            clear hK K
            try simp only [List.getElem_toArray, List.getElem_cons_succ, List.getElem_cons_zero, Act.put, List.setIfInBounds_toArray, List.set_cons_zero, List.set_cons_succ]
            refine wpAnyH_done (by kernel_rfl) ?_ _
            go_wp2_with fail
            go_meet
            exact mid_of HL1.out HL2.out HL3.out HL4.out rfl (by repeat' (first | with_reducible refine Row.drew ?_ | with_reducible refine Row.newE _ _ _ (by simp) | exact Row.newE _ _ _ (by simp) | with_reducible refine Row.alloc ?_ _)) (by repeat' (first | with_reducible refine Row.drew ?_ | with_reducible refine Row.newE _ _ _ (by simp) | exact Row.newE _ _ _ (by simp) | with_reducible refine Row.alloc ?_ _)) (by repeat' (first | with_reducible refine Row.drew ?_ | with_reducible refine Row.newE _ _ _ (by simp) | exact Row.newE _ _ _ (by simp) | with_reducible refine Row.alloc ?_ _)) (by repeat' (first | with_reducible refine Row.drew ?_ | with_reducible refine Row.newE _ _ _ (by simp) | exact Row.newE _ _ _ (by simp) | with_reducible refine Row.alloc ?_ _)) (by repeat' (first | with_reducible refine Row.drew ?_ | with_reducible refine Row.newE _ _ _ (by simp) | exact Row.newE _ _ _ (by simp) | with_reducible refine Row.alloc ?_ _)) (by repeat' (first | with_reducible exact HQ1.out | with_reducible refine below_dr ?_ | with_reducible refine below_al ?_ _)) (by have := LT1.out; refine ⟨?_, ?_, ?_, ?_, ?_⟩ <;> omega) (by refine ⟨?_, ?_, ?_, ?_, ?_, ?_, ?_, ?_, ?_, ?_⟩ <;> omega) hn hrd
        · go_simp
          refine hK.out _ _ (cs_alloc4 hHeld _) (fun hHeld => ?_)
          clear hK K
          try simp only [List.getElem_toArray, List.getElem_cons_succ, List.getElem_cons_zero, Act.put, List.setIfInBounds_toArray, List.set_cons_zero, List.set_cons_succ]
          refine wpAnyH_ready (rs := [7]) (by kernel_rfl) (by simp) ?_
          refine AllReadyH.cons rfl (fun K hK => ?_) (AllReadyH.nil)
          · go_simp
            refine hK.out _ _ (cs_alloc4 hHeld _) (fun hHeld => ?_)
            clear hK K
            try simp only [List.getElem_toArray, List.getElem_cons_succ, List.getElem_cons_zero, Act.put, List.setIfInBounds_toArray, List.set_cons_zero, List.set_cons_succ]
            refine wpAnyH_ready (rs := [14]) (by kernel_rfl) (by simp) ?_
            refine AllReadyH.cons rfl (fun K hK => ?_) AllReadyH.nil
            go_simp
            refine hK.out _ _ hHeld (fun hHeld => ?_)
            clear hK K
            try simp only [List.getElem_toArray, List.getElem_cons_succ, List.getElem_cons_zero, Act.put, List.setIfInBounds_toArray, List.set_cons_zero, List.set_cons_succ]
            refine wpAnyH_ready (rs := [15]) (by kernel_rfl) (by simp) ?_
            refine AllReadyH.cons rfl (fun K hK => ?_) AllReadyH.nil
            go_simp
            refine hK.out _ _ (cs_alloc4 hHeld _) (fun hHeld => ?_)
            clear hK K
            try simp only [List.getElem_toArray, List.getElem_cons_succ, List.getElem_cons_zero, Act.put, List.setIfInBounds_toArray, List.set_cons_zero, List.set_cons_succ]
            refine wpAnyH_ready (rs := [16]) (by kernel_rfl) (by simp) ?_
            refine AllReadyH.cons rfl (fun K hK => ?_) AllReadyH.nil
            go_simp
            refine hK.out _ _ hHeld (fun hHeld => ?_)
            clear hK K
            try simp only [List.getElem_toArray, List.getElem_cons_succ, List.getElem_cons_zero, Act.put, List.setIfInBounds_toArray, List.set_cons_zero, List.set_cons_succ]
            refine wpAnyH_done (by kernel_rfl) ?_ _
            go_wp2_with fail
            go_meet
            exact mid_of HL1.out HL2.out HL3.out HL4.out rfl (by repeat' (first | with_reducible refine Row.drew ?_ | with_reducible refine Row.newE _ _ _ (by simp) | exact Row.newE _ _ _ (by simp) | with_reducible refine Row.alloc ?_ _)) (by repeat' (first | with_reducible refine Row.drew ?_ | with_reducible refine Row.newE _ _ _ (by simp) | exact Row.newE _ _ _ (by simp) | with_reducible refine Row.alloc ?_ _)) (by repeat' (first | with_reducible refine Row.drew ?_ | with_reducible refine Row.newE _ _ _ (by simp) | exact Row.newE _ _ _ (by simp) | with_reducible refine Row.alloc ?_ _)) (by repeat' (first | with_reducible refine Row.drew ?_ | with_reducible refine Row.newE _ _ _ (by simp) | exact Row.newE _ _ _ (by simp) | with_reducible refine Row.alloc ?_ _)) (by repeat' (first | with_reducible refine Row.drew ?_ | with_reducible refine Row.newE _ _ _ (by simp) | exact Row.newE _ _ _ (by simp) | with_reducible refine Row.alloc ?_ _)) (by repeat' (first | with_reducible exact HQ1.out | with_reducible refine below_dr ?_ | with_reducible refine below_al ?_ _)) (by have := LT1.out; refine ⟨?_, ?_, ?_, ?_, ?_⟩ <;> omega) (by refine ⟨?_, ?_, ?_, ?_, ?_, ?_, ?_, ?_, ?_, ?_⟩ <;> omega) hn hrd
      · go_simp
        refine hK.out _ _ (cs_alloc4 hHeld _) (fun hHeld => ?_)
        clear hK K
        try simp only [List.getElem_toArray, List.getElem_cons_succ, List.getElem_cons_zero, Act.put, List.setIfInBounds_toArray, List.set_cons_zero, List.set_cons_succ]
        refine wpAnyH_ready (rs := [4, 13]) (by kernel_rfl) (by simp) ?_
        refine AllReadyH.cons rfl (fun K hK => ?_) (AllReadyH.cons rfl (fun K hK => ?_) (AllReadyH.nil))
        · go_simp
          refine hK.out _ _ (cs_alloc4 hHeld _) (fun hHeld => ?_)
          clear hK K
          try simp only [List.getElem_toArray, List.getElem_cons_succ, List.getElem_cons_zero, Act.put, List.setIfInBounds_toArray, List.set_cons_zero, List.set_cons_succ]
          refine wpAnyH_ready (rs := [13]) (by kernel_rfl) (by simp) ?_
          refine AllReadyH.cons rfl (fun K hK => ?_) (AllReadyH.nil)
          · go_simp
            refine hK.out _ _ (cs_alloc4 hHeld _) (fun hHeld => ?_)
            clear hK K
            try simp only [List.getElem_toArray, List.getElem_cons_succ, List.getElem_cons_zero, Act.put, List.setIfInBounds_toArray, List.set_cons_zero, List.set_cons_succ]
            refine wpAnyH_ready (rs := [14]) (by kernel_rfl) (by simp) ?_
            refine AllReadyH.cons rfl (fun K hK => ?_) AllReadyH.nil
            go_simp
            refine hK.out _ _ hHeld (fun hHeld => ?_)
            clear hK K
            try simp only [List.getElem_toArray, List.getElem_cons_succ, List.getElem_cons_zero, Act.put, List.setIfInBounds_toArray, List.set_cons_zero, List.set_cons_succ]
            refine wpAnyH_ready (rs := [15]) (by kernel_rfl) (by simp) ?_
            refine AllReadyH.cons rfl (fun K hK => ?_) AllReadyH.nil
            go_simp
            refine hK.out _ _ (cs_alloc4 hHeld _) (fun hHeld => ?_)
            clear hK K
            try simp only [List.getElem_toArray, List.getElem_cons_succ, List.getElem_cons_zero, Act.put, List.setIfInBounds_toArray, List.set_cons_zero, List.set_cons_succ]
            refine wpAnyH_ready (rs := [16]) (by kernel_rfl) (by simp) ?_
            refine AllReadyH.cons rfl (fun K hK => ?_) AllReadyH.nil
            go_simp
            refine hK.out _ _ hHeld (fun hHeld => ?_)
            clear hK K
            try simp only [List.getElem_toArray, List.getElem_cons_succ, List.getElem_cons_zero, Act.put, List.setIfInBounds_toArray, List.set_cons_zero, List.set_cons_succ]
            refine wpAnyH_done (by kernel_rfl) ?_ _
            go_wp2_with fail
            go_meet
            exact mid_of HL1.out HL2.out HL3.out HL4.out rfl (by repeat' (first | with_reducible refine Row.drew ?_ | with_reducible refine Row.newE _ _ _ (by simp) | exact Row.newE _ _ _ (by simp) | with_reducible refine Row.alloc ?_ _)) (by repeat' (first | with_reducible refine Row.drew ?_ | with_reducible refine Row.newE _ _ _ (by simp) | exact Row.newE _ _ _ (by simp) | with_reducible refine Row.alloc ?_ _)) (by repeat' (first | with_reducible refine Row.drew ?_ | with_reducible refine Row.newE _ _ _ (by simp) | exact Row.newE _ _ _ (by simp) | with_reducible refine Row.alloc ?_ _)) (by repeat' (first | with_reducible refine Row.drew ?_ | with_reducible refine Row.newE _ _ _ (by simp) | exact Row.newE _ _ _ (by simp) | with_reducible refine Row.alloc ?_ _)) (by repeat' (first | with_reducible refine Row.drew ?_ | with_reducible refine Row.newE _ _ _ (by simp) | exact Row.newE _ _ _ (by simp) | with_reducible refine Row.alloc ?_ _)) (by repeat' (first | with_reducible exact HQ1.out | with_reducible refine below_dr ?_ | with_reducible refine below_al ?_ _)) (by have := LT1.out; refine ⟨?_, ?_, ?_, ?_, ?_⟩ <;> omega) (by refine ⟨?_, ?_, ?_, ?_, ?_, ?_, ?_, ?_, ?_, ?_⟩ <;> omega) hn hrd
        · go_simp
          refine hK.out _ _ (cs_alloc4 hHeld _) (fun hHeld => ?_)
          clear hK K
          try simp only [List.getElem_toArray, List.getElem_cons_succ, List.getElem_cons_zero, Act.put, List.setIfInBounds_toArray, List.set_cons_zero, List.set_cons_succ]
          refine wpAnyH_ready (rs := [4]) (by kernel_rfl) (by simp) ?_
          refine AllReadyH.cons rfl (fun K hK => ?_) (AllReadyH.nil)
          · go_simp
            refine hK.out _ _ (cs_alloc4 hHeld _) (fun hHeld => ?_)
            clear hK K
            try simp only [List.getElem_toArray, List.getElem_cons_succ, List.getElem_cons_zero, Act.put, List.setIfInBounds_toArray, List.set_cons_zero, List.set_cons_succ]
            refine wpAnyH_ready (rs := [14]) (by kernel_rfl) (by simp) ?_
            refine AllReadyH.cons rfl (fun K hK => ?_) AllReadyH.nil
            go_simp
            refine hK.out _ _ hHeld (fun hHeld => ?_)
            clear hK K
            try simp only [List.getElem_toArray, List.getElem_cons_succ, List.getElem_cons_zero, Act.put, List.setIfInBounds_toArray, List.set_cons_zero, List.set_cons_succ]
            refine wpAnyH_ready (rs := [15]) (by kernel_rfl) (by simp) ?_
            refine AllReadyH.cons rfl (fun K hK => ?_) AllReadyH.nil
            go_simp
            refine hK.out _ _ (cs_alloc4 hHeld _) (fun hHeld => ?_)
            clear hK K
            try simp only [List.getElem_toArray, List.getElem_cons_succ, List.getElem_cons_zero, Act.put, List.setIfInBounds_toArray, List.set_cons_zero, List.set_cons_succ]
            refine wpAnyH_ready (rs := [16]) (by kernel_rfl) (by simp) ?_
            refine AllReadyH.cons rfl (fun K hK => ?_) AllReadyH.nil
            go_simp
            refine hK.out _ _ hHeld (fun hHeld => ?_)
            clear hK K
            try simp only [List.getElem_toArray, List.getElem_cons_succ, List.getElem_cons_zero, Act.put, List.setIfInBounds_toArray, List.set_cons_zero, List.set_cons_succ]
            refine wpAnyH_done (by kernel_rfl) ?_ _
            go_wp2_with fail
            go_meet
            exact mid_of HL1.out HL2.out HL3.out HL4.out rfl (by repeat' (first | with_reducible refine Row.drew ?_ | with_reducible refine Row.newE _ _ _ (by simp) | exact Row.newE _ _ _ (by simp) | with_reducible refine Row.alloc ?_ _)) (by repeat' (first | with_reducible refine Row.drew ?_ | with_reducible refine Row.newE _ _ _ (by simp) | exact Row.newE _ _ _ (by simp) | with_reducible refine Row.alloc ?_ _)) (by repeat' (first | with_reducible refine Row.drew ?_ | with_reducible refine Row.newE _ _ _ (by simp) | exact Row.newE _ _ _ (by simp) | with_reducible refine Row.alloc ?_ _)) (by repeat' (first | with_reducible refine Row.drew ?_ | with_reducible refine Row.newE _ _ _ (by simp) | exact Row.newE _ _ _ (by simp) | with_reducible refine Row.alloc ?_ _)) (by repeat' (first | with_reducible refine Row.drew ?_ | with_reducible refine Row.newE _ _ _ (by simp) | exact Row.newE _ _ _ (by simp) | with_reducible refine Row.alloc ?_ _)) (by repeat' (first | with_reducible exact HQ1.out | with_reducible refine below_dr ?_ | with_reducible refine below_al ?_ _)) (by have := LT1.out; refine ⟨?_, ?_, ?_, ?_, ?_⟩ <;> omega) (by refine ⟨?_, ?_, ?_, ?_, ?_, ?_, ?_, ?_, ?_, ?_⟩ <;> omega) hn hrd
      · go_simp
        refine hK.out _ _ (cs_alloc4 hHeld _) (fun hHeld => ?_)
        clear hK K
        try simp only [List.getElem_toArray, List.getElem_cons_succ, List.getElem_cons_zero, Act.put, List.setIfInBounds_toArray, List.set_cons_zero, List.set_cons_succ]
        refine wpAnyH_ready (rs := [4, 7]) (by kernel_rfl) (by simp) ?_
        refine AllReadyH.cons rfl (fun K hK => ?_) (AllReadyH.cons rfl (fun K hK => ?_) (AllReadyH.nil))
        · go_simp
          refine hK.out _ _ (cs_alloc4 hHeld _) (fun hHeld => ?_)
          clear hK K
          try simp only [List.getElem_toArray, List.getElem_cons_succ, List.getElem_cons_zero, Act.put, List.setIfInBounds_toArray, List.set_cons_zero, List.set_cons_succ]
          refine wpAnyH_ready (rs := [7]) (by kernel_rfl) (by simp) ?_
          refine AllReadyH.cons rfl (fun K hK => ?_) (AllReadyH.nil)
          · go_simp
            refine hK.out _ _ (cs_alloc4 hHeld _) (fun hHeld => ?_)
            clear hK K
            try simp only [List.getElem_toArray, List.getElem_cons_succ, List.getElem_cons_zero, Act.put, List.setIfInBounds_toArray, List.set_cons_zero, List.set_cons_succ]
            refine wpAnyH_ready (rs := [14]) (by kernel_rfl) (by simp) ?_
            refine AllReadyH.cons rfl (fun K hK => ?_) AllReadyH.nil
            go_simp
            refine hK.out _ _ hHeld (fun hHeld => ?_)
            clear hK K
            try simp only [List.getElem_toArray, List.getElem_cons_succ, List.getElem_cons_zero, Act.put, List.setIfInBounds_toArray, List.set_cons_zero, List.set_cons_succ]
            refine wpAnyH_ready (rs := [15]) (by kernel_rfl) (by simp) ?_
            refine AllReadyH.cons rfl (fun K hK => ?_) AllReadyH.nil
            go_simp
            refine hK.out _ _ (cs_alloc4 hHeld _) (fun hHeld => ?_)
            clear hK K
            try simp only [List.getElem_toArray, List.getElem_cons_succ, List.getElem_cons_zero, Act.put, List.setIfInBounds_toArray, List.set_cons_zero, List.set_cons_succ]
            refine wpAnyH_ready (rs := [16]) (by kernel_rfl) (by simp) ?_
            refine AllReadyH.cons rfl (fun K hK => ?_) AllReadyH.nil
            go_simp
            refine hK.out _ _ hHeld (fun hHeld => ?_)
            clear hK K
            try simp only [List.getElem_toArray, List.getElem_cons_succ, List.getElem_cons_zero, Act.put, List.setIfInBounds_toArray, List.set_cons_zero, List.set_cons_succ]
            refine wpAnyH_done (by kernel_rfl) ?_ _
            go_wp2_with fail
            go_meet
            exact mid_of HL1.out HL2.out HL3.out HL4.out rfl (by repeat' (first | with_reducible refine Row.drew ?_ | with_reducible refine Row.newE _ _ _ (by simp) | exact Row.newE _ _ _ (by simp) | with_reducible refine Row.alloc ?_ _)) (by repeat' (first | with_reducible refine Row.drew ?_ | with_reducible refine Row.newE _ _ _ (by simp) | exact Row.newE _ _ _ (by simp) | with_reducible refine Row.alloc ?_ _)) (by repeat' (first | with_reducible refine Row.drew ?_ | with_reducible refine Row.newE _ _ _ (by simp) | exact Row.newE _ _ _ (by simp) | with_reducible refine Row.alloc ?_ _)) (by repeat' (first | with_reducible refine Row.drew ?_ | with_reducible refine Row.newE _ _ _ (by simp) | exact Row.newE _ _ _ (by simp) | with_reducible refine Row.alloc ?_ _)) (by repeat' (first | with_reducible refine Row.drew ?_ | with_reducible refine Row.newE _ _ _ (by simp) | exact Row.newE _ _ _ (by simp) | with_reducible refine Row.alloc ?_ _)) (by repeat' (first | with_reducible exact HQ1.out | with_reducible refine below_dr ?_ | with_reducible refine below_al ?_ _)) (by have := LT1.out; refine ⟨?_, ?_, ?_, ?_, ?_⟩ <;> omega) (by refine ⟨?_, ?_, ?_, ?_, ?_, ?_, ?_, ?_, ?_, ?_⟩ <;> omega) hn hrd
        · go_simp
          refine hK.out _ _ (cs_alloc4 hHeld _) (fun hHeld => ?_)
          clear hK K
          try simp only [List.getElem_toArray, List.getElem_cons_succ, List.getElem_cons_zero, Act.put, List.setIfInBounds_toArray, List.set_cons_zero, List.set_cons_succ]
          refine wpAnyH_ready (rs := [4]) (by kernel_rfl) (by simp) ?_
          refine AllReadyH.cons rfl (fun K hK => ?_) (AllReadyH.nil)
          · go_simp
            refine hK.out _ _ (cs_alloc4 hHeld _) (fun hHeld => ?_)
            clear hK K
            try simp only [List.getElem_toArray, List.getElem_cons_succ, List.getElem_cons_zero, Act.put, List.setIfInBounds_toArray, List.set_cons_zero, List.set_cons_succ]
            refine wpAnyH_ready (rs := [14]) (by kernel_rfl) (by simp) ?_
            refine AllReadyH.cons rfl (fun K hK => ?_) AllReadyH.nil
            go_simp
            refine hK.out _ _ hHeld (fun hHeld => ?_)
            clear hK K
            try simp only [List.getElem_toArray, List.getElem_cons_succ, List.getElem_cons_zero, Act.put, List.setIfInBounds_toArray, List.set_cons_zero, List.set_cons_succ]
            refine wpAnyH_ready (rs := [15]) (by kernel_rfl) (by simp) ?_
            refine AllReadyH.cons rfl (fun K hK => ?_) AllReadyH.nil
            go_simp
            refine hK.out _ _ (cs_alloc4 hHeld _) (fun hHeld => ?_)
            clear hK K
            try simp only [List.getElem_toArray, List.getElem_cons_succ, List.getElem_cons_zero, Act.put, List.setIfInBounds_toArray, List.set_cons_zero, List.set_cons_succ]
            refine wpAnyH_ready (rs := [16]) (by kernel_rfl) (by simp) ?_
            refine AllReadyH.cons rfl (fun K hK => ?_) AllReadyH.nil
            go_simp
            refine hK.out _ _ hHeld (fun hHeld => ?_)
            clear hK K
            try simp only [List.getElem_toArray, List.getElem_cons_succ, List.getElem_cons_zero, Act.put, List.setIfInBounds_toArray, List.set_cons_zero, List.set_cons_succ]
            refine wpAnyH_done (by kernel_rfl) ?_ _
            go_wp2_with fail
            go_meet
            exact mid_of HL1.out HL2.out HL3.out HL4.out rfl (by repeat' (first | with_reducible refine Row.drew ?_ | with_reducible refine Row.newE _ _ _ (by simp) | exact Row.newE _ _ _ (by simp) | with_reducible refine Row.alloc ?_ _)) (by repeat' (first | with_reducible refine Row.drew ?_ | with_reducible refine Row.newE _ _ _ (by simp) | exact Row.newE _ _ _ (by simp) | with_reducible refine Row.alloc ?_ _)) (by repeat' (first | with_reducible refine Row.drew ?_ | with_reducible refine Row.newE _ _ _ (by simp) | exact Row.newE _ _ _ (by simp) | with_reducible refine Row.alloc ?_ _)) (by repeat' (first | with_reducible refine Row.drew ?_ | with_reducible refine Row.newE _ _ _ (by simp) | exact Row.newE _ _ _ (by simp) | with_reducible refine Row.alloc ?_ _)) (by repeat' (first | with_reducible refine Row.drew ?_ | with_reducible refine Row.newE _ _ _ (by simp) | exact Row.newE _ _ _ (by simp) | with_reducible refine Row.alloc ?_ _)) (by repeat' (first | with_reducible exact HQ1.out | with_reducible refine below_dr ?_ | with_reducible refine below_al ?_ _)) (by have := LT1.out; refine ⟨?_, ?_, ?_, ?_, ?_⟩ <;> omega) (by refine ⟨?_, ?_, ?_, ?_, ?_, ?_, ?_, ?_, ?_, ?_⟩ <;> omega) hn hrd
    · go_simp
      refine hK.out _ _ (cs_alloc4 hHeld _) (fun hHeld => ?_)
      clear hK K
      try simp only [List.getElem_toArray, List.getElem_cons_succ, List.getElem_cons_zero, Act.put, List.setIfInBounds_toArray, List.set_cons_zero, List.set_cons_succ]
      refine wpAnyH_ready (rs := [4, 7, 10]) (by kernel_rfl) (by simp) ?_
      refine AllReadyH.cons rfl (fun K hK => ?_) (AllReadyH.cons rfl (fun K hK => ?_) (AllReadyH.cons rfl (fun K hK => ?_) (AllReadyH.nil)))
      · go_simp
        refine hK.out _ _ (cs_alloc4 hHeld _) (fun hHeld => ?_)
        clear hK K
        try simp only [List.getElem_toArray, List.getElem_cons_succ, List.getElem_cons_zero, Act.put, List.setIfInBounds_toArray, List.set_cons_zero, List.set_cons_succ]
        refine wpAnyH_ready (rs := [7, 10]) (by kernel_rfl) (by simp) ?_
        refine AllReadyH.cons rfl (fun K hK => ?_) (AllReadyH.cons rfl (fun K hK => ?_) (AllReadyH.nil))
        · go_simp
          refine hK.out _ _ (cs_alloc4 hHeld _) (fun hHeld => ?_)
          clear hK K
          try simp only [List.getElem_toArray, List.getElem_cons_succ, List.getElem_cons_zero, Act.put, List.setIfInBounds_toArray, List.set_cons_zero, List.set_cons_succ]
          refine wpAnyH_ready (rs := [10]) (by kernel_rfl) (by simp) ?_
          refine AllReadyH.cons rfl (fun K hK => ?_) (AllReadyH.nil)
          · go_simp
            refine hK.out _ _ (cs_alloc4 hHeld _) (fun hHeld => ?_)
            clear hK K
            try simp only [List.getElem_toArray, List.getElem_cons_succ, List.getElem_cons_zero, Act.put, List.setIfInBounds_toArray, List.set_cons_zero, List.set_cons_succ]
            refine wpAnyH_ready (rs := [14]) (by kernel_rfl) (by simp) ?_
            refine AllReadyH.cons rfl (fun K hK => ?_) AllReadyH.nil
            go_simp
            refine hK.out _ _ hHeld (fun hHeld => ?_)
            clear hK K
            try simp only [List.getElem_toArray, List.getElem_cons_succ, List.getElem_cons_zero, Act.put, List.setIfInBounds_toArray, List.set_cons_zero, List.set_cons_succ]
            refine wpAnyH_ready (rs := [15]) (by kernel_rfl) (by simp) ?_
            refine AllReadyH.cons rfl (fun K hK => ?_) AllReadyH.nil
            go_simp
            refine hK.out _ _ (cs_alloc4 hHeld _) (fun hHeld => ?_)
            clear hK K
            try simp only [List.getElem_toArray, List.getElem_cons_succ, List.getElem_cons_zero, Act.put, List.setIfInBounds_toArray, List.set_cons_zero, List.set_cons_succ]
            refine wpAnyH_ready (rs := [16]) (by kernel_rfl) (by simp) ?_
            refine AllReadyH.cons rfl (fun K hK => ?_) AllReadyH.nil
            go_simp
            refine hK.out _ _ hHeld (fun hHeld => ?_)
            clear hK K
            try simp only [List.getElem_toArray, List.getElem_cons_succ, List.getElem_cons_zero, Act.put, List.setIfInBounds_toArray, List.set_cons_zero, List.set_cons_succ]
            refine wpAnyH_done (by kernel_rfl) ?_ _
            go_wp2_with fail
            go_meet
            exact mid_of HL1.out HL2.out HL3.out HL4.out rfl (by repeat' (first | with_reducible refine Row.drew ?_ | with_reducible refine Row.newE _ _ _ (by simp) | exact Row.newE _ _ _ (by simp) | with_reducible refine Row.alloc ?_ _)) (by repeat' (first | with_reducible refine Row.drew ?_ | with_reducible refine Row.newE _ _ _ (by simp) | exact Row.newE _ _ _ (by simp) | with_reducible refine Row.alloc ?_ _)) (by repeat' (first | with_reducible refine Row.drew ?_ | with_reducible refine Row.newE _ _ _ (by simp) | exact Row.newE _ _ _ (by simp) | with_reducible refine Row.alloc ?_ _)) (by repeat' (first | with_reducible refine Row.drew ?_ | with_reducible refine Row.newE _ _ _ (by simp) | exact Row.newE _ _ _ (by simp) | with_reducible refine Row.alloc ?_ _)) (by repeat' (first | with_reducible refine Row.drew ?_ | with_reducible refine Row.newE _ _ _ (by simp) | exact Row.newE _ _ _ (by simp) | with_reducible refine Row.alloc ?_ _)) (by repeat' (first | with_reducible exact HQ1.out | with_reducible refine below_dr ?_ | with_reducible refine below_al ?_ _)) (by have := LT1.out; refine ⟨?_, ?_, ?_, ?_, ?_⟩ <;> omega) (by refine ⟨?_, ?_, ?_, ?_, ?_, ?_, ?_, ?_, ?_, ?_⟩ <;> omega) hn hrd
        · go_simp
          refine hK.out _ _ (cs_alloc4 hHeld _) (fun hHeld => ?_)
          clear hK K
          try simp only [List.getElem_toArray, List.getElem_cons_succ, List.getElem_cons_zero, Act.put, List.setIfInBounds_toArray, List.set_cons_zero, List.set_cons_succ]
          refine wpAnyH_ready (rs := [7]) (by kernel_rfl) (by simp) ?_
          refine AllReadyH.cons rfl (fun K hK => ?_) (AllReadyH.nil)
          · go_simp
            refine hK.out _ _ (cs_alloc4 hHeld _) (fun hHeld => ?_)
            clear hK K
            try simp only [List.getElem_toArray, List.getElem_cons_succ, List.getElem_cons_zero, Act.put, List.setIfInBounds_toArray, List.set_cons_zero, List.set_cons_succ]
            refine wpAnyH_ready (rs := [14]) (by kernel_rfl) (by simp) ?_
            refine AllReadyH.cons rfl (fun K hK => ?_) AllReadyH.nil
            go_simp
            refine hK.out _ _ hHeld (fun hHeld => ?_)
            clear hK K
            try simp only [List.getElem_toArray, List.getElem_cons_succ, List.getElem_cons_zero, Act.put, List.setIfInBounds_toArray, List.set_cons_zero, List.set_cons_succ]
            refine wpAnyH_ready (rs := [15]) (by kernel_rfl) (by simp) ?_
            refine AllReadyH.cons rfl (fun K hK => ?_) AllReadyH.nil
            go_simp
            refine hK.out _ _ (cs_alloc4 hHeld _) (fun hHeld => ?_)
            clear hK K
            try simp only [List.getElem_toArray, List.getElem_cons_succ, List.getElem_cons_zero, Act.put, List.setIfInBounds_toArray, List.set_cons_zero, List.set_cons_succ]
            refine wpAnyH_ready (rs := [16]) (by kernel_rfl) (by simp) ?_
            refine AllReadyH.cons rfl (fun K hK => ?_) AllReadyH.nil
            go_simp
            refine hK.out _ _ hHeld (fun hHeld => ?_)
            clear hK K
            try simp only [List.getElem_toArray, List.getElem_cons_succ, List.getElem_cons_zero, Act.put, List.setIfInBounds_toArray, List.set_cons_zero, List.set_cons_succ]
            refine wpAnyH_done (by kernel_rfl) ?_ _
            go_wp2_with fail
            go_meet
            exact mid_of HL1.out HL2.out HL3.out HL4.out rfl (by repeat' (first | with_reducible refine Row.drew ?_ | with_reducible refine Row.newE _ _ _ (by simp) | exact Row.newE _ _ _ (by simp) | with_reducible refine Row.alloc ?_ _)) (by repeat' (first | with_reducible refine Row.drew ?_ | with_reducible refine Row.newE _ _ _ (by simp) | exact Row.newE _ _ _ (by simp) | with_reducible refine Row.alloc ?_ _)) (by repeat' (first | with_reducible refine Row.drew ?_ | with_reducible refine Row.newE _ _ _ (by simp) | exact Row.newE _ _ _ (by simp) | with_reducible refine Row.alloc ?_ _)) (by repeat' (first | with_reducible refine Row.drew ?_ | with_reducible refine Row.newE _ _ _ (by simp) | exact Row.newE _ _ _ (by simp) | with_reducible refine Row.alloc ?_ _)) (by repeat' (first | with_reducible refine Row.drew ?_ | with_reducible refine Row.newE _ _ _ (by simp) | exact Row.newE _ _ _ (by simp) | with_reducible refine Row.alloc ?_ _)) (by repeat' (first | with_reducible exact HQ1.out | with_reducible refine below_dr ?_ | with_reducible refine below_al ?_ _)) (by have := LT1.out; refine ⟨?_, ?_, ?_, ?_, ?_⟩ <;> omega) (by refine ⟨?_, ?_, ?_, ?_, ?_, ?_, ?_, ?_, ?_, ?_⟩ <;> omega) hn hrd
      · go_simp
        refine hK.out _ _ (cs_alloc4 hHeld _) (fun hHeld => ?_)
        clear hK K
        try simp only [List.getElem_toArray, List.getElem_cons_succ, List.getElem_cons_zero, Act.put, List.setIfInBounds_toArray, List.set_cons_zero, List.set_cons_succ]
        refine wpAnyH_ready (rs := [4, 10]) (by kernel_rfl) (by simp) ?_
        refine AllReadyH.cons rfl (fun K hK => ?_) (AllReadyH.cons rfl (fun K hK => ?_) (AllReadyH.nil))
        · go_simp
          refine hK.out _ _ (cs_alloc4 hHeld _) (fun hHeld => ?_)
          clear hK K
          try simp only [List.getElem_toArray, List.getElem_cons_succ, List.getElem_cons_zero, Act.put, List.setIfInBounds_toArray, List.set_cons_zero, List.set_cons_succ]
          refine wpAnyH_ready (rs := [10]) (by kernel_rfl) (by simp) ?_
          refine AllReadyH.cons rfl (fun K hK => ?_) (AllReadyH.nil)
          · go_simp
            refine hK.out _ _ (cs_alloc4 hHeld _) (fun hHeld => ?_)
            clear hK K
            try simp only [List.getElem_toArray, List.getElem_cons_succ, List.getElem_cons_zero, Act.put, List.setIfInBounds_toArray, List.set_cons_zero, List.set_cons_succ]
            refine wpAnyH_ready (rs := [14]) (by kernel_rfl) (by simp) ?_
            refine AllReadyH.cons rfl (fun K hK => ?_) AllReadyH.nil
            go_simp
            refine hK.out _ _ hHeld (fun hHeld => ?_)
            clear hK K
            try simp only [List.getElem_toArray, List.getElem_cons_succ, List.getElem_cons_zero, Act.put, List.setIfInBounds_toArray, List.set_cons_zero, List.set_cons_succ]
            refine wpAnyH_ready (rs := [15]) (by kernel_rfl) (by simp) ?_
            refine AllReadyH.cons rfl (fun K hK => ?_) AllReadyH.nil
            go_simp
            refine hK.out _ _ (cs_alloc4 hHeld _) (fun hHeld => ?_)
            clear hK K
            try simp only [List.getElem_toArray, List.getElem_cons_succ, List.getElem_cons_zero, Act.put, List.setIfInBounds_toArray, List.set_cons_zero, List.set_cons_succ]
            refine wpAnyH_ready (rs := [16]) (by kernel_rfl) (by simp) ?_
            refine AllReadyH.cons rfl (fun K hK => ?_) AllReadyH.nil
            go_simp
            refine hK.out _ _ hHeld (fun hHeld => ?_)
            clear hK K
            try simp only [List.getElem_toArray, List.getElem_cons_succ, List.getElem_cons_zero, Act.put, List.setIfInBounds_toArray, List.set_cons_zero, List.set_cons_succ]
            refine wpAnyH_done (by kernel_rfl) ?_ _
            go_wp2_with fail
            go_meet
            exact mid_of HL1.out HL2.out HL3.out HL4.out rfl (by repeat' (first | with_reducible refine Row.drew ?_ | with_reducible refine Row.newE _ _ _ (by simp) | exact Row.newE _ _ _ (by simp) | with_reducible refine Row.alloc ?_ _)) (by repeat' (first | with_reducible refine Row.drew ?_ | with_reducible refine Row.newE _ _ _ (by simp) | exact Row.newE _ _ _ (by simp) | with_reducible refine Row.alloc ?_ _)) (by repeat' (first | with_reducible refine Row.drew ?_ | with_reducible refine Row.newE _ _ _ (by simp) | exact Row.newE _ _ _ (by simp) | with_reducible refine Row.alloc ?_ _)) (by repeat' (first | with_reducible refine Row.drew ?_ | with_reducible refine Row.newE _ _ _ (by simp) | exact Row.newE _ _ _ (by simp) | with_reducible refine Row.alloc ?_ _)) (by repeat' (first | with_reducible refine Row.drew ?_ | with_reducible refine Row.newE _ _ _ (by simp) | exact Row.newE _ _ _ (by simp) | with_reducible refine Row.alloc ?_ _)) (by repeat' (first | with_reducible exact HQ1.out | with_reducible refine below_dr ?_ | with_reducible refine below_al ?_ _)) (by have := LT1.out; refine ⟨?_, ?_, ?_, ?_, ?_⟩ <;> omega) (by refine ⟨?_, ?_, ?_, ?_, ?_, ?_, ?_, ?_, ?_, ?_⟩ <;> omega) hn hrd
        · go_simp
          refine hK.out _ _ (cs_alloc4 hHeld _) (fun hHeld => ?_)
          clear hK K
          try simp only [List.getElem_toArray, List.getElem_cons_succ, List.getElem_cons_zero, Act.put, List.setIfInBounds_toArray, List.set_cons_zero, List.set_cons_succ]
          refine wpAnyH_ready (rs := [4]) (by kernel_rfl) (by simp) ?_
          refine AllReadyH.cons rfl (fun K hK => ?_) (AllReadyH.nil)
          · go_simp
            refine hK.out _ _ (cs_alloc4 hHeld _) (fun hHeld => ?_)
            clear hK K
            try simp only [List.getElem_toArray, List.getElem_cons_succ, List.getElem_cons_zero, Act.put, List.setIfInBounds_toArray, List.set_cons_zero, List.set_cons_succ]
            refine wpAnyH_ready (rs := [14]) (by kernel_rfl) (by simp) ?_
            refine AllReadyH.cons rfl (fun K hK => ?_) AllReadyH.nil
            go_simp
            refine hK.out _ _ hHeld (fun hHeld => ?_)
            clear hK K
            try simp only [List.getElem_toArray, List.getElem_cons_succ, List.getElem_cons_zero, Act.put, List.setIfInBounds_toArray, List.set_cons_zero, List.set_cons_succ]
            refine wpAnyH_ready (rs := [15]) (by kernel_rfl) (by simp) ?_
            refine AllReadyH.cons rfl (fun K hK => ?_) AllReadyH.nil
            go_simp
            refine hK.out _ _ (cs_alloc4 hHeld _) (fun hHeld => ?_)
            clear hK K
            try simp only [List.getElem_toArray, List.getElem_cons_succ, List.getElem_cons_zero, Act.put, List.setIfInBounds_toArray, List.set_cons_zero, List.set_cons_succ]
            refine wpAnyH_ready (rs := [16]) (by kernel_rfl) (by simp) ?_
            refine AllReadyH.cons rfl (fun K hK => ?_) AllReadyH.nil
            go_simp
            refine hK.out _ _ hHeld (fun hHeld => ?_)
            clear hK K
            try simp only [List.getElem_toArray, List.getElem_cons_succ, List.getElem_cons_zero, Act.put, List.setIfInBounds_toArray, List.set_cons_zero, List.set_cons_succ]
            refine wpAnyH_done (by kernel_rfl) ?_ _
            go_wp2_with fail
            go_meet
            exact mid_of HL1.out HL2.out HL3.out HL4.out rfl (by repeat' (first | with_reducible refine Row.drew ?_ | with_reducible refine Row.newE _ _ _ (by simp) | exact Row.newE _ _ _ (by simp) | with_reducible refine Row.alloc ?_ _)) (by repeat' (first | with_reducible refine Row.drew ?_ | with_reducible refine Row.newE _ _ _ (by simp) | exact Row.newE _ _ _ (by simp) | with_reducible refine Row.alloc ?_ _)) (by repeat' (first | with_reducible refine Row.drew ?_ | with_reducible refine Row.newE _ _ _ (by simp) | exact Row.newE _ _ _ (by simp) | with_reducible refine Row.alloc ?_ _)) (by repeat' (first | with_reducible refine Row.drew ?_ | with_reducible refine Row.newE _ _ _ (by simp) | exact Row.newE _ _ _ (by simp) | with_reducible refine Row.alloc ?_ _)) (by repeat' (first | with_reducible refine Row.drew ?_ | with_reducible refine Row.newE _ _ _ (by simp) | exact Row.newE _ _ _ (by simp) | with_reducible refine Row.alloc ?_ _)) (by repeat' (first | with_reducible exact HQ1.out | with_reducible refine below_dr ?_ | with_reducible refine below_al ?_ _)) (by have := LT1.out; refine ⟨?_, ?_, ?_, ?_, ?_⟩ <;> omega) (by refine ⟨?_, ?_, ?_, ?_, ?_, ?_, ?_, ?_, ?_, ?_⟩ <;> omega) hn hrd
      · go_simp
        refine hK.out _ _ (cs_alloc4 hHeld _) (fun hHeld => ?_)
        clear hK K
        try simp only [List.getElem_toArray, List.getElem_cons_succ, List.getElem_cons_zero, Act.put, List.setIfInBounds_toArray, List.set_cons_zero, List.set_cons_succ]
        refine wpAnyH_ready (rs := [4, 7]) (by kernel_rfl) (by simp) ?_
        refine AllReadyH.cons rfl (fun K hK => ?_) (AllReadyH.cons rfl (fun K hK => ?_) (AllReadyH.nil))
        · go_simp
          refine hK.out _ _ (cs_alloc4 hHeld _) (fun hHeld => ?_)
          clear hK K
          try simp only [List.getElem_toArray, List.getElem_cons_succ, List.getElem_cons_zero, Act.put, List.setIfInBounds_toArray, List.set_cons_zero, List.set_cons_succ]
          refine wpAnyH_ready (rs := [7]) (by kernel_rfl) (by simp) ?_
          refine AllReadyH.cons rfl (fun K hK => ?_) (AllReadyH.nil)
          · go_simp
            refine hK.out _ _ (cs_alloc4 hHeld _) (fun hHeld => ?_)
            clear hK K
            try simp only [List.getElem_toArray, List.getElem_cons_succ, List.getElem_cons_zero, Act.put, List.setIfInBounds_toArray, List.set_cons_zero, List.set_cons_succ]
            refine wpAnyH_ready (rs := [14]) (by kernel_rfl) (by simp) ?_
            refine AllReadyH.cons rfl (fun K hK => ?_) AllReadyH.nil
            go_simp
            refine hK.out _ _ hHeld (fun hHeld => ?_)
            clear hK K
            try simp only [List.getElem_toArray, List.getElem_cons_succ, List.getElem_cons_zero, Act.put, List.setIfInBounds_toArray, List.set_cons_zero, List.set_cons_succ]
            refine wpAnyH_ready (rs := [15]) (by kernel_rfl) (by simp) ?_
            refine AllReadyH.cons rfl (fun K hK => ?_) AllReadyH.nil
            go_simp
            refine hK.out _ _ (cs_alloc4 hHeld _) (fun hHeld => ?_)
            clear hK K
            try simp only [List.getElem_toArray, List.getElem_cons_succ, List.getElem_cons_zero, Act.put, List.setIfInBounds_toArray, List.set_cons_zero, List.set_cons_succ]
            refine wpAnyH_ready (rs := [16]) (by kernel_rfl) (by simp) ?_
            refine AllReadyH.cons rfl (fun K hK => ?_) AllReadyH.nil
            go_simp
            refine hK.out _ _ hHeld (fun hHeld => ?_)
            clear hK K
            try simp only [List.getElem_toArray, List.getElem_cons_succ, List.getElem_cons_zero, Act.put, List.setIfInBounds_toArray, List.set_cons_zero, List.set_cons_succ]
            refine wpAnyH_done (by kernel_rfl) ?_ _
            go_wp2_with fail
            go_meet
            exact mid_of HL1.out HL2.out HL3.out HL4.out rfl (by repeat' (first | with_reducible refine Row.drew ?_ | with_reducible refine Row.newE _ _ _ (by simp) | exact Row.newE _ _ _ (by simp) | with_reducible refine Row.alloc ?_ _)) (by repeat' (first | with_reducible refine Row.drew ?_ | with_reducible refine Row.newE _ _ _ (by simp) | exact Row.newE _ _ _ (by simp) | with_reducible refine Row.alloc ?_ _)) (by repeat' (first | with_reducible refine Row.drew ?_ | with_reducible refine Row.newE _ _ _ (by simp) | exact Row.newE _ _ _ (by simp) | with_reducible refine Row.alloc ?_ _)) (by repeat' (first | with_reducible refine Row.drew ?_ | with_reducible refine Row.newE _ _ _ (by simp) | exact Row.newE _ _ _ (by simp) | with_reducible refine Row.alloc ?_ _)) (by repeat' (first | with_reducible refine Row.drew ?_ | with_reducible refine Row.newE _ _ _ (by simp) | exact Row.newE _ _ _ (by simp) | with_reducible refine Row.alloc ?_ _)) (by repeat' (first | with_reducible exact HQ1.out | with_reducible refine below_dr ?_ | with_reducible refine below_al ?_ _)) (by have := LT1.out; refine ⟨?_, ?_, ?_, ?_, ?_⟩ <;> omega) (by refine ⟨?_, ?_, ?_, ?_, ?_, ?_, ?_, ?_, ?_, ?_⟩ <;> omega) hn hrd
        · go_simp
          refine hK.out _ _ (cs_alloc4 hHeld _) (fun hHeld => ?_)
          clear hK K
          try simp only [List.getElem_toArray, List.getElem_cons_succ, List.getElem_cons_zero, Act.put, List.setIfInBounds_toArray, List.set_cons_zero, List.set_cons_succ]
          refine wpAnyH_ready (rs := [4]) (by kernel_rfl) (by simp) ?_
          refine AllReadyH.cons rfl (fun K hK => ?_) (AllReadyH.nil)
          · go_simp
            refine hK.out _ _ (cs_alloc4 hHeld _) (fun hHeld => ?_)
            clear hK K
            try simp only [List.getElem_toArray, List.getElem_cons_succ, List.getElem_cons_zero, Act.put, List.setIfInBounds_toArray, List.set_cons_zero, List.set_cons_succ]
            refine wpAnyH_ready (rs := [14]) (by kernel_rfl) (by simp) ?_
            refine AllReadyH.cons rfl (fun K hK => ?_) AllReadyH.nil
            go_simp
            refine hK.out _ _ hHeld (fun hHeld => ?_)
            clear hK K
            try simp only [List.getElem_toArray, List.getElem_cons_succ, List.getElem_cons_zero, Act.put, List.setIfInBounds_toArray, List.set_cons_zero, List.set_cons_succ]
            refine wpAnyH_ready (rs := [15]) (by kernel_rfl) (by simp) ?_
            refine AllReadyH.cons rfl (fun K hK => ?_) AllReadyH.nil
            go_simp
            refine hK.out _ _ (cs_alloc4 hHeld _) (fun hHeld => ?_)
            clear hK K
            try simp only [List.getElem_toArray, List.getElem_cons_succ, List.getElem_cons_zero, Act.put, List.setIfInBounds_toArray, List.set_cons_zero, List.set_cons_succ]
            refine wpAnyH_ready (rs := [16]) (by kernel_rfl) (by simp) ?_
            refine AllReadyH.cons rfl (fun K hK => ?_) AllReadyH.nil
            go_simp
            refine hK.out _ _ hHeld (fun hHeld => ?_)
            clear hK K
            try simp only [List.getElem_toArray, List.getElem_cons_succ, List.getElem_cons_zero, Act.put, List.setIfInBounds_toArray, List.set_cons_zero, List.set_cons_succ]
            refine wpAnyH_done (by kernel_rfl) ?_ _
            go_wp2_with fail
            go_meet
            exact mid_of HL1.out HL2.out HL3.out HL4.out rfl (by repeat' (first | with_reducible refine Row.drew ?_ | with_reducible refine Row.newE _ _ _ (by simp) | exact Row.newE _ _ _ (by simp) | with_reducible refine Row.alloc ?_ _)) (by repeat' (first | with_reducible refine Row.drew ?_ | with_reducible refine Row.newE _ _ _ (by simp) | exact Row.newE _ _ _ (by simp) | with_reducible refine Row.alloc ?_ _)) (by repeat' (first | with_reducible refine Row.drew ?_ | with_reducible refine Row.newE _ _ _ (by simp) | exact Row.newE _ _ _ (by simp) | with_reducible refine Row.alloc ?_ _)) (by repeat' (first | with_reducible refine Row.drew ?_ | with_reducible refine Row.newE _ _ _ (by simp) | exact Row.newE _ _ _ (by simp) | with_reducible refine Row.alloc ?_ _)) (by repeat' (first | with_reducible refine Row.drew ?_ | with_reducible refine Row.newE _ _ _ (by simp) | exact Row.newE _ _ _ (by simp) | with_reducible refine Row.alloc ?_ _)) (by repeat' (first | with_reducible exact HQ1.out | with_reducible refine below_dr ?_ | with_reducible refine below_al ?_ _)) (by have := LT1.out; refine ⟨?_, ?_, ?_, ?_, ?_⟩ <;> omega) (by refine ⟨?_, ?_, ?_, ?_, ?_, ?_, ?_, ?_, ?_, ?_⟩ <;> omega) hn hrd
    --END
  case rest =>
    obtain ⟨gk, gr, gs, go, gd, rfl, G, hW, hbl⟩ := hcut
    have HALL := Lib.hid (all_calls G hW (hl.below hbl) hok hlen ho)
    have HBL := Lib.hid hbl
    clear hm1 hm2 hm3 hm4 HL1 HL2 HL3 HL4 HP1 HQ1 LT1 p0 p1 p2 p3 hW hbl
    go_wp2_with fail
    refine HALL.out.mono ?_
    rintro e w' ⟨hy, hno⟩
    cases hv : (vAll regs outs reads n l).2 with
    | some st =>
      obtain ⟨rfl, hb', hW'⟩ := hy st hv
      clear hno hy
      go_wp2_with fail
      go_ret2
      exact ⟨gk, gr, gs, go, gd, G, HBL.out.trans hb', fun st2 h2 => ⟨rfl, by rw [hv] at h2; injection h2 with h2; subst h2; exact hW'⟩, fun h2 => some_none hv h2⟩
    | none =>
      obtain ⟨rfl, hb', hF⟩ := hno hv
      clear hno hy
      go_wp2_with fail
      go_ret2
      exact ⟨gk, gr, gs, go, gd, G, HBL.out.trans hb', fun st2 h2 => some_none h2 hv, fun _ => ⟨rfl, hF⟩⟩
end Go.Proofs.Ythbjcafldbocpaa
namespace Go.Proofs.Ythbjcafldbocpaa
open Go.RowKit
set_option linter.unusedVariables false
set_option linter.unusedSimpArgs false

end Go.Proofs.Ythbjcafldbocpaa
namespace Go.Proofs.Ythbjcafldbocpaa
open Go.RowKit
set_option linter.unusedVariables false
set_option linter.unusedSimpArgs false
theorem byte_or (m : Nat) : ∃ y : UInt8, bits BinOp.or IntKind.u8 ((m : Int) % 256) 128 = (y.toNat : Int) := by
  refine ⟨UInt8.ofNat (m % 256 ||| 128), ?_⟩
  have h : m % 256 ||| 128 < 2 ^ 8 := Nat.or_lt_two_pow (by omega) (by decide)
  rw [show ((m : Int) % 256) = ((m % 256 : Nat) : Int) by omega, show (128 : Int) = ((128 : Nat) : Int) from rfl, u8_or_nat _ _ (by omega) (by decide), UInt8.toNat_ofNat', Nat.mod_eq_of_lt h]
theorem byte_at {m : Nat} (h : m < 256) : ∃ y : UInt8, (m : Int) = (y.toNat : Int) := by
  refine ⟨UInt8.ofNat m, ?_⟩
  rw [UInt8.toNat_ofNat']
  omega
set_option maxRecDepth 100000 in
set_option maxHeartbeats 1600000 in
theorem wnum_calls (n : Nat) (hn : n < 2097152) (w : World) :
    Calls Try.prog 74 #[.int .i64 (n : Int)] w fun e w' => ∃ v xs, e = .returned v ∧ OwnV w' w.heap.size v xs ∧ xs.length ≤ 4 ∧ Below w.heap.size w w' := by
  go_enter Try.func74, Try.ntmps74
  go_wp2_with fail
  go_loopw [0, 3] (fun v0 v3 wr => ∃ (m : Nat) (xs : List UInt8), v0 = .int .i64 (m : Int) ∧ OwnV wr w.heap.size v3 xs ∧ xs.length ≤ 3 ∧ (xs.length = 0 → m < 2097152) ∧ (xs.length = 1 → m < 16384) ∧ (xs.length = 2 → m < 128) ∧ (xs.length = 3 → m < 1) ∧ Below w.heap.size w wr) (fun v0 _ _ => (intOf v0).toNat)
  case atStart => exact ⟨n, [], rfl, OwnV.nil _ _, by simp, fun _ => hn, fun h => by simp at h, fun h => by simp at h, fun h => by simp at h, Below.refl _ _⟩
  case round =>
    obtain ⟨m, xs, rfl, ho, hl, l0, l1, l2, l3, hb⟩ := hrel
    have hl4 : xs.length = 0 ∨ xs.length = 1 ∨ xs.length = 2 ∨ xs.length = 3 := by omega
    by_cases hm : 128 ≤ m
    · have hm1 : decide ((128 : Int) ≤ (m : Int)) = true := decide_eq_true (by omega)
      obtain ⟨y, hy⟩ := byte_or m
      have HB := Lib.hid hb
      clear hb
      go_wp2_with (at_builtin; refine wpList_append_byte (.tmp 6) (.tmp 10) rfl rfl w.heap.size _ xs y rfl (show OwnV wr w.heap.size _ xs from ho) rfl (by omega) (show w.heap.size ≤ wr.heap.size from HB.out.size) ?_; intro v1 w1 ho1 hb1 hg1)
      go_roundw
      case rel =>
        refine ⟨m / 128, xs ++ [y], by first | go_num | (simp; done) | omega, ho1, by rw [List.length_append, List.length_singleton]; omega, ?_, ?_, ?_, ?_, HB.out.trans hb1⟩ <;> rw [List.length_append, List.length_singleton] <;> omega
      case measure => simp [intOf]; omega
    · have hm1 : decide ((128 : Int) ≤ (m : Int)) = false := decide_eq_false (by omega)
      obtain ⟨y, hy⟩ := byte_at (m := m) (by omega)
      have hy2 : (m : Int) % 256 = (y.toNat : Int) := by omega
      have HB := Lib.hid hb
      clear hb
      go_wp2_with (at_builtin; refine wpList_append_byte (.tmp 14) (.tmp 17) rfl rfl w.heap.size _ xs y rfl (show OwnV wr w.heap.size _ xs from ho) rfl (by omega) (show w.heap.size ≤ wr.heap.size from HB.out.size) ?_; intro v1 w1 ho1 hb1 hg1)
      go_ret
      exact ⟨_, _, rfl, ho1, by rw [List.length_append, List.length_singleton]; omega, HB.out.trans hb1⟩
theorem wNum_calls (n : Nat) (hn : n < 2097152) (w : World) :
    Calls Try.prog 61 #[.int .i64 (n : Int)] w fun e w' => ∃ v xs, e = .returned (.tuple #[v, .int .i64 0]) ∧ OwnV w' w.heap.size v xs ∧ xs.length ≤ 4 ∧ Below w.heap.size w w' := by
  have h0 : decide ((n : Int) < 0) = false := decide_eq_false (by omega)
  go_enter Try.func61, Try.ntmps61
  go_wp2_with fail
  refine (wnum_calls n hn w).mono ?_
  rintro e w' ⟨v, xs, rfl, ho, hl, hb⟩
  go_wp2_with fail
  go_ret2
  exact ⟨v, xs, rfl, ho, hl, hb⟩
theorem OwnV.set_far {w : World} {base gb : Nat} {v : Value} {xs : List UInt8} (h : OwnV w base v xs) (hg : gb < base) (u : Value) : OwnV (w.setCell ⟨gb, 0, none⟩ u) base v xs :=
  h.kept (row := some gb) (grown_setCell (p := ⟨gb, 0, none⟩) (World.grownBy.refl w (some gb)) (.inl rfl) u) (.inr (by intro e; have := (World.ownsRow.lt h gb e).1; omega))
set_option maxRecDepth 100000 in
set_option maxHeartbeats 1600000 in
theorem write1_calls (n base gb : Nat) (v : Value) (xs : List UInt8) (hn : n < 2097152) (w : World) (hr : Row w gb 35 [v]) (ho : OwnV w base v xs) (hg : gb < base) (hB : base ≤ w.heap.size) (hl : xs.length ≤ 1000000) :
    Calls Try.prog 60 #[.int .i64 (n : Int), .pointer (some ⟨gb, 0, none⟩)] w fun e w' => ∃ v' xs', e = .returned (.tuple #[]) ∧ Row w' gb 35 [v'] ∧ OwnV w' base v' xs' ∧ xs'.length ≤ xs.length + 4 ∧ Chg3 base gb gb gb w w' := by
  go_enter Try.func60, Try.ntmps60
  go_wp2_with fail
  refine (wNum_calls n hn w).mono ?_
  rintro e w1 ⟨x, ys, rfl, hx, hly, hb⟩
  have hr1 := hr.below hb hr.lt
  have c0 : w1.cell? ⟨gb, 0, none⟩ = some v := hr1.cell 0
  have f0 : w1.frozen? ⟨gb, 0, none⟩ = false := hr1.frozen 0
  have ho1 := ho.below hb
  obtain ⟨A, c, rfl, hox⟩ := hx.slice
  have HRD := Lib.hid hox.rd
  have HR := Lib.hid hr1
  have HB := Lib.hid hb
  clear hb hr1
  go_wp2_with (at_builtin; refine wpList_append_rd (.tmp 10) (.tmp 11) rfl rfl base v xs ys rfl ho1 w1.heap.size A ys.length c rfl HRD.out (by omega) (Nat.le_trans hB HB.out.size) ?_; intro v2 w2 ho2 hg2 hat2; obtain ⟨A2, cap2, rfl, hox2⟩ := ho2.slice; have hb2 := Lib.hid (grown_below (B := base) hg2 (Nat.le_trans hB HB.out.size) (fun k hk => (World.ownsRow.lt ho1 k hk).1)); have hr2 := Lib.hid (HR.out.below hb2.out hg); have c2 : w2.cell? ⟨gb, 0, none⟩ = some v := hr2.out.cell 0; have f2 : w2.frozen? ⟨gb, 0, none⟩ = false := hr2.out.frozen 0)
  go_end0
  have h3 := ho2.set_far hg (.slice A2 (xs ++ ys).length cap2)
  rw [List.length_append] at h3
  exact ⟨_, _, rfl, hr2.out.set 0 _, h3, by rw [List.length_append]; omega, (Chg3.of_below ((HB.out.mono hB).trans hb2.out)).set (g := gb) (.inl rfl) 0 _⟩
end Go.Proofs.Ythbjcafldbocpaa
namespace Go.Proofs.Ythbjcafldbocpaa
open Go.RowKit
set_option linter.unusedVariables false
set_option linter.unusedSimpArgs false
set_option maxRecDepth 100000 in
set_option maxHeartbeats 4000000 in
theorem write_no (AS : Option Addr) (nS cS : Nat) (regs outs reads : Int) (w : World)
    (hmay : ∀ w1, Below w.heap.size w w1 → Calls Try.prog 59 #[.agg #[.slice AS nS cS, .int .i64 regs, .int .i64 outs, .int .u64 reads]] w1 fun e w' => e = .returned (.bool false) ∧ Below w1.heap.size w1 w') :
    Calls Try.prog 48 #[.agg #[.slice AS nS cS, .int .i64 regs, .int .i64 outs, .int .u64 reads]] w fun e w' => e = .returned (.tuple #[.slice none 0 0, .int .i64 2]) ∧ Below w.heap.size w w' := by
  go_enter Try.func48, Try.ntmps48
  go_wp2_with fail
  have q : Below w.heap.size w (w.alloc (.cells #[.slice AS nS cS, .int .i64 regs, .int .i64 outs, .int .u64 reads] 26)) := (Below.refl _ _).alloc (Nat.le_refl _) _
  refine (hmay _ q).mono ?_
  rintro e w1 ⟨rfl, hb⟩
  go_wp2_with fail
  go_ret2
  exact ⟨rfl, q.trans (hb.mono (by simp))⟩
structure WB (W w0 : World) (gb base : Nat) (ps : List Value) (v : Value) (xs : List UInt8) : Prop where
  hb : Row W gb 35 [v]
  ho : OwnV W base v xs
  lt : gb < base
  ltp : w0.heap.size < gb
  hB : base ≤ W.heap.size
  hp : Row W w0.heap.size 26 ps
  low : Below w0.heap.size w0 W
theorem WB.step {W W' w0 : World} {gb base : Nat} {ps : List Value} {v v' : Value} {xs xs' : List UInt8} (h : WB W w0 gb base ps v xs) (c : Chg3 base gb gb gb W W') (hb : Row W' gb 35 [v']) (ho : OwnV W' base v' xs') : WB W' w0 gb base ps v' xs' := by
  have h1 := h.lt
  have h2 := h.ltp
  exact ⟨hb, ho, h.lt, h.ltp, Nat.le_trans h.hB c.size, c.row h.hp (by omega) (by omega) (by omega) (by omega), h.low.trans (c.low (B := base) (by omega) (by omega) (by omega) (by omega))⟩
theorem WB.drewN {W w0 : World} {gb base : Nat} {ps : List Value} {v : Value} {xs : List UInt8} (h : WB W w0 gb base ps v xs) (k : Nat) : WB (W.drewN k) w0 gb base ps v xs :=
  ⟨h.hb.drewN k, h.ho.drewN k, h.lt, h.ltp, h.hB, h.hp.drewN k, below_drewN h.low k⟩
theorem WB.alloc {W w0 : World} {gb base : Nat} {ps : List Value} {v : Value} {xs : List UInt8} (h : WB W w0 gb base ps v xs) (o : Obj) : WB (W.alloc o) w0 gb base ps v xs :=
  h.step (Chg3.of_below ((Below.refl base W).alloc h.hB o)) (h.hb.alloc o) (h.ho.below ((Below.refl _ W).alloc (Nat.le_refl _) o))
theorem WB.put {W W' w0 : World} {gb base : Nat} {ps : List Value} {v v' : Value} {xs xs' : List UInt8} (h : WB W w0 gb base ps v xs) (hb : Below base W W') (ho : OwnV W' base v' xs') : WB (W'.setCell ⟨gb, 0, none⟩ v') w0 gb base ps v' xs' :=
  h.step ((Chg3.of_below hb).set (g := gb) (.inl rfl) 0 v') ((h.hb.below hb h.lt).set 0 v') (ho.set_far h.lt v')
theorem byte_wrap (z : Int) : ∃ y : UInt8, IntKind.u8.wrap z = (y.toNat : Int) := by
  refine ⟨UInt8.ofNat (z % 256).toNat, ?_⟩
  rw [UInt8.toNat_ofNat', IntKind.wrap_u8]
  omega
theorem rd_one (w : World) (y : UInt8) : Rd (w.alloc (.cells #[.int .u8 (y.toNat : Int)] 5)) (w.alloc (.cells #[.int .u8 (y.toNat : Int)] 5)).heap.size (some ⟨w.heap.size, 0, none⟩) 1 (bVs [y]) := by
  have hrow := Row.new w [.int .u8 (y.toNat : Int)] 5
  refine ⟨rfl, fun _ => ⟨w.heap.size, 0, rfl, hrow.lt, fun j u hu => ?_⟩⟩
  rw [hrow.cell]
  rw [← hu, Nat.zero_add]
  rfl
def Ints3 (w w' : World) (A : Option Addr) (m : Nat) : Prop := m ≤ 3 ∧ (0 < m → ∃ g, A = some ⟨g, 0, none⟩ ∧ w.heap.size ≤ g ∧ g < w'.heap.size ∧ ∀ j, j < m → ∃ z : Int, w'.cell? ⟨g, j, none⟩ = some (.int .i64 z))
theorem write1_wb {W w0 : World} {gb base n : Nat} {ps : List Value} {v : Value} {xs : List UInt8} (h : WB W w0 gb base ps v xs) (hn : n < 2097152) (hl : xs.length ≤ 1000000) :
    Calls Try.prog 60 #[.int .i64 (n : Int), .pointer (some ⟨gb, 0, none⟩)] W fun e W' => ∃ v' xs', e = .returned (.tuple #[]) ∧ WB W' w0 gb base ps v' xs' ∧ xs'.length ≤ xs.length + 4 := by
  refine (write1_calls n base gb v xs hn W h.hb h.ho h.lt h.hB hl).mono ?_
  rintro e W' ⟨v', xs', rfl, h1, h2, h3, h4⟩
  exact ⟨v', xs', rfl, h.step h4 h1 h2, h3⟩
set_option maxRecDepth 100000 in
set_option maxHeartbeats 4000000 in
theorem write_yes (AS : Option Addr) (l : List PS) (cS regs outs reads : Nat) (w : World) (hl : StepsAt w w.heap.size AS l) (hr : regs ≤ 256) (ho : outs ≤ 64) (hlen : l.length ≤ 65536)
    (hmay : ∀ w1, Below w.heap.size w w1 → Calls Try.prog 59 #[.agg #[.slice AS l.length cS, .int .i64 (regs : Int), .int .i64 (outs : Int), .int .u64 (reads : Int)]] w1 fun e w' => e = .returned (.bool true) ∧ Below w1.heap.size w1 w')
    (hrange : ∀ s ∈ l, s.k < 256)
    (hall : ∀ s ∈ l, ∀ w1, Calls Try.prog 62 #[.agg #[.int .u8 (s.k : Int), .int .i64 (s.D : Int), .int .i64 (s.S : Int), .int .u8 (s.C.toNat : Int)]] w1 fun e w' => ∃ A m c, e = .returned (.slice A m c) ∧ Ints3 w1 w' A m ∧ Below w1.heap.size w1 w') :
    Calls Try.prog 48 #[.agg #[.slice AS l.length cS, .int .i64 (regs : Int), .int .i64 (outs : Int), .int .u64 (reads : Int)]] w fun e w' => ∃ v, e = .returned (.tuple #[v, .int .i64 0]) ∧ Below w.heap.size w w' := by
  have hmf : ∀ (fn : Fn) (first cap : Array Value) (w : World), (Instr.makeFunc fn first cap).run Try.prog w = .ok (.func fn first cap) w := fun _ _ _ _ => rfl
  go_enter Try.func48, Try.ntmps48
  go_wp2_with fail
  have q : Below w.heap.size w (w.alloc (.cells #[.slice AS l.length cS, .int .i64 (regs : Int), .int .i64 (outs : Int), .int .u64 (reads : Int)] 26)) := (Below.refl _ _).alloc (Nat.le_refl _) _
  have hp0 := Row.new w [.slice AS l.length cS, .int .i64 (regs : Int), .int .i64 (outs : Int), .int .u64 (reads : Int)] 26
  refine (hmay _ q).mono ?_
  rintro e w1 ⟨rfl, hb⟩
  have hp1 := hp0.below hb hp0.lt
  have q1 : Below w.heap.size w w1 := q.trans (hb.mono (by simp))
  have h0 : WB (w1.alloc (.cells #[.slice none 0 0] 35)) w w1.heap.size (w1.heap.size + 1) [.slice AS l.length cS, .int .i64 (regs : Int), .int .i64 (outs : Int), .int .u64 (reads : Int)] (.slice none 0 0) [] :=
    ⟨Row.new w1 _ _, OwnV.nil _ _, by omega, by have := hp1.lt; omega, by simp, hp1.alloc _, q1.alloc q1.size _⟩
  have i4 : (0 : Int) ≤ (l.length : Int) := by omega
  have p1 : (w1.alloc (.cells #[.slice none 0 0] 35)).cell? ⟨w.heap.size, 1, none⟩ = some (.int .i64 (regs : Int)) := h0.hp.cell 1
  have H0 := Lib.hid h0
  clear h0 hp1 hp0
  go_wp2_with fail
  refine (write1_wb H0.out (n := regs) (by omega) (by simp)).mono ?_
  rintro e wa ⟨va, xa, rfl, ha, la⟩
  have p2 : wa.cell? ⟨w.heap.size, 2, none⟩ = some (.int .i64 (outs : Int)) := ha.hp.cell 2
  have HA := Lib.hid ha
  clear ha p1
  go_wp2_with fail
  refine (write1_wb HA.out (n := outs) (by omega) (by simp at la; omega)).mono ?_
  rintro e wb ⟨vb, xb, rfl, hb2, lb⟩
  have HB := Lib.hid hb2
  have LB := Lib.hid (show xb.length ≤ 8 by simp at la; omega)
  clear hb2 p2 la lb HA H0
  go_wp2_with fail
  go_loopw [6] (fun v6 wr => ∃ (i : Int) (v : Value) (xs : List UInt8), -1 ≤ i ∧ i ≤ 7 ∧ v6 = .int .i64 i ∧ WB wr w w1.heap.size (w1.heap.size + 1) [.slice AS l.length cS, .int .i64 (regs : Int), .int .i64 (outs : Int), .int .u64 (reads : Int)] v xs ∧ (xs.length : Int) + i ≤ 15) (fun v6 _ => (intOf v6 + 1).toNat)
  case atStart => exact ⟨7, vb, xb, by omega, by omega, rfl, HB.out, by have := LB.out; omega⟩
  case round =>
    obtain ⟨i, v, xs, hi0, hi7, rfl, hW, hlx⟩ := hrel
    clear HB LB
    have HW := Lib.hid hW
    by_cases hi : 0 ≤ i
    · obtain ⟨j, rfl⟩ : ∃ j : Nat, i = (j : Int) := ⟨i.toNat, by omega⟩
      have hd : decide (0 ≤ (j : Int)) = true := decide_eq_true hi
      have b0 : wr.cell? ⟨w1.heap.size, 0, none⟩ = some v := hW.hb.cell 0
      have p3 : wr.cell? ⟨w.heap.size, 3, none⟩ = some (.int .u64 (reads : Int)) := hW.hp.cell 3
      have lj : j ≤ 7 := by omega
      obtain ⟨s, hs⟩ : ∃ s : Nat, s = 8 * j := ⟨_, rfl⟩
      have e8 : IntKind.i64.wrap (8 * (j : Int)) = (s : Int) := by rw [IntKind.wrap_i64]; omega
      have ls : s ≤ 56 := by omega
      obtain ⟨y, hy⟩ := byte_wrap ((reads : Int) / 2 ^ (8 * (j : Int)).toNat)
      have hxl : xs.length + j ≤ 15 := by omega
      clear hW
      go_wp2_with fail
      refine wp_region_held_drew (S := (fun x => x.cell? ⟨w.heap.size, 3, none⟩ = some (.int .u64 (reads : Int)))) (by kernel_rfl) p3 (fun hHeld => ?_)
      refine wpAnyH_take (i := 1) (v := ?_) rfl (by kernel_rfl) (by kernel_rfl) (by kernel_rfl) (fun _ _ _ h => h) (Or.inl ⟨by kernel_rfl, ?_⟩) (by assumption) ?_
      rotate_left
      · (intro w hSw; (try dsimp only at hSw); go_simp; (try with_reducible rfl))
      try simp only [List.getElem_toArray, List.getElem_cons_succ, List.getElem_cons_zero, Act.put, List.setIfInBounds_toArray, List.set_cons_zero, List.set_cons_succ]
      refine wpAnyH_take (i := 2) (v := ?_) rfl (by kernel_rfl) (by kernel_rfl) (by kernel_rfl) (fun _ _ _ h => h) (Or.inl ⟨by kernel_rfl, ?_⟩) (by assumption) ?_
      rotate_left
      · (intro w hSw; (try dsimp only at hSw); go_simp; (try with_reducible rfl))
      try simp only [List.getElem_toArray, List.getElem_cons_succ, List.getElem_cons_zero, Act.put, List.setIfInBounds_toArray, List.set_cons_zero, List.set_cons_succ]
      refine wpAnyH_take (i := 3) (v := ?_) rfl (by kernel_rfl) (by kernel_rfl) (by kernel_rfl) (fun _ _ _ h => h) (Or.inl ⟨by kernel_rfl, ?_⟩) (by assumption) ?_
      rotate_left
      · (intro w hSw; (try dsimp only at hSw); go_simp; (try with_reducible rfl))
      try simp only [List.getElem_toArray, List.getElem_cons_succ, List.getElem_cons_zero, Act.put, List.setIfInBounds_toArray, List.set_cons_zero, List.set_cons_succ]
      refine wpAnyH_take (i := 4) (v := ?_) rfl (by kernel_rfl) (by kernel_rfl) (by kernel_rfl) (fun _ _ _ h => h) (Or.inl ⟨by kernel_rfl, ?_⟩) (by assumption) ?_
      rotate_left
      · (intro w hSw; (try dsimp only at hSw); go_simp; (try with_reducible rfl))
      try simp only [List.getElem_toArray, List.getElem_cons_succ, List.getElem_cons_zero, Act.put, List.setIfInBounds_toArray, List.set_cons_zero, List.set_cons_succ]
      refine wpAnyH_take (i := 5) (v := ?_) rfl (by kernel_rfl) (by kernel_rfl) (by kernel_rfl) (fun _ _ _ h => h) (Or.inl ⟨by kernel_rfl, ?_⟩) (by assumption) ?_
      rotate_left
      · (intro w hSw; (try dsimp only at hSw); go_simp; (try with_reducible rfl))
      try simp only [List.getElem_toArray, List.getElem_cons_succ, List.getElem_cons_zero, Act.put, List.setIfInBounds_toArray, List.set_cons_zero, List.set_cons_succ]
      refine wpAnyH_take (i := 6) (v := ?_) rfl (by kernel_rfl) (by kernel_rfl) (by kernel_rfl) (fun _ _ _ h => h) (Or.inl ⟨by kernel_rfl, ?_⟩) (by assumption) ?_
      rotate_left
      · (intro w hSw; (try dsimp only at hSw); go_simp; (try with_reducible rfl))
      try simp only [List.getElem_toArray, List.getElem_cons_succ, List.getElem_cons_zero, Act.put, List.setIfInBounds_toArray, List.set_cons_zero, List.set_cons_succ]
      refine wpAnyH_ready (rs := [0, 7]) (by kernel_rfl) (by simp) ?_
      refine AllReadyH.cons rfl (fun K hK => ?_) (AllReadyH.cons rfl (fun K hK => ?_) AllReadyH.nil)
      · go_simp
        refine hK.out _ _ hHeld (fun hHeld => ?_)
        clear hK K
        try simp only [List.getElem_toArray, List.getElem_cons_succ, List.getElem_cons_zero, Act.put, List.setIfInBounds_toArray, List.set_cons_zero, List.set_cons_succ]
        refine wpAnyH_ready (rs := [7]) (by kernel_rfl) (by simp) ?_
        refine AllReadyH.cons rfl (fun K hK => ?_) AllReadyH.nil
        go_simp
        have hA := (HW.out.alloc (.cells #[.int .u8 (y.toNat : Int)] 5)).drewN 1
        have hcl : (wr.alloc (.cells #[.int .u8 (y.toNat : Int)] 5)).cell? ⟨wr.heap.size, 0, none⟩ = some (.int .u8 (y.toNat : Int)) := (Row.new wr [.int .u8 (y.toNat : Int)] 5).cell 0
        obtain ⟨W2, hW2⟩ : ∃ W2, W2 = (wr.alloc (.cells #[.int .u8 (y.toNat : Int)] 5)).drew := ⟨_, rfl⟩
        have hcl2 : W2.cell? ⟨wr.heap.size, 0, none⟩ = some (.int .u8 (y.toNat : Int)) := by rw [hW2]; exact hcl
        have hA2 : WB W2 w w1.heap.size (w1.heap.size + 1) [.slice AS l.length cS, .int .i64 (regs : Int), .int .i64 (outs : Int), .int .u64 (reads : Int)] v xs := by rw [hW2]; exact hA
        rw [← hW2]
        clear hW2 hA hcl
        refine hK.out _ _ (hA2.hp.cell 3) (fun hHeld => ?_)
        clear hK K
        try simp only [List.getElem_toArray, List.getElem_cons_succ, List.getElem_cons_zero, Act.put, List.setIfInBounds_toArray, List.set_cons_zero, List.set_cons_succ]
        refine wpAnyH_ready (rs := [8]) (by kernel_rfl) (by simp) ?_
        refine AllReadyH.cons rfl (fun K hK => ?_) AllReadyH.nil
        refine step_append_byte (.tmp 27) (.tmp 34) rfl rfl (w1.heap.size + 1) wr.heap.size v xs y rfl hA2.ho rfl hcl2 (by omega) hA2.hB ?_
        intro v2 w4 ho4 hb4 hg4
        obtain ⟨A4, cap4, rfl, hox4⟩ := ho4.slice
        generalize hm4 : (xs ++ [y]).length = m4 at *
        have HM4 := Lib.hid hm4
        clear hm4
        have c4 : w4.cell? ⟨w1.heap.size, 0, none⟩ = some v := (hA2.hb.below hb4 hA2.lt).cell 0
        have f4 : w4.frozen? ⟨w1.heap.size, 0, none⟩ = false := (hA2.hb.below hb4 hA2.lt).frozen 0
        have p4 : w4.cell? ⟨w.heap.size, 3, none⟩ = some (.int .u64 (reads : Int)) := (hA2.hp.below hb4 (by have := hA2.ltp; omega)).cell 3
        have HF := Lib.hid (hA2.put hb4 ho4)
        clear hcl2 hA2 hg4 hox4 ho4 hb4
        refine hK.out _ _ p4 (fun hHeld => ?_)
        clear hK K
        try simp only [List.getElem_toArray, List.getElem_cons_succ, List.getElem_cons_zero, Act.put, List.setIfInBounds_toArray, List.set_cons_zero, List.set_cons_succ]
        refine wpAnyH_ready (rs := [9]) (by kernel_rfl) (by simp) ?_
        refine AllReadyH.cons rfl (fun K hK => ?_) AllReadyH.nil
        go_simp
        refine hK.out _ _ (HF.out.hp.cell 3) (fun hHeld => ?_)
        clear hK K
        try simp only [List.getElem_toArray, List.getElem_cons_succ, List.getElem_cons_zero, Act.put, List.setIfInBounds_toArray, List.set_cons_zero, List.set_cons_succ]
        refine wpAnyH_done (by kernel_rfl) ?_ _
        go_wp2_with fail
        go_roundw
        case rel => exact ⟨(j : Int) - 1, _, _, by omega, by omega, by go_num, HF.out, by rw [List.length_append, List.length_singleton]; omega⟩
        case measure => simp [intOf] <;> omega
      · go_simp
        have hA := (HW.out.alloc (.cells #[.int .u8 (y.toNat : Int)] 5)).drewN 1
        have hcl : (wr.alloc (.cells #[.int .u8 (y.toNat : Int)] 5)).cell? ⟨wr.heap.size, 0, none⟩ = some (.int .u8 (y.toNat : Int)) := (Row.new wr [.int .u8 (y.toNat : Int)] 5).cell 0
        obtain ⟨W2, hW2⟩ : ∃ W2, W2 = (wr.alloc (.cells #[.int .u8 (y.toNat : Int)] 5)).drew := ⟨_, rfl⟩
        have hcl2 : W2.cell? ⟨wr.heap.size, 0, none⟩ = some (.int .u8 (y.toNat : Int)) := by rw [hW2]; exact hcl
        have hA2 : WB W2 w w1.heap.size (w1.heap.size + 1) [.slice AS l.length cS, .int .i64 (regs : Int), .int .i64 (outs : Int), .int .u64 (reads : Int)] v xs := by rw [hW2]; exact hA
        rw [← hW2]
        clear hW2 hA hcl
        have b2 : W2.cell? ⟨w1.heap.size, 0, none⟩ = some v := hA2.hb.cell 0
        refine hK.out _ _ (hA2.hp.cell 3) (fun hHeld => ?_)
        clear hK K
        try simp only [List.getElem_toArray, List.getElem_cons_succ, List.getElem_cons_zero, Act.put, List.setIfInBounds_toArray, List.set_cons_zero, List.set_cons_succ]
        refine wpAnyH_ready (rs := [0]) (by kernel_rfl) (by simp) ?_
        refine AllReadyH.cons rfl (fun K hK => ?_) AllReadyH.nil
        go_simp
        refine hK.out _ _ hHeld (fun hHeld => ?_)
        clear hK K
        try simp only [List.getElem_toArray, List.getElem_cons_succ, List.getElem_cons_zero, Act.put, List.setIfInBounds_toArray, List.set_cons_zero, List.set_cons_succ]
        refine wpAnyH_ready (rs := [8]) (by kernel_rfl) (by simp) ?_
        refine AllReadyH.cons rfl (fun K hK => ?_) AllReadyH.nil
        refine step_append_byte (.tmp 27) (.tmp 34) rfl rfl (w1.heap.size + 1) wr.heap.size v xs y rfl hA2.ho rfl hcl2 (by omega) hA2.hB ?_
        intro v2 w4 ho4 hb4 hg4
        obtain ⟨A4, cap4, rfl, hox4⟩ := ho4.slice
        generalize hm4 : (xs ++ [y]).length = m4 at *
        have HM4 := Lib.hid hm4
        clear hm4
        have c4 : w4.cell? ⟨w1.heap.size, 0, none⟩ = some v := (hA2.hb.below hb4 hA2.lt).cell 0
        have f4 : w4.frozen? ⟨w1.heap.size, 0, none⟩ = false := (hA2.hb.below hb4 hA2.lt).frozen 0
        have p4 : w4.cell? ⟨w.heap.size, 3, none⟩ = some (.int .u64 (reads : Int)) := (hA2.hp.below hb4 (by have := hA2.ltp; omega)).cell 3
        have HF := Lib.hid (hA2.put hb4 ho4)
        clear hcl2 hA2 hg4 hox4 ho4 hb4
        refine hK.out _ _ p4 (fun hHeld => ?_)
        clear hK K
        try simp only [List.getElem_toArray, List.getElem_cons_succ, List.getElem_cons_zero, Act.put, List.setIfInBounds_toArray, List.set_cons_zero, List.set_cons_succ]
        refine wpAnyH_ready (rs := [9]) (by kernel_rfl) (by simp) ?_
        refine AllReadyH.cons rfl (fun K hK => ?_) AllReadyH.nil
        go_simp
        refine hK.out _ _ (HF.out.hp.cell 3) (fun hHeld => ?_)
        clear hK K
        try simp only [List.getElem_toArray, List.getElem_cons_succ, List.getElem_cons_zero, Act.put, List.setIfInBounds_toArray, List.set_cons_zero, List.set_cons_succ]
        refine wpAnyH_done (by kernel_rfl) ?_ _
        go_wp2_with fail
        go_roundw
        case rel => exact ⟨(j : Int) - 1, _, _, by omega, by omega, by go_num, HF.out, by rw [List.length_append, List.length_singleton]; omega⟩
        case measure => simp [intOf] <;> omega
    · obtain rfl : i = -1 := by omega
      have p0 : wr.cell? ⟨w.heap.size, 0, none⟩ = some (.slice AS l.length cS) := hW.hp.cell 0
      clear hW
      go_wp2_with fail
      refine (write1_wb HW.out (n := l.length) (by omega) (by omega)).mono ?_
      rintro e wc ⟨vc, xc, rfl, hc, lc⟩
      have p0 : wc.cell? ⟨w.heap.size, 0, none⟩ = some (.slice AS l.length cS) := hc.hp.cell 0
      have HC := Lib.hid hc
      have LC := Lib.hid (show xc.length ≤ 20 by omega)
      clear hc lc HW
      go_wp2_with fail
      go_loopw [44] (fun v44 wr => ∃ (i : Nat) (v : Value) (xs : List UInt8), i ≤ l.length ∧ v44 = .int .i64 (i : Int) ∧ WB wr w w1.heap.size (w1.heap.size + 1) [.slice AS l.length cS, .int .i64 (regs : Int), .int .i64 (outs : Int), .int .u64 (reads : Int)] v xs ∧ xs.length ≤ 20 + 4 * i) (fun v44 _ => l.length - (intOf v44).toNat)
      case atStart => exact ⟨0, vc, xc, by omega, rfl, HC.out, LC.out⟩
      case round =>
        obtain ⟨i, v, xs, hi, rfl, hW, hlx⟩ := hrel
        clear HC LC
        have HW := Lib.hid hW
        by_cases hlt : i < l.length
        · obtain ⟨g, o, rfl, hg, hcs⟩ := (hl.below hW.low) (by omega)
          obtain ⟨s, hs⟩ : ∃ s, l[i]? = some s := ⟨l[i], List.getElem?_eq_getElem hlt⟩
          obtain ⟨s0, s1, s2, s3⟩ := hcs i s hs
          have hsl : s ∈ l := List.mem_of_getElem? hs
          obtain ⟨y, hy⟩ := byte_at (m := s.k) (hrange s hsl)
          have hal := hall s hsl
          rw [hy] at s0 hal
          have HALL := Lib.hid hal
          have i0 : (0 : Int) ≤ (i : Int) := by omega
          have i1 : (i : Int) < (l.length : Int) := by omega
          have hST := Row.new wr [.int .u8 (y.toNat : Int), .int .i64 (s.D : Int), .int .i64 (s.S : Int), .int .u8 (s.C.toNat : Int)] 59
          have hA := hW.alloc (.cells #[.int .u8 (y.toNat : Int), .int .i64 (s.D : Int), .int .i64 (s.S : Int), .int .u8 (s.C.toNat : Int)] 59)
          have b0 : (wr.alloc (.cells #[.int .u8 (y.toNat : Int), .int .i64 (s.D : Int), .int .i64 (s.S : Int), .int .u8 (s.C.toNat : Int)] 59)).cell? ⟨w1.heap.size, 0, none⟩ = some v := hA.hb.cell 0
          have t0 : (wr.alloc (.cells #[.int .u8 (y.toNat : Int), .int .i64 (s.D : Int), .int .i64 (s.S : Int), .int .u8 (s.C.toNat : Int)] 59)).cell? ⟨wr.heap.size, 0, none⟩ = some (.int .u8 (y.toNat : Int)) := hST.cell 0
          have HA := Lib.hid hA
          have HST := Lib.hid hST
          have hvo : v.ownBlock ≠ some wr.heap.size := fun e => by have := (World.ownsRow.lt hW.ho wr.heap.size e).2; omega
          clear hcs hs hW hy hal hall hA hST
          have HAB := Lib.hid (HA.out.alloc (.cells #[.int .u8 (y.toNat : Int)] 5))
          have HRD := Lib.hid (show Rd ((wr.alloc (.cells #[.int .u8 (y.toNat : Int), .int .i64 (s.D : Int), .int .i64 (s.S : Int), .int .u8 (s.C.toNat : Int)] 59)).alloc (.cells #[.int .u8 (y.toNat : Int)] 5)) _ (some ⟨wr.heap.size + 1, 0, none⟩) 1 (bVs [y]) from by have h := rd_one (wr.alloc (.cells #[.int .u8 (y.toNat : Int), .int .i64 (s.D : Int), .int .i64 (s.S : Int), .int .u8 (s.C.toNat : Int)] 59)) y; simpa using h)
          have HSTB := Lib.hid (HST.out.alloc (.cells #[.int .u8 (y.toNat : Int)] 5))
          go_wp2_with (at_builtin; go_loud (refine wpList_append_rd (.tmp 48) (.tmp 51) rfl rfl (w1.heap.size + 1) v xs [y] rfl HAB.out.ho _ (some ⟨wr.heap.size + 1, 0, none⟩) 1 1 rfl HRD.out (by omega) HAB.out.hB ?_); intro v2 w2 ho2 hg2 hat2; obtain ⟨A2, cap2, rfl, hox2⟩ := ho2.slice; generalize hm2 : (xs ++ [y]).length = m2 at *; have HM2 := Lib.hid hm2; clear hm2; have hb2 := Lib.hid (grown_below (B := w1.heap.size + 1) hg2 HAB.out.hB (fun k hk => (World.ownsRow.lt HAB.out.ho k hk).1)); have b2 : w2.cell? ⟨w1.heap.size, 0, none⟩ = some v := (HAB.out.hb.below hb2.out HAB.out.lt).cell 0; have f2 : w2.frozen? ⟨w1.heap.size, 0, none⟩ = false := (HAB.out.hb.below hb2.out HAB.out.lt).frozen 0; have HW2 := Lib.hid (HAB.out.put hb2.out ho2); have HST2 := Lib.hid (show Row w2 wr.heap.size 59 _ from (hg2.block wr.heap.size HSTB.out.lt (Ne.symm hvo)).trans HSTB.out); have hne3 : wr.heap.size ≠ w1.heap.size := (by have := HAB.out.lt; have := HW.out.hB; omega); have HS3 := Lib.hid (HST2.out.far (p := ⟨w1.heap.size, 0, none⟩) hne3 (.slice A2 m2 cap2)); have q0 : (w2.setCell ⟨w1.heap.size, 0, none⟩ (.slice A2 m2 cap2)).cell? ⟨wr.heap.size, 0, none⟩ = some (.int .u8 (y.toNat : Int)) := HS3.out.cell 0; have q1 : (w2.setCell ⟨w1.heap.size, 0, none⟩ (.slice A2 m2 cap2)).cell? ⟨wr.heap.size, 1, none⟩ = some (.int .i64 (s.D : Int)) := HS3.out.cell 1; have q2 : (w2.setCell ⟨w1.heap.size, 0, none⟩ (.slice A2 m2 cap2)).cell? ⟨wr.heap.size, 2, none⟩ = some (.int .i64 (s.S : Int)) := HS3.out.cell 2; have q3 : (w2.setCell ⟨w1.heap.size, 0, none⟩ (.slice A2 m2 cap2)).cell? ⟨wr.heap.size, 3, none⟩ = some (.int .u8 (s.C.toNat : Int)) := HS3.out.cell 3)
          refine (HALL.out _).mono ?_
          rintro e w4 ⟨A4, m4, c4, rfl, hI, hb4⟩
          have HW4 := Lib.hid (HW2.out.step (Chg3.of_below (hb4.mono HW2.out.hB)) (HW2.out.hb.below hb4 HW2.out.hb.lt) (HW2.out.ho.below hb4))
          have HI := Lib.hid hI
          have lm4 : m4 ≤ 3 := hI.1
          have hv4 : ∀ g, A4 = some ⟨g, 0, none⟩ → 0 < m4 → (Value.slice A2 m2 cap2).ownBlock ≠ some g := by
            intro g4 hg4 hm e4
            obtain ⟨g5, e5, h5, _⟩ := hI.2 hm
            rw [hg4] at e5
            simp only [Option.some.injEq, Addr.mk.injEq, and_true] at e5
            subst e5
            have := (World.ownsRow.lt HW2.out.ho g4 e4).2
            omega
          clear q0 q1 q2 q3 b2 f2 hI hb4
          go_wp2_with fail
          have hI2 : ∀ g4, A4 = some ⟨g4, 0, none⟩ → 0 < m4 → g4 < w4.heap.size ∧ ∀ q, q < m4 → ∃ z : Int, w4.cell? ⟨g4, q, none⟩ = some (.int .i64 z) := by
            intro g4 hg4 hm
            obtain ⟨g5, e5, _, h5, h6⟩ := HI.out.2 hm
            rw [hg4] at e5
            simp only [Option.some.injEq, Addr.mk.injEq, and_true] at e5
            subst e5
            exact ⟨h5, h6⟩
          have HI2 := Lib.hid hI2
          have HV4 := Lib.hid hv4
          clear hI2 hv4
          go_loopw [56] (fun v56 wr => ∃ (j : Nat) (v : Value) (ys : List UInt8), j ≤ m4 ∧ v56 = .int .i64 (j : Int) ∧ WB wr w w1.heap.size (w1.heap.size + 1) [.slice (some ⟨g, o, none⟩) l.length cS, .int .i64 (regs : Int), .int .i64 (outs : Int), .int .u64 (reads : Int)] v ys ∧ ys.length ≤ xs.length + 1 + j ∧ (∀ g4, A4 = some ⟨g4, 0, none⟩ → 0 < m4 → v.ownBlock ≠ some g4 ∧ g4 < wr.heap.size ∧ ∀ q, q < m4 → ∃ z : Int, wr.cell? ⟨g4, q, none⟩ = some (.int .i64 z))) (fun v56 _ => m4 - (intOf v56).toNat)
          case atStart => exact ⟨0, _, _, by omega, rfl, HW4.out, by rw [List.length_append, List.length_singleton]; omega, fun g4 h1 h2 => ⟨HV4.out g4 h1 h2, HI2.out g4 h1 h2⟩⟩
          case round =>
            obtain ⟨j, v3, ys, hj, rfl, hW, hly, hin⟩ := hrel
            clear HW4 HI2 HV4
            by_cases hjm : j < m4
            · obtain ⟨g4, rfl, hge, _⟩ := HI.out.2 (by omega)
              have HGE := Lib.hid (show w1.heap.size + 1 ≤ g4 from Nat.le_trans HW2.out.hB hge)
              clear hge
              obtain ⟨n1, n2, n3⟩ := hin g4 rfl (by omega)
              obtain ⟨z, hz⟩ := n3 j hjm
              obtain ⟨y2, hy2⟩ := byte_wrap z
              have j0 : (0 : Int) ≤ (j : Int) := by omega
              have j1 : (j : Int) < (m4 : Int) := by omega
              have b0 : wr.cell? ⟨w1.heap.size, 0, none⟩ = some v3 := hW.hb.cell 0
              have HAB := Lib.hid (hW.alloc (.cells #[.int .u8 (y2.toNat : Int)] 5))
              have HRD := Lib.hid (rd_one wr y2)
              have HIN := Lib.hid n3
              have HWR := Lib.hid hW
              have hsz : (wr.alloc (.cells #[.int .u8 (y2.toNat : Int)] 5)).heap.size = wr.heap.size + 1 := by simp
              have HSZ := Lib.hid hsz
              clear hin hW n3 hsz
              go_wp2_with (at_builtin; go_loud (refine wpList_append_rd (.tmp 60) (.tmp 63) rfl rfl (w1.heap.size + 1) v3 ys [y2] rfl HAB.out.ho _ (some ⟨wr.heap.size, 0, none⟩) 1 1 rfl HRD.out (by omega) HAB.out.hB ?_); intro v5 w5 ho5 hg5 hat5; obtain ⟨A5, cap5, rfl, hox5⟩ := ho5.slice; generalize hm5 : (ys ++ [y2]).length = m5 at *; have HM5 := Lib.hid hm5; clear hm5; have hb5 := Lib.hid (grown_below (B := w1.heap.size + 1) hg5 HAB.out.hB (fun k hk => (World.ownsRow.lt HAB.out.ho k hk).1)); have b5 : w5.cell? ⟨w1.heap.size, 0, none⟩ = some v3 := (HAB.out.hb.below hb5.out HAB.out.lt).cell 0; have f5 : w5.frozen? ⟨w1.heap.size, 0, none⟩ = false := (HAB.out.hb.below hb5.out HAB.out.lt).frozen 0; have HW5 := Lib.hid (HAB.out.put hb5.out ho5); have HG5 := Lib.hid hg5; have HAT5 := Lib.hid hat5; clear hg5 hat5)
              go_roundw
              case rel =>
                refine ⟨j + 1, _, _, by omega, by go_num, HW5.out, by have := HM5.out; rw [List.length_append, List.length_singleton] at this ⊢; omega, fun g6 h1 _ => ?_⟩
                simp only [Option.some.injEq, Addr.mk.injEq, and_true] at h1
                subst h1
                have hs1 := HSZ.out
                refine ⟨?_, ?_, fun q hq => ?_⟩
                · rcases HAT5.out with h | h
                  · rw [h]; exact n1
                  · rw [h, hs1]; intro e; injection e with e; omega
                · have := HG5.out.size; simp; omega
                · obtain ⟨zq, hzq⟩ := HIN.out q hq
                  refine ⟨zq, ?_⟩
                  have hge := HGE.out
                  have e1 : w5.heap[g4]? = wr.heap[g4]? := (HG5.out.block g4 (by rw [hs1]; omega) (Ne.symm n1)).trans (Below.heap_alloc wr _ g4 n2)
                  exact (World.cell?_setCell_other w5 ⟨w1.heap.size, 0, none⟩ ⟨g4, q, none⟩ _ (by intro e; injection e with e; omega)).trans ((World.cell?_of_block (a := ⟨g4, q, none⟩) e1).trans hzq)
              case measure => simp [intOf] <;> omega
            · have HIN := Lib.hid hin
              have HWR := Lib.hid hW
              clear hin hW
              go_wp2_with fail
              go_roundw
              case rel => exact ⟨i + 1, v3, ys, by omega, by go_num, HWR.out, by omega⟩
              case measure => simp [intOf] <;> omega
        · have b0 : wr.cell? ⟨w1.heap.size, 0, none⟩ = some v := hW.hb.cell 0
          have hlow := hW.low
          obtain ⟨A2, cap2, rfl, hox2⟩ := hW.ho.slice
          clear hW
          go_wp2_with fail
          go_ret2
          exact ⟨_, rfl, hlow⟩
end Go.Proofs.Ythbjcafldbocpaa
namespace Go.Proofs.Ythbjcafldbocpaa
open Go.RowKit
set_option linter.unusedVariables false
set_option linter.unusedSimpArgs false

theorem ofInt_i64 (a : Nat) (ha : a < 9223372036854775808) : (BitVec.ofInt 64 (a : Int)).toNat = a := by
  rw [BitVec.ofInt_natCast, BitVec.toNat_ofNat]; exact Nat.mod_eq_of_lt (by omega)
theorem i64_and_nat (a b : Nat) (ha : a < 9223372036854775808) (hb : b < 9223372036854775808) : bits .and .i64 (a : Int) (b : Int) = ((a &&& b : Nat) : Int) := by
  have hx : a &&& b < 2 ^ 63 := Nat.and_lt_two_pow _ (by omega)
  show IntKind.i64.wrap ((BitVec.ofInt 64 (a : Int) &&& BitVec.ofInt 64 (b : Int)).toNat : Int) = _
  rw [BitVec.toNat_and, ofInt_i64 a ha, ofInt_i64 b hb, IntKind.wrap_i64]
  omega
theorem i64_xor_nat (a b : Nat) (ha : a < 9223372036854775808) (hb : b < 9223372036854775808) : bits .xor .i64 (a : Int) (b : Int) = ((a ^^^ b : Nat) : Int) := by
  have hx : a ^^^ b < 2 ^ 63 := Nat.xor_lt_two_pow (by omega) (by omega)
  show IntKind.i64.wrap ((BitVec.ofInt 64 (a : Int) ^^^ BitVec.ofInt 64 (b : Int)).toNat : Int) = _
  rw [BitVec.toNat_xor, ofInt_i64 a ha, ofInt_i64 b hb, IntKind.wrap_i64]
  omega
theorem testb_u8 (b : UInt8) (i : Nat) : (bits BinOp.and IntKind.u8 ((b.toNat : Int) / 2 ^ i) 1 == 1) = b.toNat.testBit i := by
  have e : ((b.toNat : Int) / 2 ^ i) = ((b.toNat / 2 ^ i : Nat) : Int) := by simp
  have hb : b.toNat / 2 ^ i < 256 := Nat.lt_of_le_of_lt (Nat.div_le_self _ _) b.toNat_lt
  rw [e, show (1 : Int) = ((1 : Nat) : Int) from rfl, u8_and_nat _ _ hb (by decide), Nat.and_one_is_mod, Nat.testBit_eq_decide_div_mod_eq, Bool.eq_iff_iff]
  simp
  omega
theorem testb_i64 (p i : Nat) (hp : p < 2 ^ 15) : (bits BinOp.and IntKind.i64 ((p : Int) / 2 ^ i) 1 == 1) = p.testBit i := by
  have e : ((p : Int) / 2 ^ i) = ((p / 2 ^ i : Nat) : Int) := by simp
  have hb : p / 2 ^ i < 2 ^ 15 := Nat.lt_of_le_of_lt (Nat.div_le_self _ _) hp
  rw [e, show (1 : Int) = ((1 : Nat) : Int) from rfl, i64_and_nat _ _ (by omega) (by decide), Nat.and_one_is_mod, Nat.testBit_eq_decide_div_mod_eq, Bool.eq_iff_iff]
  simp
  omega
theorem shl_i64 (a i : Nat) (ha : a < 512) (hi : i < 8) : wrap64 (wrap64 (a : Int) * 2 ^ i) = ((a <<< i : Nat) : Int) := by
  have h1 : wrap64 (a : Int) = a := by unfold wrap64; omega
  have h2 : a * 2 ^ i ≤ 512 * 2 ^ 7 := Nat.mul_le_mul (by omega) (Nat.pow_le_pow_right (by omega) (by omega))
  have e : (a : Int) * 2 ^ i = ((a * 2 ^ i : Nat) : Int) := by simp
  rw [h1, Nat.shiftLeft_eq, e]
  unfold wrap64
  omega
theorem i64_eq {a b : Int} (h : a = b) : Value.int .i64 a = .int .i64 b := by rw [h]

theorem ref_step1 (a b : UInt8) (i : Nat) (hi : i < 8) (h : (bits BinOp.and IntKind.u8 ((b.toNat : Int) / 2 ^ i) 1 == 1) = true) :
    bits BinOp.xor IntKind.i64 (Gf.sumTo a.toNat b.toNat i : Int) (wrap64 (wrap64 (a.toNat : Int) * 2 ^ i)) = (Gf.sumTo a.toNat b.toNat (i + 1) : Int) := by
  rw [testb_u8] at h
  have h1 := Gf.sumTo_lt a.toNat b.toNat a.toNat_lt i (by omega)
  have ha := a.toNat_lt
  have h2 : a.toNat <<< i < 2 ^ 16 := by
    rw [Nat.shiftLeft_eq]
    have : a.toNat * 2 ^ i ≤ 255 * 2 ^ 7 := Nat.mul_le_mul (by omega) (Nat.pow_le_pow_right (by omega) (by omega))
    omega
  rw [shl_i64 _ _ (by omega) hi, i64_xor_nat _ _ (by omega) (by omega)]
  simp only [Gf.sumTo, h, if_true]
theorem ref_step0 (a b : UInt8) (i : Nat) (h : (bits BinOp.and IntKind.u8 ((b.toNat : Int) / 2 ^ i) 1 == 1) = false) :
    (Gf.sumTo a.toNat b.toNat i : Int) = (Gf.sumTo a.toNat b.toNat (i + 1) : Int) := by
  rw [testb_u8] at h
  simp [Gf.sumTo, h]
theorem ref_red1 (p i : Nat) (hp : p < 2 ^ 15) (h8 : 8 ≤ i) (hi : i ≤ 14) (h : (bits BinOp.and IntKind.i64 ((p : Int) / 2 ^ i) 1 == 1) = true) :
    bits BinOp.xor IntKind.i64 (p : Int) (wrap64 (285 * 2 ^ (i - 8))) = (Gf.redBit p i : Int) := by
  rw [testb_i64 _ _ hp] at h
  have e := shl_i64 285 (i - 8) (by omega) (by omega)
  have e1 : wrap64 ((285 : Nat) : Int) = 285 := by unfold wrap64; omega
  rw [e1] at e
  have h2 : 285 <<< (i - 8) < 2 ^ 16 := by
    rw [Nat.shiftLeft_eq]
    have : 285 * 2 ^ (i - 8) ≤ 285 * 2 ^ 6 := Nat.mul_le_mul (Nat.le_refl _) (Nat.pow_le_pow_right (by omega) (by omega))
    omega
  rw [e, i64_xor_nat _ _ (by omega) (by omega)]
  simp only [Gf.redBit, h, if_true]
theorem ref_red0 (p i : Nat) (hp : p < 2 ^ 15) (h : (bits BinOp.and IntKind.i64 ((p : Int) / 2 ^ i) 1 == 1) = false) : (p : Int) = (Gf.redBit p i : Int) := by
  rw [testb_i64 _ _ hp] at h
  simp [Gf.redBit, h]

set_option maxHeartbeats 400000 in
theorem refMul_calls (a b : UInt8) (w : World) :
    Calls Try.prog 47 #[.int .u8 (a.toNat : Int), .int .u8 (b.toNat : Int)] w fun e w' => e = .returned (.int .u8 ((Gf.mul a b).toNat : Int)) ∧ w = w' := by
  go_enter Try.func47, Try.ntmps47
  go_wp2_with fail
  go_loop [5, 6] (fun v5 v6 => ∃ i : Nat, i ≤ 8 ∧ v5 = .int .i64 (Gf.sumTo a.toNat b.toNat i : Int) ∧ v6 = .int .i64 (i : Int)) (fun _ v6 => 8 - (intOf v6).toNat)
  case atStart => exact ⟨0, by omega, rfl, rfl⟩
  case round =>
    obtain ⟨i, hi, rfl, rfl⟩ := hrel
    by_cases hlt : i < 8
    · go_wp2_with fail
      · go_round
        case rel => exact ⟨i + 1, by omega, i64_eq (ref_step1 a b i hlt ‹_›), by go_num⟩
        case measure => simp [intOf]; omega
      · go_round
        case rel => exact ⟨i + 1, by omega, i64_eq (ref_step0 a b i ‹_›), by go_num⟩
        case measure => simp [intOf]; omega
    · obtain rfl : i = 8 := by omega
      have HL := Gf.sumTo_lt a.toNat b.toNat a.toNat_lt 8 (by omega)
      have HM := Lib.hid (Gf.ref_mul a b)
      generalize Gf.sumTo a.toNat b.toNat 8 = s at *
      go_wp2_with fail
      go_loop [5, 7] (fun v5 v7 => ∃ (p n : Nat), n ≤ 7 ∧ p < 2 ^ 15 ∧ v5 = .int .i64 (p : Int) ∧ v7 = .int .i64 ((n + 7 : Nat) : Int) ∧ Hid (Gf.redFrom n p = Gf.redN s)) (fun _ v7 => (intOf v7).toNat)
      case atStart => exact ⟨s, 7, by omega, HL, rfl, rfl, rfl⟩
      case round =>
        obtain ⟨p, n, hn, hp, rfl, rfl, H⟩ := hrel
        by_cases hlt : 1 ≤ n
        · obtain ⟨m, rfl⟩ : ∃ m, n = m + 1 := ⟨n - 1, by omega⟩
          have hm : m + 1 + 7 = m + 8 := by omega
          rw [hm]
          go_wp2_with fail
          · go_round
            case rel => exact ⟨Gf.redBit p (m + 8), m, by omega, Gf.redBit_lt _ _ (by omega) hp, i64_eq (ref_red1 p (m + 8) hp (by omega) (by omega) ‹_›), by go_num, H⟩
            case measure => simp [intOf]; omega
          · go_round
            case rel => exact ⟨Gf.redBit p (m + 8), m, by omega, Gf.redBit_lt _ _ (by omega) hp, i64_eq (ref_red0 p (m + 8) hp ‹_›), by go_num, H⟩
            case measure => simp [intOf]; omega
        · obtain rfl : n = 0 := by omega
          go_wp2_with fail
          go_ret
          have h := H.out
          rw [HM.out] at h
          simp only [Gf.redFrom] at h
          have hl := (Gf.mul a b).toNat_lt
          exact ⟨ret_u8 (by omega), rfl⟩

end Go.Proofs.Ythbjcafldbocpaa
namespace Go.Proofs.Ythbjcafldbocpaa
open Go.RowKit Go.Proofs.YthbjcafldbocpaaW.PrintWords
set_option linter.unusedVariables false
set_option linter.unusedSimpArgs false

def recoupref01_Mul.f (a b : Int) : Option Int := if (byteB a && byteB b) = true then some ((Gf.mul (toU a) (toU b)).toNat : Int) else none
theorem recoupref01_Mul.calls (a0 : Int) (a1 : Int) (r : Int) (w : World)  (h : recoupref01_Mul.f a0 a1 = some r) :
    Calls Try.prog 47 #[.int .u8 a0, .int .u8 a1] w fun e w' => e = .returned (.int .u8 r) ∧ Drawn0 w w' := by
  unfold recoupref01_Mul.f at h
  split at h
  · rename_i hi
    rw [Bool.and_eq_true] at hi
    obtain rfl := Option.some.inj h
    have hc := refMul_calls (toU a0) (toU a1) w
    rw [toU_of hi.1, toU_of hi.2] at hc
    refine hc.mono ?_
    rintro e w' ⟨rfl, rfl⟩
    exact ⟨rfl, 0, rfl⟩
  · cases h
end Go.Proofs.Ythbjcafldbocpaa
namespace Go.Proofs.Ythbjcafldbocpaa
open Go.RowKit
set_option linter.unusedVariables false
set_option linter.unusedSimpArgs false

def RdT (w : World) (A : Option Addr) (xs : List UInt8) : Prop :=
  0 < xs.length → ∃ g o cells, A = some ⟨g, o, none⟩ ∧ w.heap[g]? = some (Obj.cells cells 5 (0, 0)) ∧ ∀ j, j < xs.length → cells[o + j]? = some (.int .u8 ((xs.getD j 0).toNat : Int))
section
variable {w w' : World} {A : Option Addr} {xs : List UInt8}
theorem heap_lt {w : World} {g : Nat} {o : Obj} (h : w.heap[g]? = some o) : g < w.heap.size := by
  rcases Nat.lt_or_ge g w.heap.size with hlt | hge
  · exact hlt
  · rw [Array.getElem?_eq_none hge] at h; cases h
theorem RdT.nil (w : World) (A : Option Addr) : RdT w A [] := fun h => absurd h (by simp)
theorem RdT.rd (h : RdT w A xs) : Rd w w.heap.size A xs.length (bVs xs) := by
  refine ⟨bVs_length xs, fun hn => ?_⟩
  obtain ⟨g, o, cells, rfl, hb, hc⟩ := h hn
  refine ⟨g, o, rfl, heap_lt hb, fun j u hu => ?_⟩
  have hj : j < xs.length := by
    rcases Nat.lt_or_ge j xs.length with hlt | hge
    · exact hlt
    · rw [List.getElem?_eq_none (by rw [bVs_length]; exact hge)] at hu; cases hu
  rw [cell_of_row w g (o + j) cells 5 (0, 0) hb, hc j hj, ← hu, bVs_get xs j hj]
  simp [List.getD, hj]
theorem RdT.keep (h : RdT w A xs) (hk : ∀ (g : Nat) (cells : Array Value), w.heap[g]? = some (Obj.cells cells 5 (0, 0)) → w'.heap[g]? = w.heap[g]?) : RdT w' A xs := by
  intro hn
  obtain ⟨g, o, cells, e, hb, hc⟩ := h hn
  exact ⟨g, o, cells, e, (hk g cells hb).trans hb, hc⟩
theorem RdT.below (h : RdT w A xs) (hb : Below w.heap.size w w') : RdT w' A xs := h.keep fun g cells hg => hb.block g (heap_lt hg)
theorem RdT.grown (h : RdT w A xs) {g' : Nat} (hg : w.grownBy w' (some g')) {t : TypeId} {ys : List Value} (hr : Row w g' t ys) (ht : t ≠ 5) : RdT w' A xs :=
  h.keep fun g cells hb => hg.block g (heap_lt hb) (by
    intro e
    injection e with e
    subst e
    unfold Row at hr
    rw [hb] at hr
    injection hr with hr
    injection hr with _ e2
    exact ht e2.symm)
theorem RdT.set (h : RdT w A xs) {p : Addr} {t : TypeId} {ys : List Value} (hr : Row w p.block t ys) (ht : t ≠ 5) (u : Value) : RdT (w.setCell p u) A xs :=
  h.keep fun g cells hb => Below.heap_setCell w p u g (by
    rintro rfl
    unfold Row at hr
    rw [hb] at hr
    injection hr with hr
    injection hr with _ e2
    exact ht e2.symm)
theorem RdT.of_own {base n cap : Nat} (h : OwnB w base A n cap xs) : RdT w A xs := by
  intro hn
  rcases h.2.2 with ⟨_, h0⟩ | ⟨g, c, cur, hv, hg, hh, h1, h2, h3, h4⟩
  · have := h.1; omega
  · simp only [Value.slice.injEq] at hv
    obtain ⟨rfl, _, _⟩ := hv
    refine ⟨g, 0, cur, rfl, hh, fun j hj => ?_⟩
    have e : (bVs xs)[j]? = some (.int .u8 ((xs[j]).toNat : Int)) := bVs_get xs j hj
    rw [Nat.zero_add]
    have h5 : cur[j]? = (bVs xs)[j]? := by
      rw [← h4, List.getElem?_take, if_pos (by have := h.1; omega), Array.getElem?_toList]
    rw [h5, e]
    simp [List.getD, hj]
end
def Lst (w : World) (A : Option Addr) (n c : Nat) (L : List (List UInt8)) : Prop :=
  L.length = n ∧ (∀ i, i < n → (L.getD i []).length = c) ∧ (0 < n → ∃ g lv, A = some ⟨g, 0, none⟩ ∧ Row w g 35 lv ∧ n ≤ lv.length ∧ ∀ i, i < n → ∃ Ai ci, lv[i]? = some (.slice Ai c ci) ∧ c ≤ ci ∧ RdT w Ai (L.getD i []))
section
variable {w w' : World} {A : Option Addr} {n c : Nat} {L : List (List UInt8)}
theorem Lst.at_ (h : Lst w A n c L) {i : Nat} (hi : i < n) : ∃ g Ai ci, A = some ⟨g, 0, none⟩ ∧ g < w.heap.size ∧ w.cell? ⟨g, i, none⟩ = some (.slice Ai c ci) ∧ w.frozen? ⟨g, i, none⟩ = false ∧ c ≤ ci ∧ RdT w Ai (L.getD i []) := by
  obtain ⟨g, lv, e, hr, hl, hc⟩ := h.2.2 (by omega)
  obtain ⟨Ai, ci, h1, h2, h3⟩ := hc i hi
  exact ⟨g, Ai, ci, e, hr.lt, by rw [hr.cell, h1], hr.frozen i, h2, h3⟩
theorem Lst.row (h : Lst w A n c L) (hn : 0 < n) : ∃ g lv, A = some ⟨g, 0, none⟩ ∧ Row w g 35 lv := by
  obtain ⟨g, lv, e, hr, _⟩ := h.2.2 hn
  exact ⟨g, lv, e, hr⟩
theorem Lst.keep (h : Lst w A n c L) (h1 : ∀ (g : Nat) (cells : Array Value), w.heap[g]? = some (Obj.cells cells 5 (0, 0)) → w'.heap[g]? = w.heap[g]?) (h2 : ∀ g : Nat, A = some ⟨g, 0, none⟩ → w'.heap[g]? = w.heap[g]?) : Lst w' A n c L := by
  refine ⟨h.1, h.2.1, fun hn => ?_⟩
  obtain ⟨g, lv, e, hr, hl, hc⟩ := h.2.2 hn
  refine ⟨g, lv, e, hr.of_block (h2 g e), hl, fun i hi => ?_⟩
  obtain ⟨Ai, ci, q1, q2, q3⟩ := hc i hi
  exact ⟨Ai, ci, q1, q2, q3.keep h1⟩
theorem Lst.below (h : Lst w A n c L) (hb : Below w.heap.size w w') : Lst w' A n c L := by
  refine ⟨h.1, h.2.1, fun hn => ?_⟩
  obtain ⟨g, lv, e, hr, hl, hc⟩ := h.2.2 hn
  refine ⟨g, lv, e, hr.below hb hr.lt, hl, fun i hi => ?_⟩
  obtain ⟨Ai, ci, q1, q2, q3⟩ := hc i hi
  exact ⟨Ai, ci, q1, q2, q3.below hb⟩
theorem Lst.drewN (h : Lst w A n c L) (k : Nat) : Lst (w.drewN k) A n c L := h
theorem Lst.drew (h : Lst w A n c L) : Lst w.drew A n c L := h
theorem Lst.far (h : Lst w A n c L) {p : Addr} {t : TypeId} {ys : List Value} (hr : Row w p.block t ys) (ht : t ≠ 5) (hA : A ≠ some ⟨p.block, 0, none⟩) (u : Value) : Lst (w.setCell p u) A n c L := by
  refine h.keep (fun g cells hb => Below.heap_setCell w p u g ?_) (fun g e => Below.heap_setCell w p u g ?_)
  · rintro rfl
    unfold Row at hr
    rw [hb] at hr
    injection hr with hr
    injection hr with _ e2
    exact ht e2.symm
  · rintro rfl
    exact hA e
theorem Lst.grown (h : Lst w A n c L) {g' : Nat} (hg : w.grownBy w' (some g')) {t : TypeId} {ys : List Value} (hr : Row w g' t ys) (ht : t ≠ 5) (hA : A ≠ some ⟨g', 0, none⟩) : Lst w' A n c L := by
  refine ⟨h.1, h.2.1, fun hn => ?_⟩
  obtain ⟨g, lv, e, hr2, hl, hc⟩ := h.2.2 hn
  refine ⟨g, lv, e, hr2.of_block (hg.block g hr2.lt (fun e2 => by injection e2 with e2; subst e2; exact hA e)), hl, fun i hi => ?_⟩
  obtain ⟨Ai, ci, q1, q2, q3⟩ := hc i hi
  exact ⟨Ai, ci, q1, q2, q3.grown hg hr ht⟩
theorem set_getD {L : List (List UInt8)} {i j : Nat} {x : List UInt8} (h : i < L.length) : (L.set i x).getD j [] = if j = i then x else L.getD j [] := by
  rw [List.getD_eq_getElem?_getD, List.getD_eq_getElem?_getD, List.getElem?_set]
  by_cases e : i = j
  · rw [if_pos e, if_pos h, if_pos e.symm]; rfl
  · rw [if_neg e, if_neg (fun h2 => e h2.symm)]
theorem Lst.store (h : Lst w A n c L) {i : Nat} (hi : i < n) {g : Nat} (hA : A = some ⟨g, 0, none⟩) {A' : Option Addr} {c' : Nat} {x : List UInt8} (hx : x.length = c) (hc' : c ≤ c') (hr : RdT w A' x) : Lst (w.setCell ⟨g, i, none⟩ (.slice A' c c')) A n c (L.set i x) := by
  obtain ⟨g2, lv, e, hrow, hl, hc⟩ := h.2.2 (by omega)
  rw [hA] at e
  simp only [Option.some.injEq, Addr.mk.injEq, and_true] at e
  subst e
  have hne : (35 : TypeId) ≠ 5 := by decide
  refine ⟨by rw [List.length_set]; exact h.1, fun j hj => ?_, fun _ => ⟨g, lv.set i (.slice A' c c'), hA, hrow.set i _, by rw [List.length_set]; exact hl, fun j hj => ?_⟩⟩
  · rw [set_getD (by rw [h.1]; exact hi)]
    split
    · exact hx
    · exact h.2.1 j hj
  · rw [set_getD (by rw [h.1]; exact hi), List.getElem?_set]
    by_cases e : i = j
    · rw [if_pos e, if_pos (by omega), if_pos e.symm]
      exact ⟨A', c', rfl, hc', hr.set hrow hne _⟩
    · obtain ⟨Ai, ci, q1, q2, q3⟩ := hc j hj
      rw [if_neg e, if_neg (fun h2 => e h2.symm)]
      exact ⟨Ai, ci, q1, q2, q3.set hrow hne _⟩
end
end Go.Proofs.Ythbjcafldbocpaa
namespace Go.Proofs.Ythbjcafldbocpaa
open Go.RowKit
set_option linter.unusedVariables false
set_option linter.unusedSimpArgs false
def ValO (W : World) (v : Value) : Option (List UInt8) → Prop
  | none => v = .slice none 0 0
  | some l => ∃ g c, v = .slice (some ⟨g, 0, none⟩) l.length c ∧ l.length ≤ c ∧ RdT W (some ⟨g, 0, none⟩) l
theorem ValO.keep {W W' : World} {v : Value} {o : Option (List UInt8)} (h : ValO W v o) (hk : ∀ (g : Nat) (cells : Array Value), W.heap[g]? = some (Obj.cells cells 5 (0, 0)) → W'.heap[g]? = W.heap[g]?) : ValO W' v o := by
  cases o with
  | none => exact h
  | some l => obtain ⟨g, c, e, hc, hr⟩ := h; exact ⟨g, c, e, hc, hr.keep hk⟩
def Vals (W : World) (lv : List Value) (rs : List (Option (List UInt8))) : Prop := lv.length = rs.length ∧ ∀ i, i < rs.length → ValO W (lv.getD i undef) (rs.getD i none)
theorem Vals.keep {W W' : World} {lv : List Value} {rs : List (Option (List UInt8))} (h : Vals W lv rs) (hk : ∀ (g : Nat) (cells : Array Value), W.heap[g]? = some (Obj.cells cells 5 (0, 0)) → W'.heap[g]? = W.heap[g]?) : Vals W' lv rs :=
  ⟨h.1, fun i hi => (h.2 i hi).keep hk⟩
theorem Vals.set {W : World} {lv : List Value} {rs : List (Option (List UInt8))} (h : Vals W lv rs) (D : Nat) {v : Value} {l : List UInt8} (hv : ValO W v (some l)) : Vals W (lv.set D v) (rs.set D (some l)) := by
  refine ⟨by simp [h.1], fun i hi => ?_⟩
  rw [List.length_set] at hi
  rw [set_getD', set_getD', h.1]
  by_cases hc : D = i ∧ D < rs.length
  · rw [if_pos hc, if_pos hc]; exact hv
  · rw [if_neg hc, if_neg hc]; exact h.2 i hi
theorem Vals.cell {W : World} {ga : Nat} {lv : List Value} {rs : List (Option (List UInt8))} (h : Vals W lv rs) (hr : Row W ga 35 lv) {i : Nat} (hi : i < rs.length) : ∃ v, W.cell? ⟨ga, i, none⟩ = some v ∧ ValO W v (rs.getD i none) := by
  have hl : i < lv.length := by rw [h.1]; exact hi
  refine ⟨lv[i], by rw [hr.cell, List.getElem?_eq_getElem hl], ?_⟩
  have := h.2 i hi
  rwa [List.getD_eq_getElem?_getD, List.getElem?_eq_getElem hl] at this
structure DW (W : World) (gt ga gz nr no n : Nat) (st : VS) : Prop where
  ht : Row W gt 113 [.slice (some ⟨ga, 0, none⟩) nr nr, .slice (some ⟨gz, 0, none⟩) no no, .int .u64 (st.loads : Int)]
  la : ∃ lv, Row W ga 35 lv ∧ Vals W lv st.regs
  lz : ∃ lv, Row W gz 35 lv ∧ Vals W lv st.outs
  ok : st.Ok nr no n
  hl : st.loads < 2 ^ 64
  ne : ga ≠ gt ∧ gz ≠ gt ∧ gz ≠ ga
theorem row_type {W : World} {g : Nat} {t t' : TypeId} {ys : List Value} {cells : Array Value} (h : Row W g t ys) (hc : W.heap[g]? = some (Obj.cells cells t' (0, 0))) : t = t' := by
  unfold Row at h
  rw [hc] at h
  injection h with h
  injection h with _ e
  exact e.symm
theorem DW.bytes {W W' : World} {gt ga gz nr no n : Nat} {st : VS} (h : DW W gt ga gz nr no n st) (hc : Chg3 W.heap.size gt ga gz W W') : ∀ (g : Nat) (cells : Array Value), W.heap[g]? = some (Obj.cells cells 5 (0, 0)) → W'.heap[g]? = W.heap[g]? := by
  intro g cells hg
  obtain ⟨lv, hr, _⟩ := h.la
  obtain ⟨lz, hz, _⟩ := h.lz
  refine hc.block g (heap_lt hg) ?_ ?_ ?_
  · rintro rfl; exact absurd (row_type h.ht hg) (by decide)
  · rintro rfl; exact absurd (row_type hr hg) (by decide)
  · rintro rfl; exact absurd (row_type hz hg) (by decide)
theorem DW.below {W W' : World} {gt ga gz nr no n : Nat} {st : VS} (h : DW W gt ga gz nr no n st) (hb : Below W.heap.size W W') : DW W' gt ga gz nr no n st := by
  have hk : ∀ (g : Nat) (cells : Array Value), W.heap[g]? = some (Obj.cells cells 5 (0, 0)) → W'.heap[g]? = W.heap[g]? := fun g cells hg => hb.block g (heap_lt hg)
  obtain ⟨lv, hr, hv⟩ := h.la
  obtain ⟨lz, hz, hw⟩ := h.lz
  exact ⟨h.ht.below hb h.ht.lt, ⟨lv, hr.below hb hr.lt, hv.keep hk⟩, ⟨lz, hz.below hb hz.lt, hw.keep hk⟩, h.ok, h.hl, h.ne⟩
theorem RdT.of_row {W : World} {g : Nat} {l : List UInt8} (h : Row W g 5 (bVs l)) : RdT W (some ⟨g, 0, none⟩) l := by
  intro hn
  refine ⟨g, 0, _, rfl, h, fun j hj => ?_⟩
  rw [Nat.zero_add, List.getElem?_toArray, bVs_get l j hj]
  simp [List.getD, hj]
set_option maxRecDepth 100000 in
theorem inside_calls (W : World) (ga nr r : Nat) (lv : List Value) (rs : List (Option (List UInt8))) (hr : Row W ga 35 lv) (hv : Vals W lv rs) (hl : rs.length = nr) :
    Calls Try.prog 68 #[.slice (some ⟨ga, 0, none⟩) nr nr, .int .i64 (r : Int)] W fun e W' => e = .returned (.bool (rs.getD r none).isSome) ∧ W' = W := by
  by_cases hlt : r < nr
  · have h1 : decide ((r : Int) < (nr : Int)) = true := decide_eq_true (by omega)
    have i0 : (0 : Int) ≤ (r : Int) := by omega
    have i1 : (r : Int) < (nr : Int) := by omega
    obtain ⟨v, hc, ho⟩ := hv.cell hr (i := r) (by omega)
    cases hx : rs.getD r none with
    | none =>
      rw [hx] at ho
      obtain rfl : v = .slice none 0 0 := ho
      go_enter Try.func68, Try.ntmps68
      go_wp2_with fail
      go_ret
      exact ⟨rfl, rfl⟩
    | some l =>
      rw [hx] at ho
      obtain ⟨g, c, rfl, _, _⟩ := ho
      go_enter Try.func68, Try.ntmps68
      go_wp2_with fail
      go_ret
      exact ⟨rfl, rfl⟩
  · have h1 : decide ((r : Int) < (nr : Int)) = false := decide_eq_false (by omega)
    have hx : rs.getD r none = none := by rw [List.getD_eq_getElem?_getD, List.getElem?_eq_none (by omega)]; rfl
    rw [hx]
    go_enter Try.func68, Try.ntmps68
    go_wp2_with fail
    go_ret
    exact ⟨rfl, rfl⟩
theorem inside_is (W : World) (ga nr r : Nat) (lv : List Value) (rs : List (Option (List UInt8))) (hr : Row W ga 35 lv) (hv : Vals W lv rs) (hl : rs.length = nr) (b : Bool) (hb : (rs.getD r none).isSome = b) :
    Calls Try.prog 68 #[.slice (some ⟨ga, 0, none⟩) nr nr, .int .i64 (r : Int)] W fun e W' => e = .returned (.bool b) ∧ W' = W := by
  rw [← hb]
  exact inside_calls W ga nr r lv rs hr hv hl
theorem DW.drewN {W : World} {gt ga gz nr no n : Nat} {st : VS} (h : DW W gt ga gz nr no n st) (k : Nat) : DW (W.drewN k) gt ga gz nr no n st := ⟨h.ht, h.la, h.lz, h.ok, h.hl, h.ne⟩
theorem setCell_bytes {W : World} {g i : Nat} {t : TypeId} {ys : List Value} (hr : Row W g t ys) (ht : t ≠ 5) (v : Value) : ∀ (k : Nat) (cells : Array Value), W.heap[k]? = some (Obj.cells cells 5 (0, 0)) → (W.setCell ⟨g, i, none⟩ v).heap[k]? = W.heap[k]? :=
  fun k cells hk => Below.heap_setCell W ⟨g, i, none⟩ v k (by rintro rfl; exact ht (row_type hr hk))
theorem DW.put {W W' : World} {gt ga gz nr no n : Nat} {st : VS} (h : DW W gt ga gz nr no n st) (hb : Below W.heap.size W W') (D : Nat) {l : List UInt8} (hl : l.length = n) {v : Value} (hv : ValO W' v (some l)) :
    DW (W'.setCell ⟨ga, D, none⟩ v) gt ga gz nr no n { st with regs := st.regs.set D (some l) } ∧ Chg3 W.heap.size gt ga gz W (W'.setCell ⟨ga, D, none⟩ v) := by
  obtain ⟨h1, ⟨lv, hr, hv2⟩, ⟨lz, hz, hw⟩, h4, h5, n1, n2, n3⟩ := h.below hb
  have hk := setCell_bytes (i := D) hr (by decide) v
  exact ⟨⟨h1.far (p := ⟨ga, D, none⟩) (Ne.symm n1) v, ⟨_, hr.set D v, (hv2.set D hv).keep hk⟩, ⟨lz, hz.far (p := ⟨ga, D, none⟩) n3 v, hw.keep hk⟩, h4.set D l hl st.loads, h5, n1, n2, n3⟩, (Chg3.of_below hb).set (g := ga) (.inr (.inl rfl)) D v⟩
theorem DW.putOut {W W' : World} {gt ga gz nr no n : Nat} {st : VS} (h : DW W gt ga gz nr no n st) (hb : Below W.heap.size W W') (D : Nat) {l : List UInt8} (hl : l.length = n) {v : Value} (hv : ValO W' v (some l)) :
    DW (W'.setCell ⟨gz, D, none⟩ v) gt ga gz nr no n { st with outs := st.outs.set D (some l) } ∧ Chg3 W.heap.size gt ga gz W (W'.setCell ⟨gz, D, none⟩ v) := by
  obtain ⟨h1, ⟨lv, hr, hv2⟩, ⟨lz, hz, hw⟩, h4, h5, n1, n2, n3⟩ := h.below hb
  have hk := setCell_bytes (i := D) hz (by decide) v
  refine ⟨⟨h1.far (p := ⟨gz, D, none⟩) (Ne.symm n2) v, ⟨lv, hr.far (p := ⟨gz, D, none⟩) (Ne.symm n3) v, hv2.keep hk⟩, ⟨_, hz.set D v, (hw.set D hv).keep hk⟩, ⟨h4.lr, by simp [h4.lo], h4.wr, fun i x hx => ?_⟩, h5, n1, n2, n3⟩, (Chg3.of_below hb).set (g := gz) (.inr (.inr (.inl rfl))) D v⟩
  simp only [set_getD'] at hx
  split at hx
  · injection hx with hx; rw [← hx]; exact hl
  · exact h4.wo i x hx
theorem Chg3.low3 {B B' a b c : Nat} {w w' : World} (h : Chg3 B a b c w w') (hB : B' ≤ B) : Chg3 B' a b c w w' := ⟨h.os, h.tape, h.output, h.size, fun k hk => h.block k (by omega)⟩
theorem ValO.of_row {W : World} {g n : Nat} {l : List UInt8} (h : Row W g 5 (bVs l)) (hl : l.length = n) : ValO W (.slice (some ⟨g, 0, none⟩) n n) (some l) := ⟨g, n, by rw [hl], by omega, RdT.of_row h⟩
end Go.Proofs.Ythbjcafldbocpaa
namespace Go.Proofs.Ythbjcafldbocpaa
open Go.RowKit
set_option linter.unusedVariables false
set_option linter.unusedSimpArgs false
set_option maxHeartbeats 4000000 in
set_option maxRecDepth 100000 in
theorem do_clear (gt ga gz nr no n reads nS cS : Nat) (AS : Option Addr) (D S : Nat) (C : UInt8) (st : VS) (W : World) (h : DW W gt ga gz nr no n st) (hn : n ≤ 64) (hnr : nr ≤ 256) :
    Calls Try.prog 51 #[.pointer (some ⟨gt, 0, none⟩), .agg #[.slice AS nS cS, .int .i64 (nr : Int), .int .i64 (no : Int), .int .u64 (reads : Int)], .agg #[.int .u8 1, .int .i64 (D : Int), .int .i64 (S : Int), .int .u8 (C.toNat : Int)], .int .i64 (n : Int)] W fun e W' =>
      Chg3 W.heap.size gt ga gz W W' ∧ (∀ st', vStep nr no reads n st 1 D S C = some st' → e = .returned (.bool true) ∧ DW W' gt ga gz nr no n st') ∧ (vStep nr no reads n st 1 D S C = none → e = .returned (.bool false)) := by
  have i0 : (0 : Int) ≤ (D : Int) := by omega
  have j0 : (0 : Int) ≤ (S : Int) := by omega
  go_enter Try.func51, Try.ntmps51
  go_wp2_with fail
  obtain ⟨W1, hW1⟩ : ∃ W1, W1 = (W.alloc (.cells #[.slice AS nS cS, .int .i64 (nr : Int), .int .i64 (no : Int), .int .u64 (reads : Int)] 26)).alloc (.cells #[.int .u8 1, .int .i64 (D : Int), .int .i64 (S : Int), .int .u8 (C.toNat : Int)] 59) := ⟨_, rfl⟩
  have q : Below W.heap.size W W1 := by rw [hW1]; exact ((Below.refl _ _).alloc (Nat.le_refl _) _).alloc (by simp) _
  have hp : Row W1 W.heap.size 26 [.slice AS nS cS, .int .i64 (nr : Int), .int .i64 (no : Int), .int .u64 (reads : Int)] := by rw [hW1]; exact (Row.new W _ _).alloc _
  have hs : Row W1 (W.heap.size + 1) 59 [.int .u8 1, .int .i64 (D : Int), .int .i64 (S : Int), .int .u8 (C.toNat : Int)] := by
    rw [hW1]
    have := Row.new (W.alloc (.cells #[.slice AS nS cS, .int .i64 (nr : Int), .int .i64 (no : Int), .int .u64 (reads : Int)] 26)) [.int .u8 1, .int .i64 (D : Int), .int .i64 (S : Int), .int .u8 (C.toNat : Int)] 59
    simpa using this
  have h1 := h.below q
  have ltt := h.ht.lt
  have lta : ga < W.heap.size := by obtain ⟨lv, hr, _⟩ := h.la; exact hr.lt
  have ltz : gz < W.heap.size := by obtain ⟨lv, hr, _⟩ := h.lz; exact hr.lt
  rw [← hW1]
  clear hW1 h
  obtain ⟨lv, hra, hva⟩ := h1.la
  obtain ⟨lz, hrz, hvz⟩ := h1.lz
  have k0 : W1.cell? ⟨gt, 0, none⟩ = some (.slice (some ⟨ga, 0, none⟩) nr nr) := h1.ht.cell 0
  have s0 : W1.cell? ⟨W.heap.size + 1, 0, none⟩ = some (.int .u8 1) := hs.cell 0
  have s1 : W1.cell? ⟨W.heap.size + 1, 1, none⟩ = some (.int .i64 (D : Int)) := hs.cell 1
  have s2 : W1.cell? ⟨W.heap.size + 1, 2, none⟩ = some (.int .i64 (S : Int)) := hs.cell 2
  have e1 : ∀ k : Nat, W1.heap[k]? = W1.heap[k]? := fun _ => rfl
  obtain ⟨bD, hbD⟩ : ∃ b, (st.regs.getD D none).isSome = b := ⟨_, rfl⟩
  obtain ⟨bS, hbS⟩ : ∃ b, (st.regs.getD S none).isSome = b := ⟨_, rfl⟩
  have HID := Lib.hid (fun (X : World) (e : ∀ k : Nat, X.heap[k]? = W1.heap[k]?) => inside_is X ga nr D lv st.regs ((e ga).trans hra) (hva.keep (fun g _ _ => e g)) h1.ok.lr _ hbD)
  have HIS := Lib.hid (fun (X : World) (e : ∀ k : Nat, X.heap[k]? = W1.heap[k]?) => inside_is X ga nr S lv st.regs ((e ga).trans hra) (hva.keep (fun g _ _ => e g)) h1.ok.lr _ hbS)
  have HBD := Lib.hid hbD
  have HBS := Lib.hid hbS
  clear hbD hbS
  have H1 := Lib.hid h1
  have HS := Lib.hid hs
  have HP := Lib.hid hp
  have HQ := Lib.hid q
  have HRA := Lib.hid hra
  have HVA := Lib.hid hva
  have HRZ := Lib.hid hrz
  have HVZ := Lib.hid hvz
  clear h1 hs hp q hra hva hrz hvz
  go_quiet (exact Calls.quiet_of_same (HID.out _ (fun _ => rfl)))
  obtain ⟨W2, hW2⟩ : ∃ W2, W2 = W1.drewN nq := ⟨_, rfl⟩
  have e2 : ∀ k : Nat, W2.heap[k]? = W1.heap[k]? := by rw [hW2]; exact e1
  rw [← hW2]
  have k0 : W2.cell? ⟨gt, 0, none⟩ = some (.slice (some ⟨ga, 0, none⟩) nr nr) := by rw [hW2]; exact k0
  have s0 : W2.cell? ⟨W.heap.size + 1, 0, none⟩ = some (.int .u8 1) := by rw [hW2]; exact s0
  have s1 : W2.cell? ⟨W.heap.size + 1, 1, none⟩ = some (.int .i64 (D : Int)) := by rw [hW2]; exact s1
  have s2 : W2.cell? ⟨W.heap.size + 1, 2, none⟩ = some (.int .i64 (S : Int)) := by rw [hW2]; exact s2
  have HW2 := Lib.hid hW2
  clear hW2
  go_wp2_with fail
  go_quiet (exact Calls.quiet_of_same (HIS.out _ e2))
  obtain ⟨W3, hW3⟩ : ∃ W3, W3 = W2.drewN nq := ⟨_, rfl⟩
  have e3 : ∀ k : Nat, W3.heap[k]? = W1.heap[k]? := by rw [hW3]; exact e2
  rw [← hW3]
  have k0 : W3.cell? ⟨gt, 0, none⟩ = some (.slice (some ⟨ga, 0, none⟩) nr nr) := by rw [hW3]; exact k0
  have s0 : W3.cell? ⟨W.heap.size + 1, 0, none⟩ = some (.int .u8 1) := by rw [hW3]; exact s0
  have s1 : W3.cell? ⟨W.heap.size + 1, 1, none⟩ = some (.int .i64 (D : Int)) := by rw [hW3]; exact s1
  have s2 : W3.cell? ⟨W.heap.size + 1, 2, none⟩ = some (.int .i64 (S : Int)) := by rw [hW3]; exact s2
  have p1 : W3.cell? ⟨W.heap.size, 1, none⟩ = some (.int .i64 (nr : Int)) := (HP.out.of_block (w' := W3) (e3 _)).cell 1
  have p2 : W3.cell? ⟨W.heap.size, 2, none⟩ = some (.int .i64 (no : Int)) := (HP.out.of_block (w' := W3) (e3 _)).cell 2
  have p3 : W3.cell? ⟨W.heap.size, 3, none⟩ = some (.int .u64 (reads : Int)) := (HP.out.of_block (w' := W3) (e3 _)).cell 3
  have q3 : Below W.heap.size W W3 := by rw [hW3, HW2.out]; exact below_drewN (below_drewN HQ.out _) _
  have HW3 := Lib.hid hW3
  clear hW3
  have D3 := Lib.hid (H1.out.below (W' := W3) (show Below W1.heap.size W1 W3 by rw [HW3.out, HW2.out]; exact below_drewN (below_drewN (Below.refl _ _) _) _))
  by_cases hD : D < nr
  · have h1 : decide ((nr : Int) ≤ (D : Int)) = false := decide_eq_false (by omega)
    have i1 : (D : Int) < (nr : Int) := by omega
    have hmk := make_bytes n (by omega)
    obtain ⟨lw, hrw, hvw⟩ := D3.out.la
    have c1 : ∃ u, W3.cell? ⟨ga, D, none⟩ = some u := hrw.has (by rw [hvw.1, D3.out.ok.lr]; exact hD)
    obtain ⟨u, c1⟩ := c1
    have f1 : W3.frozen? ⟨ga, D, none⟩ = false := hrw.frozen D
    have ng : ga ≠ gt := D3.out.ne.1
    have c2 : (W3.alloc (.cells (madeCells #[.int .u8 0] n) 5)).cell? ⟨ga, D, none⟩ = some u := ((hrw.alloc _).cell D).trans ((hrw.cell D).symm.trans c1)
    have f2 : (W3.alloc (.cells (madeCells #[.int .u8 0] n) 5)).frozen? ⟨ga, D, none⟩ = false := (hrw.alloc _).frozen D
    have HRW := Lib.hid hrw
    have HVW := Lib.hid hvw
    clear hrw hvw
    have nb : ga ≠ W.heap.size + 1 := by omega
    have lt3 : W.heap.size + 1 < W3.heap.size := (HS.out.of_block (w' := W3) (e3 _)).lt
    go_wp2_with fail
    go_region_held3 (fun x => x.cell? ⟨gt, 0, none⟩ = some (.slice (some ⟨ga, 0, none⟩) nr nr) ∧ x.cell? ⟨W.heap.size + 1, 1, none⟩ = some (.int .i64 (D : Int))) (go_keep) (fail)
    have hv : vStep nr no reads n st 1 D S C = some { st with regs := st.regs.set D (some (List.replicate n 0)) } := by simp [vStep, hD]
    obtain ⟨d4, c4⟩ := D3.out.put (W' := W3.alloc (.cells (madeCells #[.int .u8 0] n) 5)) ((Below.refl _ _).alloc (Nat.le_refl _) _) D (l := List.replicate n 0) (by simp) (ValO.of_row (l := List.replicate n 0) (n := n) (row_made_bytes W3 n) List.length_replicate)
    have D4 := Lib.hid (d4.drewN 1)
    have C4 := Lib.hid (c4.drewN 1)
    clear d4 c4 hmk c1 c2 f1 f2
    go_wp2_with fail
    go_ret
    refine ⟨(Chg3.of_below q3).trans (Chg3.low3 C4.out q3.size), fun st' h => ?_, fun h => some_none hv h⟩
    rw [hv] at h
    injection h with h
    rw [← h]
    exact ⟨rfl, D4.out⟩
  · have h1 : decide ((nr : Int) ≤ (D : Int)) = true := decide_eq_true (by omega)
    have hv : vStep nr no reads n st 1 D S C = none := by simp [vStep, hD]
    go_wp2_with fail
    go_ret
    exact ⟨Chg3.of_below q3, fun st' h => some_none h hv, fun _ => rfl⟩
end Go.Proofs.Ythbjcafldbocpaa
namespace Go.Proofs.Ythbjcafldbocpaa
open Go.RowKit
set_option linter.unusedVariables false
set_option linter.unusedSimpArgs false


theorem zip_snoc (ds ss : List UInt8) (c : UInt8) {i : Nat} (h : i < ss.length) (he : ds.length = ss.length) :
    (Gf.macL ds c ss).take i ++ [Gf.add (ds.getD i 0) (Gf.mul c (ss.getD i 0))] = (Gf.macL ds c ss).take (i + 1) := by
  have hl : i < (Gf.macL ds c ss).length := by simp [Gf.macL]; omega
  rw [List.take_succ_eq_append_getElem hl]
  congr 2
  have hd : i < ds.length := by omega
  simp [Gf.macL, List.getD, h, hd]
theorem rmacL_len {ds ss : List UInt8} (c : UInt8) (he : ds.length = ss.length) : (Gf.macL ds c ss).length = ss.length := by simp [Gf.macL, he]
set_option maxHeartbeats 800000 in
theorem refMac_calls (dst : Option Addr) (n dc : Nat) (c : UInt8) (src : Option Addr) (sc : Nat) (ds ss : List UInt8) (w : World) (hd : Rd w w.heap.size dst n (bVs ds)) (hs : Rd w w.heap.size src n (bVs ss)) (hn : n ≤ 140737488355328) :
    Calls Try.prog 34 #[.slice dst n dc, .int .u8 (c.toNat : Int), .slice src n sc] w fun e w' => ∃ A' cap', e = .returned (.tuple #[.slice A' n cap', .int .i64 0]) ∧ OwnB w' w.heap.size A' n cap' (Gf.macL ds c ss) ∧ Below w.heap.size w w' := by
  have hq : ((n : Int) != (n : Int)) = false := by rw [bne_eq_false_iff_eq]
  have hld : ds.length = n := by have := hd.len; rw [bVs_length] at this; exact this
  have hls : ss.length = n := by have := hs.len; rw [bVs_length] at this; exact this
  have HLS := Lib.hid hls
  have HE := Lib.hid (show ds.length = ss.length by omega)
  have HM := Lib.hid (show (Gf.macL ds c ss).length = n by rw [rmacL_len c (by omega)]; exact hls)
  clear hld hls
  go_enter Try.func34, Try.ntmps34
  go_wp2_with fail
  go_loopw [8, 9] (fun v8 v9 wr => ∃ i : Nat, i ≤ n ∧ v9 = .int .i64 (i : Int) ∧ OwnV wr w.heap.size v8 ((Gf.macL ds c ss).take i) ∧ Below w.heap.size w wr) (fun _ v9 _ => n - (intOf v9).toNat)
  case atStart => exact ⟨0, by omega, rfl, OwnV.nil _ _, Below.refl _ _⟩
  case round =>
    obtain ⟨i, hi, rfl, ho, hb⟩ := hrel
    by_cases hlt : i < n
    · obtain ⟨g, o, rfl, hg, hcell⟩ := rd_get (hd.below hb (Nat.le_refl _)) hlt
      obtain ⟨g1, o1, rfl, hg1, hcell1⟩ := rd_get (hs.below hb (Nat.le_refl _)) hlt
      have HS := Lib.hid (zip_snoc ds ss c (i := i) (by rw [HLS.out]; exact hlt) HE.out)
      have HLen := Lib.hid (show ((Gf.macL ds c ss).take i).length = i by rw [List.length_take, HM.out]; omega)
      have HX := Lib.hid (bxor_u8 (ds.getD i 0) (Gf.mul c (ss.getD i 0)))
      generalize (Gf.macL ds c ss).take i = l at *
      generalize ds.getD i 0 = x at *
      generalize ss.getD i 0 = y at *
      have HO := Lib.hid ho
      have HB := Lib.hid hb
      have HD := Lib.hid hd
      have HSS := Lib.hid hs
      clear ho hb hd hs
      go_wp2_with fail
      have hx := HX.out
      have hgr : g < wr.heap.size := Nat.lt_of_lt_of_le hg HB.out.size
      have hgr1 : g1 < wr.heap.size := Nat.lt_of_lt_of_le hg1 HB.out.size
      go_region_held3 (fun w' => w'.cell? ⟨g, o + i, none⟩ = some (.int .u8 (x.toNat : Int)) ∧ w'.cell? ⟨g1, o1 + i, none⟩ = some (.int .u8 (y.toNat : Int)))
        (first | go_keep | (go_split_ands; exact ⟨(hbl.cell (p := ⟨g, o + i, none⟩) hg).trans ‹_›, (hbl.cell (p := ⟨g1, o1 + i, none⟩) hg1).trans ‹_›⟩))
        (first | (go_at_call 47; refine (refMul_calls _ _ _).mono ?_; rintro e w' ⟨rfl, rfl⟩) | (refine step_append_byte _ _ (by rfl) (by rfl) w.heap.size wr.heap.size u8 l (Gf.add x (Gf.mul c y)) (by rfl) ((World.ownsRow.alloc HO.out _).drew) (by rfl) (by simp) (by rw [HLen.out]; omega) (by have := HB.out.size; simp; omega) ?_; intro v1 w1 ho1 hbl hg1'))
      go_wp2_with fail
      go_roundw
      case rel => exact ⟨i + 1, by omega, by go_num, by rw [← HS.out]; exact ho1, ((HB.out.alloc HB.out.size _).drew).trans hbl⟩
      case measure => simp [intOf]; omega
    · obtain rfl : i = n := by omega
      rw [List.take_of_length_le (by rw [HM.out]; omega)] at ho
      obtain ⟨A1, c1, rfl, ho1⟩ := ho.slice
      rw [HM.out] at *
      go_wp2_with fail
      go_ret2
      exact ⟨_, _, rfl, ho1, hb⟩
end Go.Proofs.Ythbjcafldbocpaa
namespace Go.Proofs.Ythbjcafldbocpaa
open Go.RowKit
set_option linter.unusedVariables false
set_option linter.unusedSimpArgs false
theorem step_append_rd {ops : Array Oper} {o : Oper} {a : Act} {W : World} {K : Act → World → Prop} {Q : Exit → Act → World → Prop} {E : Prop} (s x : Operand) (hgd : o.guard = none)
    (ho : o.op = .call { callee := .builtin .append, args := #[s, x], argTypes := #[35, 35] })
    (base : Nat) (v : Value) (xs ys : List UInt8) (hs : a.eval s = v) (hown : OwnV W base v xs) (B : Nat) (A : Option Addr) (m c : Nat) (hx : a.eval x = .slice A m c) (hr : Rd W B A m (bVs ys))
    (hlen : xs.length + m ≤ 140737488355328) (hbase : base ≤ W.heap.size)
    (h : ∀ v' w', OwnV w' base v' (xs ++ ys) → W.grownBy w' v.ownBlock → (v'.ownBlock = v.ownBlock ∨ v'.ownBlock = some W.heap.size) → K (a.put o.dst v') w') :
    if Region.wanted o (yielded ops a.tmps) = true then Oper.wp Try.prog o a W K Q else E := by
  have hw : Region.wanted o (yielded ops a.tmps) = true := by simp [Region.wanted, hgd]
  rw [if_pos hw]
  obtain ⟨v', w', hrun, h1, h2, h3⟩ := run_append_rd W base o.type v xs ys hown B A m c hr hlen hbase
  unfold Oper.wp execOp
  simp only [ho, resolve, invoke, builtin, Sem.run_bind, Sem.run_pure, Result.andThen_ok, List.map_toArray, List.map_cons, List.map_nil, hs, hx, hrun]
  exact h v' w' h1 h2 h3
theorem OwnB.le' {w : World} {base n cap : Nat} {A : Option Addr} {xs : List UInt8} (h : OwnB w base A n cap xs) : n ≤ cap := by
  rcases h.2.2 with ⟨h1, h2⟩ | ⟨g, c, cur, hv, hg, hh, h3, _⟩
  · omega
  · simp only [Value.slice.injEq] at hv
    obtain ⟨_, _, rfl⟩ := hv
    exact h3
theorem ValO.of_append {W w' : World} {base g : Nat} {v' : Value} {l : List UInt8} (h : OwnV w' base v' l) (hat : v'.ownBlock = some g ∨ v'.ownBlock = some W.heap.size) : ValO w' v' (some l) := by
  rcases h.2 with ⟨rfl, _⟩ | ⟨g2, cap, cur, rfl, hg, hh, h1, h2, h3, h4⟩
  · rcases hat with h | h <;> simp [Value.ownBlock] at h
  · have ho : OwnB w' base (some ⟨g2, 0, none⟩) l.length cap l := ⟨rfl, h⟩
    exact ⟨g2, cap, rfl, ho.le', RdT.of_own ho⟩
set_option maxHeartbeats 4000000 in
set_option maxRecDepth 100000 in
theorem do_mac (gt ga gz nr no n reads nS cS : Nat) (AS : Option Addr) (D S : Nat) (C : UInt8) (st : VS) (W : World) (h : DW W gt ga gz nr no n st) (hn : n ≤ 64) (hnr : nr ≤ 256) :
    Calls Try.prog 51 #[.pointer (some ⟨gt, 0, none⟩), .agg #[.slice AS nS cS, .int .i64 (nr : Int), .int .i64 (no : Int), .int .u64 (reads : Int)], .agg #[.int .u8 3, .int .i64 (D : Int), .int .i64 (S : Int), .int .u8 (C.toNat : Int)], .int .i64 (n : Int)] W fun e W' =>
      Chg3 W.heap.size gt ga gz W W' ∧ (∀ st', vStep nr no reads n st 3 D S C = some st' → e = .returned (.bool true) ∧ DW W' gt ga gz nr no n st') ∧ (vStep nr no reads n st 3 D S C = none → e = .returned (.bool false)) := by
  have i0 : (0 : Int) ≤ (D : Int) := by omega
  have j0 : (0 : Int) ≤ (S : Int) := by omega
  go_enter Try.func51, Try.ntmps51
  go_wp2_with fail
  obtain ⟨W1, hW1⟩ : ∃ W1, W1 = (W.alloc (.cells #[.slice AS nS cS, .int .i64 (nr : Int), .int .i64 (no : Int), .int .u64 (reads : Int)] 26)).alloc (.cells #[.int .u8 3, .int .i64 (D : Int), .int .i64 (S : Int), .int .u8 (C.toNat : Int)] 59) := ⟨_, rfl⟩
  have q : Below W.heap.size W W1 := by rw [hW1]; exact ((Below.refl _ _).alloc (Nat.le_refl _) _).alloc (by simp) _
  have hp : Row W1 W.heap.size 26 [.slice AS nS cS, .int .i64 (nr : Int), .int .i64 (no : Int), .int .u64 (reads : Int)] := by rw [hW1]; exact (Row.new W _ _).alloc _
  have hs : Row W1 (W.heap.size + 1) 59 [.int .u8 3, .int .i64 (D : Int), .int .i64 (S : Int), .int .u8 (C.toNat : Int)] := by
    rw [hW1]
    have := Row.new (W.alloc (.cells #[.slice AS nS cS, .int .i64 (nr : Int), .int .i64 (no : Int), .int .u64 (reads : Int)] 26)) [.int .u8 3, .int .i64 (D : Int), .int .i64 (S : Int), .int .u8 (C.toNat : Int)] 59
    simpa using this
  have h1 := h.below q
  have ltt := h.ht.lt
  have lta : ga < W.heap.size := by obtain ⟨lv, hr, _⟩ := h.la; exact hr.lt
  have ltz : gz < W.heap.size := by obtain ⟨lv, hr, _⟩ := h.lz; exact hr.lt
  rw [← hW1]
  clear hW1 h
  obtain ⟨lv, hra, hva⟩ := h1.la
  obtain ⟨lz, hrz, hvz⟩ := h1.lz
  have k0 : W1.cell? ⟨gt, 0, none⟩ = some (.slice (some ⟨ga, 0, none⟩) nr nr) := h1.ht.cell 0
  have s0 : W1.cell? ⟨W.heap.size + 1, 0, none⟩ = some (.int .u8 3) := hs.cell 0
  have s1 : W1.cell? ⟨W.heap.size + 1, 1, none⟩ = some (.int .i64 (D : Int)) := hs.cell 1
  have s2 : W1.cell? ⟨W.heap.size + 1, 2, none⟩ = some (.int .i64 (S : Int)) := hs.cell 2
  have e1 : ∀ k : Nat, W1.heap[k]? = W1.heap[k]? := fun _ => rfl
  obtain ⟨bD, hbD⟩ : ∃ b, (st.regs.getD D none).isSome = b := ⟨_, rfl⟩
  obtain ⟨bS, hbS⟩ : ∃ b, (st.regs.getD S none).isSome = b := ⟨_, rfl⟩
  have HID := Lib.hid (fun (X : World) (e : ∀ k : Nat, X.heap[k]? = W1.heap[k]?) => inside_is X ga nr D lv st.regs ((e ga).trans hra) (hva.keep (fun g _ _ => e g)) h1.ok.lr _ hbD)
  have HIS := Lib.hid (fun (X : World) (e : ∀ k : Nat, X.heap[k]? = W1.heap[k]?) => inside_is X ga nr S lv st.regs ((e ga).trans hra) (hva.keep (fun g _ _ => e g)) h1.ok.lr _ hbS)
  have HBD := Lib.hid hbD
  have HBS := Lib.hid hbS
  clear hbD hbS
  have H1 := Lib.hid h1
  have HS := Lib.hid hs
  have HP := Lib.hid hp
  have HQ := Lib.hid q
  have HRA := Lib.hid hra
  have HVA := Lib.hid hva
  have HRZ := Lib.hid hrz
  have HVZ := Lib.hid hvz
  clear h1 hs hp q hra hva hrz hvz
  go_quiet (exact Calls.quiet_of_same (HID.out _ (fun _ => rfl)))
  obtain ⟨W2, hW2⟩ : ∃ W2, W2 = W1.drewN nq := ⟨_, rfl⟩
  have e2 : ∀ k : Nat, W2.heap[k]? = W1.heap[k]? := by rw [hW2]; exact e1
  rw [← hW2]
  have k0 : W2.cell? ⟨gt, 0, none⟩ = some (.slice (some ⟨ga, 0, none⟩) nr nr) := by rw [hW2]; exact k0
  have s0 : W2.cell? ⟨W.heap.size + 1, 0, none⟩ = some (.int .u8 3) := by rw [hW2]; exact s0
  have s1 : W2.cell? ⟨W.heap.size + 1, 1, none⟩ = some (.int .i64 (D : Int)) := by rw [hW2]; exact s1
  have s2 : W2.cell? ⟨W.heap.size + 1, 2, none⟩ = some (.int .i64 (S : Int)) := by rw [hW2]; exact s2
  have HW2 := Lib.hid hW2
  clear hW2
  go_wp2_with fail
  go_quiet (exact Calls.quiet_of_same (HIS.out _ e2))
  obtain ⟨W3, hW3⟩ : ∃ W3, W3 = W2.drewN nq := ⟨_, rfl⟩
  have e3 : ∀ k : Nat, W3.heap[k]? = W1.heap[k]? := by rw [hW3]; exact e2
  rw [← hW3]
  have k0 : W3.cell? ⟨gt, 0, none⟩ = some (.slice (some ⟨ga, 0, none⟩) nr nr) := by rw [hW3]; exact k0
  have s0 : W3.cell? ⟨W.heap.size + 1, 0, none⟩ = some (.int .u8 3) := by rw [hW3]; exact s0
  have s1 : W3.cell? ⟨W.heap.size + 1, 1, none⟩ = some (.int .i64 (D : Int)) := by rw [hW3]; exact s1
  have s2 : W3.cell? ⟨W.heap.size + 1, 2, none⟩ = some (.int .i64 (S : Int)) := by rw [hW3]; exact s2
  have p1 : W3.cell? ⟨W.heap.size, 1, none⟩ = some (.int .i64 (nr : Int)) := (HP.out.of_block (w' := W3) (e3 _)).cell 1
  have p2 : W3.cell? ⟨W.heap.size, 2, none⟩ = some (.int .i64 (no : Int)) := (HP.out.of_block (w' := W3) (e3 _)).cell 2
  have p3 : W3.cell? ⟨W.heap.size, 3, none⟩ = some (.int .u64 (reads : Int)) := (HP.out.of_block (w' := W3) (e3 _)).cell 3
  have q3 : Below W.heap.size W W3 := by rw [hW3, HW2.out]; exact below_drewN (below_drewN HQ.out _) _
  have HW3 := Lib.hid hW3
  clear hW3
  have D3 := Lib.hid (H1.out.below (W' := W3) (show Below W1.heap.size W1 W3 by rw [HW3.out, HW2.out]; exact below_drewN (below_drewN (Below.refl _ _) _) _))
  cases hd : st.regs.getD D none with
  | none =>
    have hv : vStep nr no reads n st 3 D S C = none := by
      unfold vStep
      rw [if_neg (by decide), if_neg (by decide), if_pos rfl, hd]
      split <;> rfl
    obtain rfl : bD = false := by rw [← HBD.out, hd]; rfl
    go_wp2_with fail
    go_ret
    exact ⟨Chg3.of_below q3, fun st' h => some_none h hv, fun _ => rfl⟩
  | some d =>
    obtain rfl : bD = true := by rw [← HBD.out, hd]; rfl
    cases hs : st.regs.getD S none with
    | none =>
      have hv : vStep nr no reads n st 3 D S C = none := by
        unfold vStep
        rw [if_neg (by decide), if_neg (by decide), if_pos rfl, hd, hs]
        split <;> rfl
      obtain rfl : bS = false := by rw [← HBS.out, hs]; rfl
      go_wp2_with fail
      go_ret
      exact ⟨Chg3.of_below q3, fun st' h => some_none h hv, fun _ => rfl⟩
    | some s =>
      obtain rfl : bS = true := by rw [← HBS.out, hs]; rfl
      by_cases hDS : D = S
      · have hv : vStep nr no reads n st 3 D S C = none := by simp [vStep, hDS]
        have e0 : ((D : Int) == (S : Int)) = true := by simp [hDS]
        have e0n : decide (D = S) = true := decide_eq_true hDS
        go_wp2_with fail
        go_ret
        exact ⟨Chg3.of_below q3, fun st' h => some_none h hv, fun _ => rfl⟩
      · have hv : vStep nr no reads n st 3 D S C = some { st with regs := st.regs.set D (some (Gf.macL d C s)) } := by
          unfold vStep
          rw [if_neg (by decide), if_neg (by decide), if_pos rfl, if_neg hDS, hd, hs]
        have e0 : ((D : Int) == (S : Int)) = false := by simp; omega
        have e0n : decide (D = S) = false := decide_eq_false hDS
        have hD : D < nr := by have := (isReg_of hd).1; rw [D3.out.ok.lr] at this; exact this
        have hS : S < nr := by have := (isReg_of hs).1; rw [D3.out.ok.lr] at this; exact this
        obtain ⟨lw, hrw, hvw⟩ := D3.out.la
        obtain ⟨vd, cd, od⟩ := hvw.cell hrw (i := D) (by rw [D3.out.ok.lr]; exact hD)
        obtain ⟨vs, cs, os⟩ := hvw.cell hrw (i := S) (by rw [D3.out.ok.lr]; exact hS)
        rw [hd] at od
        rw [hs] at os
        obtain ⟨gd, kd, rfl, _, rd⟩ := od
        obtain ⟨gs, ks, rfl, _, rs⟩ := os
        have ld : d.length = n := D3.out.ok.wr _ _ hd
        have ls : s.length = n := D3.out.ok.wr _ _ hs
        rw [ld] at cd
        rw [ls] at cs
        have hrd := rd.rd
        have hrs := rs.rd
        rw [ld] at hrd
        rw [ls] at hrs
        have HMAC := Lib.hid (refMac_calls (some ⟨gd, 0, none⟩) n kd C (some ⟨gs, 0, none⟩) ks d s W3.drew (show Rd W3.drew W3.drew.heap.size _ n _ from hrd) (show Rd W3.drew W3.drew.heap.size _ n _ from hrs) (by omega))
        have s3 : W3.cell? ⟨W.heap.size + 1, 3, none⟩ = some (.int .u8 (C.toNat : Int)) := (HS.out.of_block (w' := W3) (e3 _)).cell 3
        have i1 : (D : Int) < (nr : Int) := by omega
        have j1 : (S : Int) < (nr : Int) := by omega
        have lgt3 : gt < W3.heap.size := D3.out.ht.lt
        have lga3 : ga < W3.heap.size := hrw.lt
        have lt3 : W.heap.size + 1 < W3.heap.size := (HS.out.of_block (w' := W3) (e3 _)).lt
        have c1 : W3.frozen? ⟨ga, D, none⟩ = false := hrw.frozen D
        have HR4L := Lib.hid (show lw.length = nr by rw [hvw.1, D3.out.ok.lr])
        have HRW := Lib.hid hrw
        clear hrw hvw rd rs hrd hrs
        go_wp2_with fail
        refine wp_region_held_drew (S := (fun x => x.cell? ⟨gt, 0, none⟩ = some (.slice (some ⟨ga, 0, none⟩) nr nr) ∧ x.cell? ⟨W.heap.size + 1, 1, none⟩ = some (.int .i64 (D : Int)) ∧ x.cell? ⟨W.heap.size + 1, 2, none⟩ = some (.int .i64 (S : Int)) ∧ x.cell? ⟨W.heap.size + 1, 3, none⟩ = some (.int .u8 (C.toNat : Int)) ∧ x.cell? ⟨ga, D, none⟩ = some (.slice (some ⟨gd, 0, none⟩) n kd) ∧ x.cell? ⟨ga, S, none⟩ = some (.slice (some ⟨gs, 0, none⟩) n ks))) (by kernel_rfl) ⟨k0, s1, s2, s3, cd, cs⟩ (fun hHeld => ?_)
        refine wpAnyH_take (i := 0) (v := ?_) rfl (by kernel_rfl) (by kernel_rfl) (by kernel_rfl) (fun _ _ _ h => h) (Or.inl ⟨by kernel_rfl, ?_⟩) (by assumption) ?_
        rotate_left
        · (intro w hSw; (try dsimp only at hSw); go_simp; (try with_reducible rfl))
        try simp only [List.getElem_toArray, List.getElem_cons_succ, List.getElem_cons_zero, Act.put, List.setIfInBounds_toArray, List.set_cons_zero, List.set_cons_succ]
        refine wpAnyH_take (i := 1) (v := ?_) rfl (by kernel_rfl) (by kernel_rfl) (by kernel_rfl) (fun _ _ _ h => h) (Or.inl ⟨by kernel_rfl, ?_⟩) (by assumption) ?_
        rotate_left
        · (intro w hSw; (try dsimp only at hSw); go_simp; (try with_reducible rfl))
        try simp only [List.getElem_toArray, List.getElem_cons_succ, List.getElem_cons_zero, Act.put, List.setIfInBounds_toArray, List.set_cons_zero, List.set_cons_succ]
        refine wpAnyH_take (i := 2) (v := ?_) rfl (by kernel_rfl) (by kernel_rfl) (by kernel_rfl) (fun _ _ _ h => h) (Or.inl ⟨by kernel_rfl, ?_⟩) (by assumption) ?_
        rotate_left
        · (intro w hSw; (try dsimp only at hSw); go_simp; (try with_reducible rfl))
        try simp only [List.getElem_toArray, List.getElem_cons_succ, List.getElem_cons_zero, Act.put, List.setIfInBounds_toArray, List.set_cons_zero, List.set_cons_succ]
        refine wpAnyH_take (i := 3) (v := ?_) rfl (by kernel_rfl) (by kernel_rfl) (by kernel_rfl) (fun _ _ _ h => h) (Or.inl ⟨by kernel_rfl, ?_⟩) (by assumption) ?_
        rotate_left
        · (intro w hSw; (try dsimp only at hSw); go_simp; (try with_reducible rfl))
        try simp only [List.getElem_toArray, List.getElem_cons_succ, List.getElem_cons_zero, Act.put, List.setIfInBounds_toArray, List.set_cons_zero, List.set_cons_succ]
        refine wpAnyH_take (i := 4) (v := ?_) rfl (by kernel_rfl) (by kernel_rfl) (by kernel_rfl) (fun _ _ _ h => h) (Or.inl ⟨by kernel_rfl, ?_⟩) (by assumption) ?_
        rotate_left
        · (intro w hSw; (try dsimp only at hSw); go_simp; (try with_reducible rfl))
        try simp only [List.getElem_toArray, List.getElem_cons_succ, List.getElem_cons_zero, Act.put, List.setIfInBounds_toArray, List.set_cons_zero, List.set_cons_succ]
        refine wpAnyH_take (i := 5) (v := ?_) rfl (by kernel_rfl) (by kernel_rfl) (by kernel_rfl) (fun _ _ _ h => h) (Or.inl ⟨by kernel_rfl, ?_⟩) (by assumption) ?_
        rotate_left
        · (intro w hSw; (try dsimp only at hSw); go_simp; (try with_reducible rfl))
        try simp only [List.getElem_toArray, List.getElem_cons_succ, List.getElem_cons_zero, Act.put, List.setIfInBounds_toArray, List.set_cons_zero, List.set_cons_succ]
        refine wpAnyH_take (i := 6) (v := ?_) rfl (by kernel_rfl) (by kernel_rfl) (by kernel_rfl) (fun _ _ _ h => h) (Or.inl ⟨by kernel_rfl, ?_⟩) (by assumption) ?_
        rotate_left
        · (intro w hSw; (try dsimp only at hSw); go_simp; (try with_reducible rfl))
        try simp only [List.getElem_toArray, List.getElem_cons_succ, List.getElem_cons_zero, Act.put, List.setIfInBounds_toArray, List.set_cons_zero, List.set_cons_succ]
        refine wpAnyH_take (i := 7) (v := ?_) rfl (by kernel_rfl) (by kernel_rfl) (by kernel_rfl) (fun _ _ _ h => h) (Or.inl ⟨by kernel_rfl, ?_⟩) (by assumption) ?_
        rotate_left
        · (intro w hSw; (try dsimp only at hSw); go_simp; (try with_reducible rfl))
        try simp only [List.getElem_toArray, List.getElem_cons_succ, List.getElem_cons_zero, Act.put, List.setIfInBounds_toArray, List.set_cons_zero, List.set_cons_succ]
        refine wpAnyH_take (i := 8) (v := ?_) rfl (by kernel_rfl) (by kernel_rfl) (by kernel_rfl) (fun _ _ _ h => h) (Or.inl ⟨by kernel_rfl, ?_⟩) (by assumption) ?_
        rotate_left
        · (intro w hSw; (try dsimp only at hSw); go_simp; (try with_reducible rfl))
        try simp only [List.getElem_toArray, List.getElem_cons_succ, List.getElem_cons_zero, Act.put, List.setIfInBounds_toArray, List.set_cons_zero, List.set_cons_succ]
        refine wpAnyH_take (i := 9) (v := ?_) rfl (by kernel_rfl) (by kernel_rfl) (by kernel_rfl) (fun _ _ _ h => h) (Or.inl ⟨by kernel_rfl, ?_⟩) (by assumption) ?_
        rotate_left
        · (intro w hSw; (try dsimp only at hSw); go_simp; (try with_reducible rfl))
        try simp only [List.getElem_toArray, List.getElem_cons_succ, List.getElem_cons_zero, Act.put, List.setIfInBounds_toArray, List.set_cons_zero, List.set_cons_succ]
        refine wpAnyH_take (i := 10) (v := ?_) rfl (by kernel_rfl) (by kernel_rfl) (by kernel_rfl) (fun _ _ _ h => h) (Or.inl ⟨by kernel_rfl, ?_⟩) (by assumption) ?_
        rotate_left
        · (intro w hSw; (try dsimp only at hSw); go_simp; (try with_reducible rfl))
        try simp only [List.getElem_toArray, List.getElem_cons_succ, List.getElem_cons_zero, Act.put, List.setIfInBounds_toArray, List.set_cons_zero, List.set_cons_succ]
        refine wpAnyH_take (i := 11) (v := ?_) rfl (by kernel_rfl) (by kernel_rfl) (by kernel_rfl) (fun _ _ _ h => h) (Or.inl ⟨by kernel_rfl, ?_⟩) (by assumption) ?_
        rotate_left
        · (intro w hSw; (try dsimp only at hSw); go_simp; (try with_reducible rfl))
        try simp only [List.getElem_toArray, List.getElem_cons_succ, List.getElem_cons_zero, Act.put, List.setIfInBounds_toArray, List.set_cons_zero, List.set_cons_succ]
        refine wpAnyH_take (i := 12) (v := ?_) rfl (by kernel_rfl) (by kernel_rfl) (by kernel_rfl) (fun _ _ _ h => h) (Or.inl ⟨by kernel_rfl, ?_⟩) (by assumption) ?_
        rotate_left
        · (intro w hSw; (try dsimp only at hSw); go_simp; (try with_reducible rfl))
        try simp only [List.getElem_toArray, List.getElem_cons_succ, List.getElem_cons_zero, Act.put, List.setIfInBounds_toArray, List.set_cons_zero, List.set_cons_succ]
        refine wpAnyH_take (i := 13) (v := ?_) rfl (by kernel_rfl) (by kernel_rfl) (by kernel_rfl) (fun _ _ _ h => h) (Or.inl ⟨by kernel_rfl, ?_⟩) (by assumption) ?_
        rotate_left
        · (intro w hSw; (try dsimp only at hSw); go_simp; (try with_reducible rfl))
        try simp only [List.getElem_toArray, List.getElem_cons_succ, List.getElem_cons_zero, Act.put, List.setIfInBounds_toArray, List.set_cons_zero, List.set_cons_succ]
        refine wpAnyH_take (i := 14) (v := ?_) rfl (by kernel_rfl) (by kernel_rfl) (by kernel_rfl) (fun _ _ _ h => h) (Or.inl ⟨by kernel_rfl, ?_⟩) (by assumption) ?_
        rotate_left
        · (intro w hSw; (try dsimp only at hSw); go_simp; (try with_reducible rfl))
        try simp only [List.getElem_toArray, List.getElem_cons_succ, List.getElem_cons_zero, Act.put, List.setIfInBounds_toArray, List.set_cons_zero, List.set_cons_succ]
        refine wpAnyH_take (i := 15) (v := ?_) rfl (by kernel_rfl) (by kernel_rfl) (by kernel_rfl) (fun _ _ _ h => h) (Or.inl ⟨by kernel_rfl, ?_⟩) (by assumption) ?_
        rotate_left
        · (intro w hSw; (try dsimp only at hSw); go_simp; (try with_reducible rfl))
        try simp only [List.getElem_toArray, List.getElem_cons_succ, List.getElem_cons_zero, Act.put, List.setIfInBounds_toArray, List.set_cons_zero, List.set_cons_succ]
        refine wpAnyH_take (i := 16) (v := ?_) rfl (by kernel_rfl) (by kernel_rfl) (by kernel_rfl) (fun _ _ _ h => h) (Or.inl ⟨by kernel_rfl, ?_⟩) (by assumption) ?_
        rotate_left
        · (intro w hSw; (try dsimp only at hSw); go_simp; (try with_reducible rfl))
        try simp only [List.getElem_toArray, List.getElem_cons_succ, List.getElem_cons_zero, Act.put, List.setIfInBounds_toArray, List.set_cons_zero, List.set_cons_succ]
        refine wpAnyH_take (i := 17) (v := ?_) rfl (by kernel_rfl) (by kernel_rfl) (by kernel_rfl) (fun _ _ _ h => h) (Or.inl ⟨by kernel_rfl, ?_⟩) (by assumption) ?_
        rotate_left
        · (intro w hSw; (try dsimp only at hSw); go_simp; (try with_reducible rfl))
        try simp only [List.getElem_toArray, List.getElem_cons_succ, List.getElem_cons_zero, Act.put, List.setIfInBounds_toArray, List.set_cons_zero, List.set_cons_succ]
        refine wpAnyH_ready (rs := [18]) (by kernel_rfl) (by simp) ?_
        refine AllReadyH.cons rfl (fun K hK => ?_) AllReadyH.nil
        go_simp
        refine HMAC.out.mono ?_
        rintro e w4 ⟨A4, c4, rfl, ho4, hb4⟩
        have hb5 : Below W3.heap.size W3 w4 := ⟨hb4.os, hb4.tape, hb4.output, hb4.size, hb4.block⟩
        have hs4 := (HS.out.of_block (w' := W3) (e3 _)).below hb5 lt3
        have ht4 := D3.out.ht.below hb5 lgt3
        have hr4 := HRW.out.below hb5 lga3
        have cd4 : w4.cell? ⟨ga, D, none⟩ = some (.slice (some ⟨gd, 0, none⟩) n kd) := (hb5.cell (p := ⟨ga, D, none⟩) lga3).trans cd
        have cs4 : w4.cell? ⟨ga, S, none⟩ = some (.slice (some ⟨gs, 0, none⟩) n ks) := (hb5.cell (p := ⟨ga, S, none⟩) lga3).trans cs
        have HO4 := Lib.hid ho4
        have HB5 := Lib.hid hb5
        clear hb4 hb5 ho4
        go_wp2_with fail
        refine hK.out _ _ ⟨ht4.cell 0, hs4.cell 1, hs4.cell 2, hs4.cell 3, cd4, cs4⟩ (fun hHeld => ?_)
        clear hK K
        try simp only [List.getElem_toArray, List.getElem_cons_succ, List.getElem_cons_zero, Act.put, List.setIfInBounds_toArray, List.set_cons_zero, List.set_cons_succ]
        refine wpAnyH_take (i := 19) (v := ?_) rfl (by kernel_rfl) (by kernel_rfl) (by kernel_rfl) (fun _ _ _ h => h) (Or.inl ⟨by kernel_rfl, ?_⟩) (by assumption) ?_
        rotate_left
        · (intro w hSw; (try dsimp only at hSw); go_simp; (try with_reducible rfl))
        try simp only [List.getElem_toArray, List.getElem_cons_succ, List.getElem_cons_zero, Act.put, List.setIfInBounds_toArray, List.set_cons_zero, List.set_cons_succ]
        refine wpAnyH_take (i := 20) (v := ?_) rfl (by kernel_rfl) (by kernel_rfl) (by kernel_rfl) (fun _ _ _ h => h) (Or.inl ⟨by kernel_rfl, ?_⟩) (by assumption) ?_
        rotate_left
        · (intro w hSw; (try dsimp only at hSw); go_simp; (try with_reducible rfl))
        try simp only [List.getElem_toArray, List.getElem_cons_succ, List.getElem_cons_zero, Act.put, List.setIfInBounds_toArray, List.set_cons_zero, List.set_cons_succ]
        refine wpAnyH_take (i := 21) (v := ?_) rfl (by kernel_rfl) (by kernel_rfl) (by kernel_rfl) (fun _ _ _ h => h) (Or.inl ⟨by kernel_rfl, ?_⟩) (by assumption) ?_
        rotate_left
        · (intro w hSw; (try dsimp only at hSw); go_simp; (try with_reducible rfl))
        try simp only [List.getElem_toArray, List.getElem_cons_succ, List.getElem_cons_zero, Act.put, List.setIfInBounds_toArray, List.set_cons_zero, List.set_cons_succ]
        refine wpAnyH_take (i := 22) (v := ?_) rfl (by kernel_rfl) (by kernel_rfl) (by kernel_rfl) (fun _ _ _ h => h) (Or.inl ⟨by kernel_rfl, ?_⟩) (by assumption) ?_
        rotate_left
        · (intro w hSw; (try dsimp only at hSw); go_simp; (try with_reducible rfl))
        try simp only [List.getElem_toArray, List.getElem_cons_succ, List.getElem_cons_zero, Act.put, List.setIfInBounds_toArray, List.set_cons_zero, List.set_cons_succ]
        refine wpAnyH_take (i := 23) (v := ?_) rfl (by kernel_rfl) (by kernel_rfl) (by kernel_rfl) (fun _ _ _ h => h) (Or.inl ⟨by kernel_rfl, ?_⟩) (by assumption) ?_
        rotate_left
        · (intro w hSw; (try dsimp only at hSw); go_simp; (try with_reducible rfl))
        try simp only [List.getElem_toArray, List.getElem_cons_succ, List.getElem_cons_zero, Act.put, List.setIfInBounds_toArray, List.set_cons_zero, List.set_cons_succ]
        refine wpAnyH_done (by kernel_rfl) ?_ _
        have k0 : w4.cell? ⟨gt, 0, none⟩ = some (.slice (some ⟨ga, 0, none⟩) nr nr) := ht4.cell 0
        have s1 : w4.cell? ⟨W.heap.size + 1, 1, none⟩ = some (.int .i64 (D : Int)) := hs4.cell 1
        have s0 : w4.cell? ⟨W.heap.size + 1, 0, none⟩ = some (.int .u8 3) := hs4.cell 0
        have HT4 := Lib.hid ht4
        have HS4 := Lib.hid hs4
        have HR4 := Lib.hid hr4
        clear ht4 hs4 hr4 cd4 cs4 cd cs k0 s2 s3 p1 p2 p3 hHeld HMAC c1
        have k0 : w4.cell? ⟨gt, 0, none⟩ = some (.slice (some ⟨ga, 0, none⟩) nr nr) := HT4.out.cell 0
        go_wp2_with fail
        refine wp_region_held_drew (S := (fun x => x.cell? ⟨gt, 0, none⟩ = some (.slice (some ⟨ga, 0, none⟩) nr nr) ∧ x.cell? ⟨W.heap.size + 1, 1, none⟩ = some (.int .i64 (D : Int)))) (by kernel_rfl) ⟨k0, s1⟩ (fun hHeld => ?_)
        refine wpAnyH_take (i := 0) (v := ?_) rfl (by kernel_rfl) (by kernel_rfl) (by kernel_rfl) (fun _ _ _ h => h) (Or.inl ⟨by kernel_rfl, ?_⟩) (by assumption) ?_
        rotate_left
        · (intro w hSw; (try dsimp only at hSw); go_simp; (try with_reducible rfl))
        try simp only [List.getElem_toArray, List.getElem_cons_succ, List.getElem_cons_zero, Act.put, List.setIfInBounds_toArray, List.set_cons_zero, List.set_cons_succ]
        refine wpAnyH_take (i := 1) (v := ?_) rfl (by kernel_rfl) (by kernel_rfl) (by kernel_rfl) (fun _ _ _ h => h) (Or.inl ⟨by kernel_rfl, ?_⟩) (by assumption) ?_
        rotate_left
        · (intro w hSw; (try dsimp only at hSw); go_simp; (try with_reducible rfl))
        try simp only [List.getElem_toArray, List.getElem_cons_succ, List.getElem_cons_zero, Act.put, List.setIfInBounds_toArray, List.set_cons_zero, List.set_cons_succ]
        refine wpAnyH_take (i := 2) (v := ?_) rfl (by kernel_rfl) (by kernel_rfl) (by kernel_rfl) (fun _ _ _ h => h) (Or.inl ⟨by kernel_rfl, ?_⟩) (by assumption) ?_
        rotate_left
        · (intro w hSw; (try dsimp only at hSw); go_simp; (try with_reducible rfl))
        try simp only [List.getElem_toArray, List.getElem_cons_succ, List.getElem_cons_zero, Act.put, List.setIfInBounds_toArray, List.set_cons_zero, List.set_cons_succ]
        refine wpAnyH_take (i := 3) (v := ?_) rfl (by kernel_rfl) (by kernel_rfl) (by kernel_rfl) (fun _ _ _ h => h) (Or.inl ⟨by kernel_rfl, ?_⟩) (by assumption) ?_
        rotate_left
        · (intro w hSw; (try dsimp only at hSw); go_simp; (try with_reducible rfl))
        try simp only [List.getElem_toArray, List.getElem_cons_succ, List.getElem_cons_zero, Act.put, List.setIfInBounds_toArray, List.set_cons_zero, List.set_cons_succ]
        refine wpAnyH_take (i := 4) (v := ?_) rfl (by kernel_rfl) (by kernel_rfl) (by kernel_rfl) (fun _ _ _ h => h) (Or.inl ⟨by kernel_rfl, ?_⟩) (by assumption) ?_
        rotate_left
        · (intro w hSw; (try dsimp only at hSw); go_simp; (try with_reducible rfl))
        try simp only [List.getElem_toArray, List.getElem_cons_succ, List.getElem_cons_zero, Act.put, List.setIfInBounds_toArray, List.set_cons_zero, List.set_cons_succ]
        refine wpAnyH_take (i := 5) (v := ?_) rfl (by kernel_rfl) (by kernel_rfl) (by kernel_rfl) (fun _ _ _ h => h) (Or.inl ⟨by kernel_rfl, ?_⟩) (by assumption) ?_
        rotate_left
        · (intro w hSw; (try dsimp only at hSw); go_simp; (try with_reducible rfl))
        try simp only [List.getElem_toArray, List.getElem_cons_succ, List.getElem_cons_zero, Act.put, List.setIfInBounds_toArray, List.set_cons_zero, List.set_cons_succ]
        refine wpAnyH_take (i := 7) (v := ?_) rfl (by kernel_rfl) (by kernel_rfl) (by kernel_rfl) (fun _ _ _ h => h) (Or.inl ⟨by kernel_rfl, ?_⟩) (by assumption) ?_
        rotate_left
        · (intro w hSw; (try dsimp only at hSw); go_simp; (try with_reducible rfl))
        try simp only [List.getElem_toArray, List.getElem_cons_succ, List.getElem_cons_zero, Act.put, List.setIfInBounds_toArray, List.set_cons_zero, List.set_cons_succ]
        refine wpAnyH_ready (rs := [6]) (by kernel_rfl) (by simp) ?_
        refine AllReadyH.cons rfl (fun K hK => ?_) AllReadyH.nil
        go_simp
        obtain ⟨W5, hW5⟩ : ∃ W5, W5 = (w4.alloc (.cells #[] 5)).drewN 1 := ⟨_, rfl⟩
        have hw5 : (w4.alloc (.cells #[] 5)).drew = W5 := hW5.symm
        have b45 : Below w4.heap.size w4 W5 := by rw [hW5]; exact below_drewN ((Below.refl _ _).alloc (Nat.le_refl _) _) 1
        have own5 : OwnV W5 w4.heap.size (.slice (some ⟨w4.heap.size, 0, none⟩) 0 0) [] := by rw [hW5]; exact (own_empty w4 w4.heap.size (Nat.le_refl _) _ rfl).drewN 1
        have rd5 : Rd W5 W5.heap.size A4 n (bVs (Gf.macL d C s)) := (HO4.out.rd).go b45
        rw [hw5]
        have ht5 := HT4.out.below b45 HT4.out.lt
        have hs5 := HS4.out.below b45 HS4.out.lt
        have HB45 := Lib.hid b45
        have OWN5 := Lib.hid own5
        have RD5 := Lib.hid rd5
        clear hW5 hw5 b45 own5 rd5
        refine hK.out _ _ ⟨ht5.cell 0, hs5.cell 1⟩ (fun hHeld => ?_)
        clear hK K
        try simp only [List.getElem_toArray, List.getElem_cons_succ, List.getElem_cons_zero, Act.put, List.setIfInBounds_toArray, List.set_cons_zero, List.set_cons_succ]
        refine wpAnyH_ready (rs := [8]) (by kernel_rfl) (by simp) ?_
        refine AllReadyH.cons rfl (fun K hK => ?_) AllReadyH.nil
        refine step_append_rd (.tmp 140) (.tmp 141) rfl rfl w4.heap.size _ [] (Gf.macL d C s) rfl OWN5.out W5.heap.size A4 n c4 rfl RD5.out (by simp; omega) HB45.out.size ?_
        intro v6 w6 ho6 hg6 hat6
        have hv6 : ValO w6 v6 (some (Gf.macL d C s)) := ValO.of_append (W := W5) (g := w4.heap.size) ho6 hat6
        have hb6 : Below w4.heap.size w4 w6 := HB45.out.trans (grown_below hg6 HB45.out.size (fun k hk => (World.ownsRow.lt OWN5.out k hk).1))
        obtain ⟨g6, c6, rfl, lc6, hr6⟩ := hv6
        have hr7 := HR4.out.below hb6 HR4.out.lt
        have c7 : w6.frozen? ⟨ga, D, none⟩ = false := hr7.frozen D
        obtain ⟨u7, cu7⟩ : ∃ u, w6.cell? ⟨ga, D, none⟩ = some u := hr7.has (by rw [HR4L.out]; exact hD)
        have ht6 := HT4.out.below hb6 HT4.out.lt
        have hs6 := HS4.out.below hb6 HS4.out.lt
        have lml : (Gf.macL d C s).length = n := by rw [macL_length C (ld.trans ls.symm), ld]
        obtain ⟨d7, c8⟩ := D3.out.put (W' := w6) (HB5.out.trans (hb6.mono HB5.out.size)) D (l := Gf.macL d C s) lml (v := .slice (some ⟨g6, 0, none⟩) (Gf.macL d C s).length c6) ⟨g6, c6, rfl, lc6, hr6⟩
        rw [lml] at d7 c8
        have hs7 := hs6.far (p := ⟨ga, D, none⟩) (by simp; omega) (.slice (some ⟨g6, 0, none⟩) n c6)
        have ht7 := ht6.far (p := ⟨ga, D, none⟩) (Ne.symm D3.out.ne.1) (.slice (some ⟨g6, 0, none⟩) n c6)
        have D7 := Lib.hid d7
        have C7 := Lib.hid c8
        have HS6 := Lib.hid hs6
        clear hr6 ho6 hg6 hat6 hb6 d7 c8 hr7
        refine hK.out _ _ ⟨ht6.cell 0, hs6.cell 1⟩ (fun hHeld => ?_)
        clear hK K
        try simp only [List.getElem_toArray, List.getElem_cons_succ, List.getElem_cons_zero, Act.put, List.setIfInBounds_toArray, List.set_cons_zero, List.set_cons_succ]
        refine wpAnyH_take (i := 9) (v := ?_) rfl (by kernel_rfl) (by kernel_rfl) (by kernel_rfl) (fun _ _ _ h => h) (Or.inl ⟨by kernel_rfl, ?_⟩) (by assumption) ?_
        rotate_left
        · (intro w hSw; (try dsimp only at hSw); go_simp; (try with_reducible rfl))
        try simp only [List.getElem_toArray, List.getElem_cons_succ, List.getElem_cons_zero, Act.put, List.setIfInBounds_toArray, List.set_cons_zero, List.set_cons_succ]
        refine wpAnyH_ready (rs := [10]) (by kernel_rfl) (by simp) ?_
        refine AllReadyH.cons rfl (fun K hK => ?_) AllReadyH.nil
        go_simp
        refine hK.out _ _ ⟨ht7.cell 0, hs7.cell 1⟩ (fun hHeld => ?_)
        clear hK K
        try simp only [List.getElem_toArray, List.getElem_cons_succ, List.getElem_cons_zero, Act.put, List.setIfInBounds_toArray, List.set_cons_zero, List.set_cons_succ]
        refine wpAnyH_done (by kernel_rfl) ?_ _
        obtain ⟨W8, hW8⟩ : ∃ W8, W8 = w6.setCell ⟨ga, D, none⟩ (.slice (some ⟨g6, 0, none⟩) n c6) := ⟨_, rfl⟩
        rw [← hW8] at D7 C7 hs7
        rw [← hW8]
        have s8 : W8.cell? ⟨W.heap.size + 1, 0, none⟩ = some (.int .u8 3) := hs7.cell 0
        clear hW8 hs7 ht7 ht6 hs5 ht5 s1 s0 k0 cu7 c7
        go_wp2_with fail
        go_ret
        refine ⟨(Chg3.of_below q3).trans (Chg3.low3 C7.out q3.size), fun st' h => ?_, fun h => some_none hv h⟩
        rw [hv] at h
        injection h with h
        rw [← h]
        exact ⟨rfl, D7.out⟩
end Go.Proofs.Ythbjcafldbocpaa
namespace Go.Proofs.Ythbjcafldbocpaa
open Go.RowKit
set_option linter.unusedVariables false
set_option linter.unusedSimpArgs false

def sameB (xs ys : List UInt8) : Bool := xs == ys
theorem sameB_self (xs : List UInt8) : sameB xs xs = true := by simp [sameB]
theorem to_string {w : World} {B : Nat} {A : Option Addr} {n cap : Nat} {xs : List UInt8} (h : Rd w B A n (bVs xs)) :
    (convert 35 9 (.slice A n cap)).run Try.prog w = .ok (.string ⟨xs.toArray⟩) w := by
  rcases Nat.eq_zero_or_pos n with h0 | hp
  · subst h0
    have hx : xs = [] := List.eq_nil_of_length_eq_zero (by have := h.len; rw [bVs_length] at this; exact this)
    subst hx
    cases A with
    | none => 
      have h1 := run_convert_bytes_string (P := Try.prog) w 35 9 5 none 0 cap Try.underlying35 Try.underlying5 Try.underlying9
      rw [h1]
      simp [Conv.bytesToString]
      rfl
    | some a => exact run_convert_bytes_back (P := Try.prog) w 35 9 5 a cap [] Try.underlying35 Try.underlying5 Try.underlying9 (fun j hj => absurd hj (by simp))
  · obtain ⟨g, o, rfl, hg, hc⟩ := h.2 hp
    have hl := h.len
    rw [bVs_length] at hl
    subst hl
    refine run_convert_bytes_back (P := Try.prog) w 35 9 5 ⟨g, o, none⟩ cap xs Try.underlying35 Try.underlying5 Try.underlying9 (fun j hj => ?_)
    have h1 := hc j _ (bVs_get xs j hj)
    unfold Addr.add
    split
    · next h0 => subst h0; simpa using h1
    · exact h1

set_option maxHeartbeats 400000 in
theorem same_calls (A : Option Addr) (n ac : Nat) (B : Option Addr) (m bc : Nat) (xs ys : List UInt8) (w : World) (ha : Rd w w.heap.size A n (bVs xs)) (hb : Rd w w.heap.size B m (bVs ys)) :
    Calls Try.prog 35 #[.slice A n ac, .slice B m bc] w fun e w' => e = .returned (.bool (sameB xs ys)) ∧ w = w' := by
  have h1 := to_string (cap := ac) ha
  have h2 := to_string (cap := bc) hb
  go_enter Try.func35, Try.ntmps35
  go_wp2_with fail
  go_ret
  exact ⟨rfl, rfl⟩
end Go.Proofs.Ythbjcafldbocpaa
namespace Go.Proofs.Ythbjcafldbocpaa
open Go.RowKit
set_option linter.unusedVariables false
set_option linter.unusedSimpArgs false

theorem same_self (A : Option Addr) (n ac : Nat) (B : Option Addr) (m bc : Nat) (xs : List UInt8) (w : World) (ha : Rd w w.heap.size A n (bVs xs)) (hb : Rd w w.heap.size B m (bVs xs)) :
    Calls Try.prog 35 #[.slice A n ac, .slice B m bc] w fun e w' => e = .returned (.bool true) ∧ w = w' := by
  have h := same_calls A n ac B m bc xs xs w ha hb
  rw [sameB_self] at h
  exact h
set_option maxHeartbeats 800000 in
theorem like_self (r c : Int) (A : Option Addr) (n ac : Nat) (B : Option Addr) (m bc : Nat) (xs : List UInt8) (w : World) (ha : Rd w w.heap.size A n (bVs xs)) (hb : Rd w w.heap.size B m (bVs xs)) :
    Calls Try.prog 20 #[mV r c A n ac, mV r c B m bc] w fun e w' => e = .returned (.bool true) ∧ Below w.heap.size w w' := by
  have hB : Below w.heap.size w ((w.alloc (Obj.cells #[.int .i64 r, .int .i64 c, .slice A n ac] 37)).alloc (Obj.cells #[.int .i64 r, .int .i64 c, .slice B m bc] 37)) := ((Below.refl _ _).alloc (Nat.le_refl _) _).alloc (by simp) _
  have ra := ha.go hB
  have rb := hb.go hB
  have HB := Lib.hid hB
  clear hB ha hb
  go_enter Try.func20, Try.ntmps20
  go_wp2_with (go_at_call 35; refine (same_self _ _ _ _ _ _ _ _ ra rb).mono ?_; rintro e w' ⟨rfl, rfl⟩)
  go_ret
  exact ⟨rfl, HB.out⟩
end Go.Proofs.Ythbjcafldbocpaa
namespace Go.Proofs.Ythbjcafldbocpaa
open Go.RowKit
set_option linter.unusedVariables false
set_option linter.unusedSimpArgs false
def likeB (r c : Int) (xs : List UInt8) (r' c' : Int) (ys : List UInt8) : Bool := decide (r = r') && (decide (c = c') && sameB xs ys)
set_option maxHeartbeats 1600000 in
theorem likeAny_calls (r c : Int) (A : Option Addr) (n ac : Nat) (r' c' : Int) (B : Option Addr) (m bc : Nat) (xs ys : List UInt8) (w : World) (ha : Rd w w.heap.size A n (bVs xs)) (hb : Rd w w.heap.size B m (bVs ys)) :
    Calls Try.prog 20 #[mV r c A n ac, mV r' c' B m bc] w fun e w' => e = .returned (.bool (likeB r c xs r' c' ys)) ∧ Below w.heap.size w w' := by
  have hB : Below w.heap.size w ((w.alloc (Obj.cells #[.int .i64 r, .int .i64 c, .slice A n ac] 37)).alloc (Obj.cells #[.int .i64 r', .int .i64 c', .slice B m bc] 37)) := ((Below.refl _ _).alloc (Nat.le_refl _) _).alloc (by simp) _
  have ra := ha.go hB
  have rb := hb.go hB
  have HB := Lib.hid hB
  clear hB ha hb
  by_cases h1 : r = r'
  · have e1 : (r == r') = true := by simpa using h1
    by_cases h2 : c = c'
    · have e2 : (c == c') = true := by simpa using h2
      have el : likeB r c xs r' c' ys = sameB xs ys := by simp [likeB, h1, h2]
      rw [el]
      clear el h1 h2
      go_enter Try.func20, Try.ntmps20
      go_wp2_with (go_at_call 35; refine (same_calls _ _ _ _ _ _ _ _ _ ra rb).mono ?_; rintro e w' ⟨rfl, rfl⟩)
      go_ret
      exact ⟨rfl, HB.out⟩
    · have e2 : (c == c') = false := by simpa using h2
      have el : likeB r c xs r' c' ys = false := by simp [likeB, h1, h2]
      rw [el]
      clear el h1 h2
      go_enter Try.func20, Try.ntmps20
      go_wp2_with fail
      go_ret
      exact ⟨rfl, HB.out⟩
  · have e1 : (r == r') = false := by simpa using h1
    have el : likeB r c xs r' c' ys = false := by simp [likeB, h1]
    rw [el]
    clear el h1
    go_enter Try.func20, Try.ntmps20
    go_wp2_with fail
    go_ret
    exact ⟨rfl, HB.out⟩
end Go.Proofs.Ythbjcafldbocpaa
namespace Go.Proofs.Ythbjcafldbocpaa
open Go.RowKit
set_option linter.unusedVariables false
set_option linter.unusedSimpArgs false

set_option maxHeartbeats 400000 in
theorem side_calls (n : Int) (w : World) : Calls Try.prog 53 #[.int .i64 n] w fun e w' => e = .returned (.bool (sideB n)) ∧ w = w' := by
  by_cases h1 : 0 ≤ n
  · by_cases h2 : n ≤ 64
    · have H := Lib.hid (show sideB n = true by simp [sideB, h1, h2])
      have d1 : decide (0 ≤ n) = true := by simpa using h1
      have d2 : decide (n ≤ 64) = true := by simpa using h2
      go_enter Try.func53, Try.ntmps53
      go_wp2_with fail
      go_ret
      exact ⟨by rw [H.out]; rfl, rfl⟩
    · have H := Lib.hid (show sideB n = false by simp [sideB, h1, h2])
      have d1 : decide (0 ≤ n) = true := by simpa using h1
      have d2 : decide (n ≤ 64) = false := by simpa using h2
      go_enter Try.func53, Try.ntmps53
      go_wp2_with fail
      go_ret
      exact ⟨by rw [H.out]; rfl, rfl⟩
  · have H := Lib.hid (show sideB n = false by simp [sideB, h1])
    have d1 : decide (0 ≤ n) = false := by simpa using h1
    go_enter Try.func53, Try.ntmps53
    go_wp2_with fail
    go_ret
    exact ⟨by rw [H.out]; rfl, rfl⟩
set_option maxRecDepth 100000 in
set_option maxHeartbeats 800000 in
theorem right_calls (r c : Int) (A : Option Addr) (n cap : Nat) (w : World) : Calls Try.prog 43 #[mV r c A n cap] w fun e w' => e = .returned (.bool (rightB r c n)) ∧ Below w.heap.size w w' := by
  by_cases hr : sideB r = true
  · by_cases hc : sideB c = true
    · have h1 : 0 ≤ r ∧ r ≤ 64 := by simpa [sideB] using hr
      have h2 : 0 ≤ c ∧ c ≤ 64 := by simpa [sideB] using hc
      obtain ⟨p, hp⟩ : ∃ p, p = r * c := ⟨_, rfl⟩
      have hb := prod_bd h1.1 h1.2 h2.1 h2.2
      have e1 : IntKind.i64.wrap (r * c) = p := by rw [IntKind.wrap_i64, hp]; omega
      have H := Lib.hid (show rightB r c n = decide ((n : Int) = p) by rw [hp]; simp [rightB, h1, h2])
      clear h1 h2 hb hp
      by_cases hn : (n : Int) = p
      · have q : ((n : Int) == p) = true := by simpa using hn
        have HN := Lib.hid (show decide ((n : Int) = p) = true by simpa using hn)
        clear hn
        go_enter Try.func43, Try.ntmps43
        go_wp2_with (go_at_call 53; refine (side_calls _ _).mono ?_; rintro e w' ⟨rfl, rfl⟩)
        go_ret
        exact ⟨by rw [H.out, HN.out]; rfl, (Below.refl _ _).alloc (Nat.le_refl _) _⟩
      · have q : ((n : Int) == p) = false := by simpa using hn
        have HN := Lib.hid (show decide ((n : Int) = p) = false by simpa using hn)
        clear hn
        go_enter Try.func43, Try.ntmps43
        go_wp2_with (go_at_call 53; refine (side_calls _ _).mono ?_; rintro e w' ⟨rfl, rfl⟩)
        go_ret
        exact ⟨by rw [H.out, HN.out]; rfl, (Below.refl _ _).alloc (Nat.le_refl _) _⟩
    · have hc : sideB c = false := by simpa using hc
      have H := Lib.hid (show rightB r c n = false by simp [rightB, sideB] at hc ⊢; intro h1 h2 h3 h4; omega)
      go_enter Try.func43, Try.ntmps43
      go_wp2_with (go_at_call 53; refine (side_calls _ _).mono ?_; rintro e w' ⟨rfl, rfl⟩)
      go_ret
      exact ⟨by rw [H.out]; rfl, (Below.refl _ _).alloc (Nat.le_refl _) _⟩
  · have hr : sideB r = false := by simpa using hr
    have H := Lib.hid (show rightB r c n = false by simp [rightB, sideB] at hr ⊢; intro h1 h2; omega)
    go_enter Try.func43, Try.ntmps43
    go_wp2_with (go_at_call 53; refine (side_calls _ _).mono ?_; rintro e w' ⟨rfl, rfl⟩)
    go_ret
    exact ⟨by rw [H.out]; rfl, (Below.refl _ _).alloc (Nat.le_refl _) _⟩
end Go.Proofs.Ythbjcafldbocpaa
namespace Go.Proofs.Ythbjcafldbocpaa
open Go.RowKit
set_option linter.unusedVariables false
set_option linter.unusedSimpArgs false
set_option maxHeartbeats 400000 in
theorem bequal_calls (A : Option Addr) (n ac : Nat) (B : Option Addr) (m bc : Nat) (xs ys : List UInt8) (w : World) (ha : Rd w w.heap.size A n (bVs xs)) (hb : Rd w w.heap.size B m (bVs ys)) :
    Calls Try.prog 58 #[.slice A n ac, .slice B m bc] w fun e w' => e = .returned (.bool (sameB xs ys)) ∧ w = w' := by
  have h1 := to_string (cap := ac) ha
  have h2 := to_string (cap := bc) hb
  go_enter Try.func58, Try.ntmps58
  go_wp2_with fail
  go_ret
  exact ⟨rfl, rfl⟩
set_option maxRecDepth 100000 in
set_option maxHeartbeats 1600000 in
theorem msame_calls (r c : Int) (A : Option Addr) (n ac : Nat) (r' c' : Int) (B : Option Addr) (m bc : Nat) (xs ys : List UInt8) (w : World) (ha : Rd w w.heap.size A n (bVs xs)) (hb : Rd w w.heap.size B m (bVs ys)) (hra : rightB r c n = true) (hrb : rightB r' c' m = true) :
    Calls Try.prog 45 #[mV r c A n ac, mV r' c' B m bc] w fun e w' => e = .returned (.bool (likeB r c xs r' c' ys)) ∧ Below w.heap.size w w' := by
  have HR1 := Lib.hid (fun w => right_calls r c A n ac w)
  have HR2 := Lib.hid (fun w => right_calls r' c' B m bc w)
  have S := (((((Ctx.start w).add ha).add hb).box [.int .i64 r, .int .i64 c, .slice A n ac]).box [.int .i64 r', .int .i64 c', .slice B m bc])
  simp only [World.size_alloc] at S
  obtain ⟨d0, d1, d2⟩ := S.cells 1 rfl
  obtain ⟨e0, e1, e2⟩ := S.cells 0 rfl
  rw [hra] at HR1
  rw [hrb] at HR2
  clear hra hrb ha hb
  by_cases h1 : r = r'
  · have t1 : (r == r') = true := by simpa using h1
    by_cases h2 : c = c'
    · have t2 : (c == c') = true := by simpa using h2
      have el : likeB r c xs r' c' ys = sameB xs ys := by simp [likeB, h1, h2]
      rw [el]
      clear el h1 h2
      go_enter Try.func45, Try.ntmps45
      go_wp2_with (first | (go_at_call 43; (first | (with_reducible refine (HR1.out _).mono ?_) | (with_reducible refine (HR2.out _).mono ?_)); rintro e w1 ⟨rfl, hb⟩; replace S := S.go hb; clear hb d0 d1 d2 e0 e1 e2; obtain ⟨d0, d1, d2⟩ := S.cells 1 rfl; obtain ⟨e0, e1, e2⟩ := S.cells 0 rfl) | (go_at_call 58; refine (bequal_calls _ _ _ _ _ _ _ _ _ (S.rd 1 rfl) (S.rd 0 rfl)).mono ?_; rintro e w1 ⟨rfl, rfl⟩))
      go_ret
      exact ⟨rfl, S.below⟩
    · have t2 : (c == c') = false := by simpa using h2
      have el : likeB r c xs r' c' ys = false := by simp [likeB, h1, h2]
      rw [el]
      clear el h1 h2
      go_enter Try.func45, Try.ntmps45
      go_wp2_with (go_at_call 43; (first | (with_reducible refine (HR1.out _).mono ?_) | (with_reducible refine (HR2.out _).mono ?_)); rintro e w1 ⟨rfl, hb⟩; replace S := S.go hb; clear hb d0 d1 d2 e0 e1 e2; obtain ⟨d0, d1, d2⟩ := S.cells 1 rfl; obtain ⟨e0, e1, e2⟩ := S.cells 0 rfl)
      go_ret
      exact ⟨rfl, S.below⟩
  · have t1 : (r == r') = false := by simpa using h1
    have el : likeB r c xs r' c' ys = false := by simp [likeB, h1]
    rw [el]
    clear el h1
    go_enter Try.func45, Try.ntmps45
    go_wp2_with (go_at_call 43; (first | (with_reducible refine (HR1.out _).mono ?_) | (with_reducible refine (HR2.out _).mono ?_)); rintro e w1 ⟨rfl, hb⟩; replace S := S.go hb; clear hb d0 d1 d2 e0 e1 e2; obtain ⟨d0, d1, d2⟩ := S.cells 1 rfl; obtain ⟨e0, e1, e2⟩ := S.cells 0 rfl)
    go_ret
    exact ⟨rfl, S.below⟩
end Go.Proofs.Ythbjcafldbocpaa
namespace Go.Proofs.Ythbjcafldbocpaa
open Go.RowKit
set_option linter.unusedVariables false
set_option linter.unusedSimpArgs false
structure Cx (w0 w : World) (bs : List (Nat × TypeId × List Value)) (rs : List (Option Addr × Nat × List UInt8)) : Prop where
  below : Below w0.heap.size w0 w
  rows : ∀ b ∈ bs, Row w b.1 b.2.1 b.2.2
  rds : ∀ r ∈ rs, Rd w w.heap.size r.1 r.2.1 (bVs r.2.2)
section
variable {w0 w w' : World} {bs : List (Nat × TypeId × List Value)} {rs : List (Option Addr × Nat × List UInt8)}
theorem Cx.start (w : World) : Cx w w [] [] := ⟨Below.refl _ _, fun b h => absurd h (by simp), fun r h => absurd h (by simp)⟩
theorem Cx.go (h : Cx w0 w bs rs) (hb : Below w.heap.size w w') : Cx w0 w' bs rs :=
  ⟨h.below.trans (hb.mono h.below.size), fun b hm => (h.rows b hm).below hb (h.rows b hm).lt, fun r hm => (h.rds r hm).go hb⟩
theorem Cx.add {A : Option Addr} {n : Nat} {xs : List UInt8} (h : Cx w0 w bs rs) (hr : Rd w w.heap.size A n (bVs xs)) : Cx w0 w bs ((A, n, xs) :: rs) :=
  ⟨h.below, h.rows, fun r hm => by
    rcases List.mem_cons.1 hm with rfl | hm
    · exact hr
    · exact h.rds r hm⟩
theorem Cx.row0 {g : Nat} {t : TypeId} {cs : List Value} (h : Cx w0 w bs rs) (hr : Row w g t cs) : Cx w0 w ((g, t, cs) :: bs) rs :=
  ⟨h.below, fun b hm => by
    rcases List.mem_cons.1 hm with rfl | hm
    · exact hr
    · exact h.rows b hm, h.rds⟩
theorem Cx.box (h : Cx w0 w bs rs) (t : TypeId) (cs : List Value) : Cx w0 (w.alloc (.cells cs.toArray t)) ((w.heap.size, t, cs) :: bs) rs :=
  (h.go ((Below.refl _ _).alloc (Nat.le_refl _) _)).row0 (Row.new w cs t)
theorem Cx.alloc (h : Cx w0 w bs rs) (o : Obj) : Cx w0 (w.alloc o) bs rs := h.go ((Below.refl _ _).alloc (Nat.le_refl _) o)
theorem Cx.drewN (h : Cx w0 w bs rs) (n : Nat) : Cx w0 (w.drewN n) bs rs := h.go (below_drewN (Below.refl _ _) n)
theorem Cx.drew (h : Cx w0 w bs rs) : Cx w0 w.drew bs rs := h.go (Below.drew (Below.refl _ _))
theorem Cx.row (h : Cx w0 w bs rs) (i : Nat) {g : Nat} {t : TypeId} {cs : List Value} (e : bs[i]? = some (g, t, cs)) : Row w g t cs := h.rows _ (List.mem_of_getElem? e)
theorem Cx.rd (h : Cx w0 w bs rs) (i : Nat) {A : Option Addr} {n : Nat} {xs : List UInt8} (e : rs[i]? = some (A, n, xs)) : Rd w w.heap.size A n (bVs xs) := h.rds _ (List.mem_of_getElem? e)
theorem Cx.lt (h : Cx w0 w bs rs) (i : Nat) {g : Nat} {t : TypeId} {cs : List Value} (e : bs[i]? = some (g, t, cs)) : g < w.heap.size := (h.row i e).lt
theorem Cx.cells3 (h : Cx w0 w bs rs) (i : Nat) {g : Nat} {t : TypeId} {a b c : Value} (e : bs[i]? = some (g, t, [a, b, c])) : w.cell? ⟨g, 0, none⟩ = some a ∧ w.cell? ⟨g, 1, none⟩ = some b ∧ w.cell? ⟨g, 2, none⟩ = some c :=
  ⟨(h.row i e).cell 0, (h.row i e).cell 1, (h.row i e).cell 2⟩
theorem Cx.cells4 (h : Cx w0 w bs rs) (i : Nat) {g : Nat} {t : TypeId} {a b c d : Value} (e : bs[i]? = some (g, t, [a, b, c, d])) : w.cell? ⟨g, 0, none⟩ = some a ∧ w.cell? ⟨g, 1, none⟩ = some b ∧ w.cell? ⟨g, 2, none⟩ = some c ∧ w.cell? ⟨g, 3, none⟩ = some d :=
  ⟨(h.row i e).cell 0, (h.row i e).cell 1, (h.row i e).cell 2, (h.row i e).cell 3⟩
end
end Go.Proofs.Ythbjcafldbocpaa
namespace Go.Proofs.Ythbjcafldbocpaa
set_option linter.unusedVariables false
set_option linter.unusedSimpArgs false

def gridD (R C : Nat) (f : Nat → Nat → UInt8) : List UInt8 := (List.range (R * C)).map fun p => f (p / C) (p % C)
theorem grid_length (R C : Nat) (f : Nat → Nat → UInt8) : (gridD R C f).length = R * C := by simp [gridD]
theorem place_lt {R C i j : Nat} (hi : i < R) (hj : j < C) : i * C + j < R * C := by
  have h : (i + 1) * C ≤ R * C := Nat.mul_le_mul_right C hi
  rw [Nat.add_mul] at h
  omega
theorem place_div {C i j : Nat} (hj : j < C) : (i * C + j) / C = i := by
  rw [Nat.add_comm, Nat.add_mul_div_right _ _ (by omega), Nat.div_eq_of_lt hj, Nat.zero_add]
theorem place_mod {C i j : Nat} (hj : j < C) : (i * C + j) % C = j := by
  rw [Nat.add_comm, Nat.add_mul_mod_self_right, Nat.mod_eq_of_lt hj]
theorem place_of {R C p : Nat} (hp : p < R * C) : p / C < R ∧ p % C < C ∧ p = p / C * C + p % C := by
  have hC : 0 < C := by
    rcases Nat.eq_zero_or_pos C with h | h
    · subst h; simp at hp
    · exact h
  refine ⟨(Nat.div_lt_iff_lt_mul hC).2 hp, Nat.mod_lt _ hC, ?_⟩
  have := Nat.div_add_mod p C
  rw [Nat.mul_comm] at this
  omega
theorem grid_get {R C i j : Nat} (f : Nat → Nat → UInt8) (hi : i < R) (hj : j < C) : (gridD R C f)[i * C + j]? = some (f i j) := by
  simp only [gridD, List.getElem?_map, List.getElem?_range (place_lt hi hj), Option.map_some, place_div hj, place_mod hj]
theorem grid_congr {R C : Nat} {f g : Nat → Nat → UInt8} (h : ∀ i j, i < R → j < C → f i j = g i j) : gridD R C f = gridD R C g := by
  unfold gridD
  apply List.map_congr_left
  intro p hp
  obtain ⟨h1, h2, _⟩ := place_of (List.mem_range.1 hp)
  exact h _ _ h1 h2
theorem grid_ext {R C : Nat} {xs : List UInt8} {f : Nat → Nat → UInt8} (hl : xs.length = R * C) (h : ∀ i j, i < R → j < C → xs[i * C + j]? = some (f i j)) : xs = gridD R C f := by
  apply List.ext_getElem?
  intro p
  rcases Nat.lt_or_ge p (R * C) with hp | hp
  · obtain ⟨h1, h2, h3⟩ := place_of hp
    rw [h3, h _ _ h1 h2, grid_get f h1 h2]
  · rw [List.getElem?_eq_none (by omega), List.getElem?_eq_none (by rw [grid_length]; omega)]
theorem grid_zero (R C : Nat) : List.replicate (R * C) 0 = gridD R C (fun _ _ => 0) := by
  unfold gridD
  rw [List.map_const', List.length_range]
theorem place_inj {C i j a b : Nat} (hj : j < C) (hb : b < C) (h : i * C + j = a * C + b) : i = a ∧ j = b :=
  ⟨by have h1 := congrArg (· / C) h; simpa only [place_div hj, place_div hb] using h1, by have h1 := congrArg (· % C) h; simpa only [place_mod hj, place_mod hb] using h1⟩
theorem grid_set {R C i j : Nat} (f : Nat → Nat → UInt8) (v : UInt8) (hi : i < R) (hj : j < C) : (gridD R C f).set (i * C + j) v = gridD R C (fun a b => if a = i ∧ b = j then v else f a b) := by
  refine grid_ext (by rw [List.length_set, grid_length]) fun a b ha hb => ?_
  rw [List.getElem?_set]
  by_cases h : i * C + j = a * C + b
  · obtain ⟨rfl, rfl⟩ := place_inj hj hb h
    rw [if_pos rfl, if_pos (by rw [grid_length]; exact place_lt hi hj), if_pos ⟨rfl, rfl⟩]
  · rw [if_neg h, grid_get f ha hb, if_neg (by rintro ⟨rfl, rfl⟩; exact h rfl)]
theorem grid_row {R C i : Nat} (f : Nat → Nat → UInt8) (hi : i < R) : ((gridD R C f).drop (i * C)).take C = (List.range C).map (f i) := by
  apply List.ext_getElem?
  intro j
  rw [List.getElem?_take]
  rcases Nat.lt_or_ge j C with hj | hj
  · rw [if_pos hj, List.getElem?_drop, grid_get f hi hj, List.getElem?_map, List.getElem?_range hj]; rfl
  · rw [if_neg (by omega), List.getElem?_eq_none (by simpa using hj)]
def fillT (R C : Nat) (f : Nat → Nat → UInt8) (i j : Nat) : List UInt8 := gridD R C (fun a b => if a < i ∨ (a = i ∧ b < j) then f a b else 0)
theorem fillT_start (R C : Nat) (f : Nat → Nat → UInt8) : List.replicate (R * C) 0 = fillT R C f 0 0 := by
  rw [grid_zero]
  exact grid_congr fun i j _ _ => (if_neg (by omega)).symm
theorem fillT_set {R C i j : Nat} (f : Nat → Nat → UInt8) (hi : i < R) (hj : j < C) : (fillT R C f i j).set (i * C + j) (f i j) = fillT R C f i (j + 1) := by
  unfold fillT
  rw [grid_set _ _ hi hj]
  refine grid_congr fun a b _ _ => ?_
  by_cases h : a = i ∧ b = j
  · rw [if_pos h, if_pos (by omega), h.1, h.2]
  · rw [if_neg h]
    by_cases h2 : a < i ∨ (a = i ∧ b < j)
    · rw [if_pos h2, if_pos (by omega)]
    · rw [if_neg h2, if_neg (by omega)]
theorem fillT_next (R C i : Nat) (f : Nat → Nat → UInt8) : fillT R C f i C = fillT R C f (i + 1) 0 := by
  refine grid_congr fun a b _ hb => ?_
  by_cases h : a < i ∨ (a = i ∧ b < C)
  · rw [if_pos h, if_pos (by omega)]
  · rw [if_neg h, if_neg (by omega)]
theorem fillT_end (R C : Nat) (f : Nat → Nat → UInt8) : fillT R C f R 0 = gridD R C f := grid_congr fun a b ha _ => if_pos (by omega)
theorem fillT_length (R C i j : Nat) (f : Nat → Nat → UInt8) : (fillT R C f i j).length = R * C := grid_length _ _ _
theorem fillT_at {R C i j : Nat} (f : Nat → Nat → UInt8) (hi : i < R) (hj : j < C) : (fillT R C f i j).set (i * C + j) 0 = fillT R C f i j := by
  unfold fillT
  rw [grid_set _ _ hi hj]
  refine grid_congr fun a b _ _ => ?_
  by_cases h : a = i ∧ b = j
  · rw [if_pos h, if_neg (by omega)]
  · rw [if_neg h]
def fillC (R C : Nat) (f : Nat → Nat → UInt8) (j i : Nat) : List UInt8 := gridD R C (fun a b => if b < j ∨ (b = j ∧ a < i) then f a b else 0)
theorem fillC_start (R C : Nat) (f : Nat → Nat → UInt8) : List.replicate (R * C) 0 = fillC R C f 0 0 := by
  rw [grid_zero]
  exact grid_congr fun i j _ _ => (if_neg (by omega)).symm
theorem fillC_set {R C i j : Nat} (f : Nat → Nat → UInt8) (hi : i < R) (hj : j < C) : (fillC R C f j i).set (i * C + j) (f i j) = fillC R C f j (i + 1) := by
  unfold fillC
  rw [grid_set _ _ hi hj]
  refine grid_congr fun a b _ _ => ?_
  by_cases h : a = i ∧ b = j
  · rw [if_pos h, if_pos (by omega), h.1, h.2]
  · rw [if_neg h]
    by_cases h2 : b < j ∨ (b = j ∧ a < i)
    · rw [if_pos h2, if_pos (by omega)]
    · rw [if_neg h2, if_neg (by omega)]
theorem fillC_next (R C j : Nat) (f : Nat → Nat → UInt8) : fillC R C f j R = fillC R C f (j + 1) 0 := by
  refine grid_congr fun a b ha _ => ?_
  by_cases h : b < j ∨ (b = j ∧ a < R)
  · rw [if_pos h, if_pos (by omega)]
  · rw [if_neg h, if_neg (by omega)]
theorem fillC_end (R C : Nat) (f : Nat → Nat → UInt8) : fillC R C f C 0 = gridD R C f := grid_congr fun a b _ hb => if_pos (by omega)
theorem fillC_length (R C i j : Nat) (f : Nat → Nat → UInt8) : (fillC R C f i j).length = R * C := grid_length _ _ _

/-! sums -/
def sumF : Nat → (Nat → UInt8) → UInt8
  | 0, _ => 0
  | n + 1, f => Gf.add (sumF n f) (f n)
theorem sumF_congr {n : Nat} {f g : Nat → UInt8} (h : ∀ i, i < n → f i = g i) : sumF n f = sumF n g := by
  induction n with
  | zero => rfl
  | succ n ih => rw [sumF, sumF, ih (fun i hi => h i (by omega)), h n (by omega)]
theorem dotTo_sum (xs ys : List UInt8) : ∀ n, Gf.dotTo xs ys n = sumF n (fun k => Gf.mul (xs.getD k 0) (ys.getD k 0))
  | 0 => rfl
  | n + 1 => by rw [Gf.dotTo, sumF, dotTo_sum xs ys n]
theorem dot_sum {xs ys : List UInt8} {n : Nat} (h : xs.length = n) : Gf.dot xs ys = sumF n (fun k => Gf.mul (xs.getD k 0) (ys.getD k 0)) := by
  unfold Gf.dot; rw [h, dotTo_sum]
end Go.Proofs.Ythbjcafldbocpaa
namespace Go.Proofs.Ythbjcafldbocpaa
open Go.RowKit
set_option linter.unusedVariables false
set_option linter.unusedSimpArgs false

theorem blank_row (r c : Nat) (p : Nat) (w : World) (hr : r ≤ 64) (hc : c ≤ 64) (hp : Hid (p = r * c)) :
    Calls Try.prog 54 #[.int .i64 (r : Int), .int .i64 (c : Int)] w fun e w' => ∃ g, e = .returned (mV r c (some ⟨g, 0, none⟩) p p) ∧ Row w' g 5 (bVs (List.replicate p 0)) ∧ w.heap.size ≤ g ∧ Below w.heap.size w w' := by
  have hb : p ≤ 4096 := by
    rw [hp.out]
    exact Nat.le_trans (Nat.mul_le_mul hr hc) (by omega)
  have e1 : IntKind.i64.wrap ((r : Int) * (c : Int)) = (p : Int) := by rw [IntKind.wrap_i64, hp.out, Int.natCast_mul]; have := prod_bd (r := r) (c := c) (by omega) (by omega) (by omega) (by omega); omega
  have hmk := make_bytes p (by omega)
  go_enter Try.func54, Try.ntmps54
  go_wp2_with fail
  have hrow := row_made_bytes (w.alloc (Obj.cells #[Value.int IntKind.i64 (r : Int), Value.int IntKind.i64 (c : Int), Value.slice (some ⟨w.heap.size + 1, 0, none⟩) p p] 37)) p
  rw [World.size_alloc] at hrow
  refine bodyPost_ret (v := mV r c (some ⟨w.heap.size + 1, 0, none⟩) p p) (by simp [results, Try.results54, go_sem]) rfl ⟨_, rfl, hrow, by omega, ((Below.refl _ _).alloc (Nat.le_refl _) _).alloc (by simp) _⟩
end Go.Proofs.Ythbjcafldbocpaa
namespace Go.Proofs.Ythbjcafldbocpaa
open Go.RowKit
set_option linter.unusedVariables false
set_option linter.unusedSimpArgs false

def rowA (A : Option Addr) (c k : Nat) : Option Addr := if c = 0 then A else A.map (·.add k)
theorem rowA_plain {g o c k : Nat} (h : c ≠ 0) : rowA (some ⟨g, o, none⟩) c k = some ⟨g, o + k, none⟩ := by
  unfold rowA
  rw [if_neg h]
  simp [Addr.add]
theorem rd_row {w : World} {B n c k : Nat} {A : Option Addr} {xs : List UInt8} (h : Rd w B A n (bVs xs)) (hk : k + c ≤ n) : Rd w B (rowA A c k) c (bVs ((xs.drop k).take c)) := by
  have hl := h.len
  rw [bVs_length] at hl
  refine ⟨by rw [bVs_length, List.length_take, List.length_drop]; omega, fun hc => ?_⟩
  obtain ⟨g, o, rfl, hg, hcell⟩ := h.2 (by omega)
  refine ⟨g, o + k, rowA_plain (by omega), hg, fun j u hu => ?_⟩
  rw [Nat.add_assoc]
  refine hcell (k + j) u ?_
  rw [← hu]
  have hj : j < c := by
    rcases Nat.lt_or_ge j c with h | h
    · exact h
    · rw [List.getElem?_eq_none (by rw [bVs_length, List.length_take]; omega)] at hu; cases hu
  simp [bVs, List.getElem?_take, hj, List.getElem?_drop]
set_option maxHeartbeats 800000 in
theorem row_calls (r c i : Nat) (A : Option Addr) (n cap k k1 : Nat) (w : World) (hr : r ≤ 64) (hc : c ≤ 64) (hi : i < r) (hk : Hid (k = i * c)) (hk1 : Hid (k1 = (i + 1) * c)) (hn : k1 ≤ n) (hcap : n ≤ cap) :
    Calls Try.prog 57 #[mV r c A n cap, .int .i64 (i : Int)] w fun e w' => e = .returned (.slice (rowA A c k) c c) ∧ Below w.heap.size w w' := by
  have hkc : k + c = k1 := by rw [hk.out, hk1.out, Nat.add_mul]; omega
  have hb : k1 ≤ 4096 := by
    rw [hk1.out]
    exact Nat.le_trans (Nat.mul_le_mul (show i + 1 ≤ 64 by omega) hc) (by omega)
  have e1 : IntKind.i64.wrap ((i : Int) * (c : Int)) = (k : Int) := by rw [← Int.natCast_mul, ← hk.out, IntKind.wrap_i64]; omega
  have e2 : IntKind.i64.wrap (((i : Int) + 1) * (c : Int)) = (k1 : Int) := by
    have : ((i : Int) + 1) * (c : Int) = ((i + 1) * c : Nat) := by simp
    rw [this, ← hk1.out, IntKind.wrap_i64]; omega
  have HKC := Lib.hid hkc
  have e3 : IntKind.i64.wrap ((i : Int) + 1) = (i : Int) + 1 := by rw [IntKind.wrap_i64]; omega
  have hkk : k ≤ k1 := by omega
  by_cases hz : c = 0
  · obtain rfl : k1 = k := by omega
    have HA := Lib.hid (show rowA A c k1 = A by unfold rowA; rw [if_pos hz])
    have HZ := Lib.hid hz
    clear hz hkc
    go_enter Try.func57, Try.ntmps57
    go_wp2_with fail
    go_quiet (fail)
    go_wp2_with fail
    go_ret
    exact ⟨by rw [HA.out, HZ.out]; rfl, below_drewN ((Below.refl _ _).alloc (Nat.le_refl _) _) _⟩
  · have hne : ¬ k1 = k := by omega
    have HA := Lib.hid (show rowA A c k = A.map (·.add k) by unfold rowA; rw [if_neg hz])
    have HE := Lib.hid (show k1 - k = c by omega)
    clear hz hkc
    go_enter Try.func57, Try.ntmps57
    go_wp2_with fail
    go_quiet (fail)
    go_wp2_with fail
    go_ret
    exact ⟨by rw [HA.out]; show Ending.returned (Value.slice _ (k1 - k) (k1 - k)) = _; rw [HE.out], below_drewN ((Below.refl _ _).alloc (Nat.le_refl _) _) _⟩
end Go.Proofs.Ythbjcafldbocpaa
namespace Go.Proofs.Ythbjcafldbocpaa
open Go.RowKit
set_option linter.unusedVariables false
set_option linter.unusedSimpArgs false

def turnF (c : Nat) (xs : List UInt8) (j i : Nat) : UInt8 := xs.getD (i * c + j) 0
def turnD (r c : Nat) (xs : List UInt8) : List UInt8 := gridD c r (turnF c xs)
set_option maxRecDepth 100000 in
set_option maxHeartbeats 3200000 in
theorem turned_calls (r c n : Nat) (A : Option Addr) (cap : Nat) (xs : List UInt8) (w : World) (hr : r ≤ 64) (hc : c ≤ 64) (hn : Hid (n = r * c)) (hrd : Rd w w.heap.size A n (bVs xs)) (hcap : n ≤ cap) :
    Calls Try.prog 55 #[mV r c A n cap] w fun e w' => ∃ g, e = .returned (mV c r (some ⟨g, 0, none⟩) n n) ∧ Row w' g 5 (bVs (turnD r c xs)) ∧ w.heap.size ≤ g ∧ Below w.heap.size w w' := by
  have hn2 : Hid (n = c * r) := Lib.hid (by rw [hn.out, Nat.mul_comm])
  have S := ((Ctx.start w).box [.int .i64 r, .int .i64 c, .slice A n cap]).box [.int .i64 0, .int .i64 0, .slice none 0 0]
  obtain ⟨c0, c1, c2⟩ := S.cells 1 rfl
  go_enter Try.func55, Try.ntmps55
  go_wp2_with fail
  refine (blank_row c r n _ hc hr hn2).mono ?_
  rintro e w1 ⟨gt, rfl, hrow, hgt, hb⟩
  have hs := hb.size
  have hgl := hrow.lt
  simp at hs hgt
  replace S := (S.go hb).box [.int .i64 (c : Int), .int .i64 (r : Int), .slice (some ⟨gt, 0, none⟩) n n]
  replace hrow := hrow.alloc (.cells #[.int .i64 (c : Int), .int .i64 (r : Int), .slice (some ⟨gt, 0, none⟩) n n] 37)
  rw [World.size_alloc] at S
  obtain ⟨BS, hBS⟩ : ∃ BS : List (Nat × List Value), BS = [(w1.heap.size, [.int .i64 (c : Int), .int .i64 (r : Int), .slice (some ⟨gt, 0, none⟩) n n]), (w.heap.size + 1, [.int .i64 0, .int .i64 0, .slice none 0 0]), (w.heap.size, [.int .i64 r, .int .i64 c, .slice A n cap])] := ⟨_, rfl⟩
  rw [← hBS] at S
  have HC := Lib.hid (show ∀ x : World, Ctx w x BS [] → x.cell? ⟨w.heap.size, 0, none⟩ = some (.int .i64 r) ∧ x.cell? ⟨w.heap.size, 1, none⟩ = some (.int .i64 c) ∧ x.cell? ⟨w.heap.size, 2, none⟩ = some (.slice A n cap) ∧ x.cell? ⟨w1.heap.size, 0, none⟩ = some (.int .i64 c) ∧ x.cell? ⟨w1.heap.size, 1, none⟩ = some (.int .i64 r) ∧ x.cell? ⟨w1.heap.size, 2, none⟩ = some (.slice (some ⟨gt, 0, none⟩) n n) by
    rw [hBS]
    exact fun x q => ⟨(q.cells 2 rfl).1, (q.cells 2 rfl).2.1, (q.cells 2 rfl).2.2, (q.cells 0 rfl).1, (q.cells 0 rfl).2.1, (q.cells 0 rfl).2.2⟩)
  have HE := Lib.hid (show ∀ x : World, Ctx w x BS [] → Row x (w.heap.size + 1) 37 [.int .i64 0, .int .i64 0, .slice none 0 0] by rw [hBS]; exact fun x q => q.row 1 rfl)
  have HSET := Lib.hid (show ∀ (x : World) (q : Nat) (v : Value), Ctx w x BS [] → Ctx w (x.setCell ⟨gt, q, none⟩ v) BS [] by
    intro x q v h
    refine h.set (p := ⟨gt, q, none⟩) (by simp; omega) ?_ v
    rw [hBS]
    simp
    omega)
  clear hBS c0 c1 c2 hb
  obtain ⟨c0, c1, c2, d0, d1, d2⟩ := HC.out _ S
  have HF0 := fillC_start c r (turnF c xs)
  rw [← hn2.out] at HF0
  rw [HF0] at hrow
  have HS := Lib.hid S
  have HROW := Lib.hid hrow
  clear S hrow HF0
  go_wp2_with fail
  go_loopw [13] (fun v13 wr => ∃ i : Nat, i ≤ r ∧ v13 = .int .i64 (i : Int) ∧ Row wr gt 5 (bVs (fillC c r (turnF c xs) i 0)) ∧ Ctx w wr BS []) (fun v13 _ => r - (intOf v13).toNat)
  case atStart => exact ⟨0, by omega, rfl, HROW.out, HS.out⟩
  case round =>
    obtain ⟨i, hi, rfl, hrow, S⟩ := hrel
    clear HROW HS c0 c1 c2 d0 d1 d2
    obtain ⟨wo, rfl⟩ : ∃ wo : World, wo = wr := ⟨_, rfl⟩
    obtain ⟨c0, c1, c2, d0, d1, d2⟩ := HC.out _ S
    have HS := Lib.hid S
    have HROW := Lib.hid hrow
    clear S hrow
    by_cases hlt : i < r
    · go_wp2_with fail
      clear c0 c1 c2 d0 d1 d2
      go_loopw [18] (fun v18 wr => ∃ j : Nat, j ≤ c ∧ v18 = .int .i64 (j : Int) ∧ Row wr gt 5 (bVs (fillC c r (turnF c xs) i j)) ∧ Ctx w wr BS []) (fun v18 _ => c - (intOf v18).toNat)
      case atStart => exact ⟨0, by omega, rfl, HROW.out, HS.out⟩
      case round =>
        obtain ⟨j, hj, rfl, hrow, S⟩ := hrel
        clear HROW HS
        obtain ⟨c0, c1, c2, d0, d1, d2⟩ := HC.out _ S
        by_cases hlj : j < c
        · have HF := Lib.hid (fillC_set (R := c) (C := r) (i := j) (j := i) (turnF c xs) hlj hlt)
          obtain ⟨new, hnew⟩ : ∃ new, new = fillC c r (turnF c xs) i (j + 1) := ⟨_, rfl⟩
          rw [← hnew] at HF
          have HNEW := Lib.hid hnew
          have hlen := fillC_length c r i j (turnF c xs)
          have hq := place_lt hlj hlt
          have hp := place_lt hlt hlj
          obtain ⟨v, hv⟩ : ∃ v, v = xs.getD (i * c + j) 0 := ⟨_, rfl⟩
          have HV := Lib.hid hv
          rw [show turnF c xs j i = v from hv.symm] at HF
          have e1 : (i + 1) * c = i * c + c := by rw [Nat.add_mul]; omega
          have e2 : (j + 1) * r = j * r + r := by rw [Nat.add_mul]; omega
          have hk1 : i * c + c ≤ n := by rw [hn.out, ← e1]; exact Nat.mul_le_mul_right c hlt
          have hk2 : j * r + r ≤ n := by rw [hn2.out, ← e2]; exact Nat.mul_le_mul_right r hlj
          rw [← hn.out] at hp
          rw [← hn2.out] at hq hlen
          obtain ⟨kr, hkr⟩ : ∃ k, k = i * c := ⟨_, rfl⟩
          obtain ⟨kt, hkt⟩ : ∃ k, k = j * r := ⟨_, rfl⟩
          have HR1 := Lib.hid (fun w => row_calls c r j (some ⟨gt, 0, none⟩) n n kt (kt + r) w hc hr hlj hkt (Lib.hid (by rw [hkt]; exact e2.symm)) (by rw [hkt]; exact hk2) (Nat.le_refl _))
          have HR2 := Lib.hid (fun w => row_calls r c i A n cap kr (kr + c) w hr hc hlt hkr (Lib.hid (by rw [hkr]; exact e1.symm)) (by rw [hkr]; exact hk1) hcap)
          rw [rowA_plain (by omega), Nat.zero_add] at HR1
          rw [← hkr] at hp hv hk1
          rw [← hkt] at hq hk2 HF
          clear hkr hkt e1 e2 hnew HV
          obtain ⟨g, o, rfl, hg, hcell⟩ := rd_get hrd hp
          rw [← hv, ← Nat.add_assoc] at hcell
          rw [rowA_plain (by omega)] at HR2
          clear hv
          obtain ⟨P, hP⟩ : ∃ P : World → Prop, P = fun x => Ctx w x BS [] ∧ CurS x gt (kt + i) v new := ⟨_, rfl⟩
          have hp0 : P wr := by rw [hP]; exact ⟨S, _, by rw [hlen]; exact hq, HF.out, hrow⟩
          obtain ⟨cur, hcur⟩ : ∃ cur : World → Value, ∀ x, P x → x.cell? ⟨gt, kt + i, none⟩ = some (cur x) := by
            refine ⟨fun x => (x.cell? ⟨gt, kt + i, none⟩).getD (.bool false), fun x hx => ?_⟩
            rw [hP] at hx
            obtain ⟨old, h⟩ := hx.2.cell
            simp [h]
          have HG := Lib.hid (show ∀ x y : World, P x → Below x.heap.size x y → P y by rw [hP]; exact fun x y q hb => ⟨q.1.go hb, q.2.go hb⟩)
          have HD := Lib.hid (show ∀ x : World, P x → P x.drew by rw [hP]; exact fun x q => ⟨q.1.drew, q.2.drew⟩)
          have HST := Lib.hid (show ∀ x : World, P x → P (x.setCell ⟨gt, kt + i, none⟩ (.int .u8 (v.toNat : Int))) by rw [hP]; exact fun x q => ⟨HSET.out _ _ _ q.1, q.2.set⟩)
          have HCC := Lib.hid (show ∀ x : World, P x → x.cell? ⟨w.heap.size, 0, none⟩ = some (.int .i64 r) ∧ x.cell? ⟨w.heap.size, 1, none⟩ = some (.int .i64 c) ∧ x.cell? ⟨w.heap.size, 2, none⟩ = some (.slice (some ⟨g, o, none⟩) n cap) ∧ x.cell? ⟨w1.heap.size, 0, none⟩ = some (.int .i64 c) ∧ x.cell? ⟨w1.heap.size, 1, none⟩ = some (.int .i64 r) ∧ x.cell? ⟨w1.heap.size, 2, none⟩ = some (.slice (some ⟨gt, 0, none⟩) n n) ∧ x.cell? ⟨g, o + kr + j, none⟩ = some (.int .u8 (v.toNat : Int)) ∧ x.cell? ⟨gt, kt + i, none⟩ = some (cur x) ∧ x.frozen? ⟨gt, kt + i, none⟩ = false by
            intro x q
            have h := hcur x q
            rw [hP] at q
            obtain ⟨q1, q2, q3, q4, q5, q6⟩ := HC.out x q.1
            exact ⟨q1, q2, q3, q4, q5, q6, (q.1.below.cell (p := ⟨g, o + kr + j, none⟩) hg).trans hcell, h, q.2.frozen⟩)
          have HALL := Lib.hid (show ∀ x : World, P (x.setCell ⟨gt, kt + i, none⟩ (.int .u8 (v.toNat : Int))) → Ctx w (x.setCell ⟨gt, kt + i, none⟩ (.int .u8 (v.toNat : Int))) BS [] ∧ Row (x.setCell ⟨gt, kt + i, none⟩ (.int .u8 (v.toNat : Int))) gt 5 (bVs new) by rw [hP]; exact fun x q => ⟨q.1, q.2.fin⟩)
          clear hP hcur S hrow hcell
          go_wp2_with fail
          have hc := HCC.out _ hp0
          go_region_held3 (fun x => P x ∧ x.cell? ⟨w.heap.size, 0, none⟩ = some (.int .i64 r) ∧ x.cell? ⟨w.heap.size, 1, none⟩ = some (.int .i64 c) ∧ x.cell? ⟨w.heap.size, 2, none⟩ = some (.slice (some ⟨g, o, none⟩) n cap) ∧ x.cell? ⟨w1.heap.size, 0, none⟩ = some (.int .i64 c) ∧ x.cell? ⟨w1.heap.size, 1, none⟩ = some (.int .i64 r) ∧ x.cell? ⟨w1.heap.size, 2, none⟩ = some (.slice (some ⟨gt, 0, none⟩) n n) ∧ x.cell? ⟨g, o + kr + j, none⟩ = some (.int .u8 (v.toNat : Int)) ∧ x.cell? ⟨gt, kt + i, none⟩ = some (cur x) ∧ x.frozen? ⟨gt, kt + i, none⟩ = false)
            (first | (go_split_ands; have q := HG.out _ _ (by assumption) hbk; exact ⟨q, HCC.out _ q⟩) | (go_split_ands; have q := HST.out _ (by assumption); exact ⟨q, HCC.out _ q⟩) | (go_split_ands; have q := HD.out _ (by assumption); exact ⟨q, HCC.out _ q⟩))
            (first | (go_at_call 57; (first | (with_reducible refine (HR1.out _).mono ?_) | (with_reducible refine (HR2.out _).mono ?_)); rintro e wk ⟨rfl, hbk⟩))
          go_wp2_with fail
          go_split_ands
          go_roundw
          case rel => exact ⟨j + 1, by omega, by go_num, by rw [← HNEW.out]; exact (HALL.out _ (by assumption)).2, (HALL.out _ (by assumption)).1⟩
          case measure => simp [intOf]; omega
        · obtain rfl : j = c := by omega
          have HN := Lib.hid (fillC_next j r i (turnF j xs))
          go_wp2_with fail
          go_roundw
          case rel => exact ⟨i + 1, by omega, by go_num, by rw [← HN.out]; exact hrow, S⟩
          case measure => simp [intOf]; omega
    · obtain rfl : i = r := by omega
      obtain ⟨e0, e1, e2, f0, f1, f2⟩ := (HE.out _ HS.out).three
      have HN := Lib.hid (fillC_end c i (turnF c xs))
      go_wp2_with fail
      refine bodyPost_ret (v := mV c i (some ⟨gt, 0, none⟩) n n) (by simp [results, Try.results55, go_sem, e0, e1, e2]) rfl ⟨gt, rfl, ?_, by omega, below_set3 HS.out.below (by omega) _ _ _⟩
      have h := HROW.out
      rw [HN.out] at h
      exact h.far3 (by omega) _ _ _
end Go.Proofs.Ythbjcafldbocpaa
namespace Go.Proofs.Ythbjcafldbocpaa
open Go.RowKit
set_option linter.unusedVariables false
set_option linter.unusedSimpArgs false

def mulF (ca cb : Nat) (xs ys : List UInt8) (i j : Nat) : UInt8 := sumF ca fun k => Gf.mul (xs.getD (i * ca + k) 0) (ys.getD (k * cb + j) 0)
def mulG (ra ca cb : Nat) (xs ys : List UInt8) : List UInt8 := gridD ra cb (mulF ca cb xs ys)
theorem dot_rows {ra ca cb i j : Nat} {xs ys : List UInt8} (hx : xs.length = ra * ca) (hi : i < ra) (hj : j < cb) :
    Gf.dot ((xs.drop (i * ca)).take ca) (((turnD ca cb ys).drop (j * ca)).take ca) = mulF ca cb xs ys i j := by
  have hl : ((xs.drop (i * ca)).take ca).length = ca := by
    rw [List.length_take, List.length_drop, hx]
    have h : (i + 1) * ca ≤ ra * ca := Nat.mul_le_mul_right ca hi
    rw [Nat.add_mul] at h
    omega
  rw [dot_sum hl]
  unfold mulF turnD
  rw [grid_row _ hj]
  refine sumF_congr fun k hk => ?_
  congr 1
  · rw [List.getD_eq_getElem?_getD, List.getElem?_take, if_pos hk, List.getElem?_drop, List.getD_eq_getElem?_getD]
  · rw [List.getD_eq_getElem?_getD, List.getElem?_map, List.getElem?_range hk]
    rfl
theorem turnD_length (r c : Nat) (xs : List UInt8) : (turnD r c xs).length = c * r := grid_length _ _ _
def mulB (ra ca : Int) (n : Nat) (rb cb : Int) (m : Nat) : Bool := rightB ra ca n && rightB rb cb m && (ca == rb)
theorem right_natW {r c : Int} {n : Nat} (h : rightB r c n = true) : ∃ a b : Nat, r = a ∧ c = b ∧ a ≤ 64 ∧ b ≤ 64 ∧ n = a * b := by
  simp [rightB] at h
  refine ⟨r.toNat, c.toNat, by omega, by omega, by omega, by omega, ?_⟩
  apply Int.ofNat_inj.1
  rw [Int.natCast_mul, Int.toNat_of_nonneg h.1.1, Int.toNat_of_nonneg h.2.1.1]
  exact h.2.2
theorem mulB_natW {ra ca rb cb : Int} {na nb : Nat} (h : mulB ra ca na rb cb nb = true) : ∃ a b c : Nat, ra = a ∧ ca = b ∧ rb = b ∧ cb = c ∧ a ≤ 64 ∧ b ≤ 64 ∧ c ≤ 64 ∧ na = a * b ∧ nb = b * c := by
  simp [mulB] at h
  obtain ⟨a, b, h1, h2, h3, h4, h5⟩ := right_natW h.1.1
  obtain ⟨b', c, h6, h7, h8, h9, h10⟩ := right_natW h.1.2
  have := h.2
  obtain rfl : b = b' := by omega
  exact ⟨a, b, c, h1, h2, h6, h7, h3, h4, h9, h5, h10⟩
end Go.Proofs.Ythbjcafldbocpaa
