/- What the functions compute that the law VerifyTurned reaches, proved by walking them; conditions stand at each theorem. -/
import Derived.OwnWalk
import Derived.RegionTactic
import Derived.Deep.AppendLies
import Derived.Maps.AppendAt
import Derived.Deep.CutBlock
import Derived.Laws.BitsAllLaws
import Derived.Lib.Hide
import Derived.Deep.RegionHeld3
import Derived.Deep.QuietTactic
import Derived.BigQuiet
import Derived.Laws.IdiomStrings
import Derived.Laws.BytesArg
import Derived.Deep.CutRange
import Derived.Deep.Cut
import Derived.ProofKit
import Derived.OpenShut
import Derived.ChangeOld
import Derived.SizedLaws
import Derived.Test.YthbjcafldbocpaaCVerifyTurnedA1
namespace Go.Proofs.Ythbjcafldbocpaa
open Go.RowKit
set_option linter.unusedVariables false
set_option linter.unusedSimpArgs false

def OwnV (w : World) (base : Nat) (v : Value) (xs : List UInt8) : Prop := w.ownsRow base 5 1 v xs.length (bVs xs)
theorem OwnV.nil (w : World) (base : Nat) : OwnV w base (.slice none 0 0) [] := ⟨rfl, .inl ⟨rfl, rfl⟩⟩
theorem OwnV.slice {w : World} {base : Nat} {v : Value} {xs : List UInt8} (h : OwnV w base v xs) : ∃ A cap, v = .slice A xs.length cap ∧ OwnB w base A xs.length cap xs := by
  rcases h.2 with ⟨rfl, h0⟩ | ⟨g, cap, cur, rfl, hrest⟩
  · rw [h0]; exact ⟨none, 0, rfl, h0, by have := h; unfold OwnV at this; rw [h0] at this; exact this⟩
  · exact ⟨_, _, rfl, rfl, h⟩
theorem OwnV.drewN {w : World} {base : Nat} {v : Value} {xs : List UInt8} (h : OwnV w base v xs) (k : Nat) : OwnV (w.drewN k) base v xs := h
theorem OwnV.below {w w' : World} {base : Nat} {v : Value} {xs : List UInt8} (h : OwnV w base v xs) (hb : Below w.heap.size w w') : OwnV w' base v xs := by
  have hg : w.grownBy w' (some w.heap.size) := ⟨hb.os, hb.tape, hb.output, hb.size, fun k hk _ => hb.block k hk⟩
  refine World.ownsRow.kept h hg ?_
  rcases hv : v.ownBlock with _ | q
  · exact .inl rfl
  · refine .inr (fun e => ?_)
    have := (World.ownsRow.lt h q hv).2
    injection e with e
    omega
theorem OwnV.kept {w w' : World} {base : Nat} {v : Value} {xs : List UInt8} {row : Option Nat} (h : OwnV w base v xs) (hg : w.grownBy w' row) (hne : v.ownBlock = none ∨ v.ownBlock ≠ row) : OwnV w' base v xs := World.ownsRow.kept h hg hne

theorem wpList_append_byte {ops : Array Oper} {rest : List Oper} {o : Oper} {a : Act} {w0 : World} {Q : Exit → Act → World → Prop} (s x : Operand) (hgd : o.guard = none)
    (ho : o.op = .call { callee := .builtin .append, args := #[s, x], argTypes := #[35, 35] })
    (base : Nat) (v : Value) (xs : List UInt8) (y : UInt8) (hs : a.eval s = v) (hown : OwnV w0 base v xs) (hx : a.eval x = .slice (some ⟨w0.heap.size, 0, none⟩) 1 1)
    (hlen : xs.length + 1 ≤ 140737488355328) (hbase : base ≤ w0.heap.size)
    (h : ∀ v' w', OwnV w' base v' (xs ++ [y]) → Below base w0 w' → w0.grownBy w' v.ownBlock → wpList Try.prog ops Q rest (a.put o.dst v') w') :
    wpList Try.prog ops Q (o :: rest) a (w0.alloc (.cells #[.int .u8 (y.toNat : Int)] 5)) := by
  obtain ⟨i, hi, hz, hsz, hby⟩ := info_parts u8_info
  refine wpList_append_own _ hgd s x 35 ho base 5 i (.int .u8 0) 1 1 Try.underlying35 hi hz hsz hby rfl (by decide) v xs.length (bVs xs) hs (World.ownsRow.alloc hown _) ⟨w0.heap.size, 0, none⟩ 1 1 (bVs [y]) hx rfl ?_ ?_ ?_ ?_ ?_ ?_
  · intro j u hu
    have hj : j = 0 := by
      rcases Nat.lt_or_ge j (bVs [y]).length with hlt | hge
      · simp [bVs] at hlt; omega
      · rw [List.getElem?_eq_none hge] at hu; cases hu
    subst hj
    simp only [bVs, List.map_cons, List.map_nil, List.getElem?_cons_zero, Option.some.injEq] at hu
    subst hu
    simp [Addr.add]
  · exact fun u hu => bVs_one hu
  · simp only [maxLen]; omega
  · omega
  · simp; omega
  · intro v' w' hown' hg _
    refine h v' w' ?_ ?_ ?_
    · unfold OwnV
      rw [bVs_append, List.length_append]
      exact hown'
    · exact ((Below.refl base w0).alloc hbase _).grown hg (by simp; omega) (fun k hk => (hown.lt k hk).1)
    · exact ⟨hg.os, hg.tape, hg.output, Nat.le_trans (by simp) hg.size, fun k hk hne => (hg.block k (by simp; omega) hne).trans (Below.heap_alloc _ _ _ hk)⟩

theorem step_append_byte {ops : Array Oper} {o : Oper} {a : Act} {W : World} {K : Act → World → Prop} {Q : Exit → Act → World → Prop} {E : Prop} (s x : Operand) (hgd : o.guard = none)
    (ho : o.op = .call { callee := .builtin .append, args := #[s, x], argTypes := #[35, 35] })
    (base gx : Nat) (v : Value) (xs : List UInt8) (y : UInt8) (hs : a.eval s = v) (hown : OwnV W base v xs) (hx : a.eval x = .slice (some ⟨gx, 0, none⟩) 1 1) (hc : W.cell? ⟨gx, 0, none⟩ = some (.int .u8 (y.toNat : Int)))
    (hlen : xs.length + 1 ≤ 140737488355328) (hbase : base ≤ W.heap.size)
    (h : ∀ v' w', OwnV w' base v' (xs ++ [y]) → Below base W w' → W.grownBy w' v.ownBlock → K (a.put o.dst v') w') :
    if Region.wanted o (yielded ops a.tmps) = true then Oper.wp Try.prog o a W K Q else E := by
  have hw : Region.wanted o (yielded ops a.tmps) = true := by simp [Region.wanted, hgd]
  rw [if_pos hw]
  obtain ⟨i, hi, hz, hsz, hby⟩ := info_parts u8_info
  refine wp_append_own _ s x 35 ho base 5 i (.int .u8 0) 1 1 Try.underlying35 hi hz hsz hby rfl (by decide) v xs.length (bVs xs) hs hown ⟨gx, 0, none⟩ 1 1 (bVs [y]) hx rfl ?_ ?_ ?_ ?_ hbase ?_
  · intro j u hu
    have hj : j = 0 := by
      rcases Nat.lt_or_ge j (bVs [y]).length with hlt | hge
      · simp [bVs] at hlt; omega
      · rw [List.getElem?_eq_none hge] at hu; cases hu
    subst hj
    simp only [bVs, List.map_cons, List.map_nil, List.getElem?_cons_zero, Option.some.injEq] at hu
    subst hu
    simpa [Addr.add] using hc
  · exact fun u hu => bVs_one hu
  · simp only [maxLen]; omega
  · omega
  · intro v' w' hown' hg _
    refine h v' w' ?_ ((Below.refl base W).grown hg hbase (fun k hk => (hown.lt k hk).1)) hg
    unfold OwnV
    rw [bVs_append, List.length_append]
    exact hown'

theorem run_append_nil_any (w : World) (base : Nat) (ty : TypeId) (v : Value) (xs : List UInt8) (hown : OwnV w base v xs) (c : Nat) :
    (Builtin.append_ #[35, 35] ty #[v, .slice none 0 c]).run Try.prog w = .ok v w := by
  obtain ⟨i, hi, hz, hsz, hby⟩ := info_parts u8_info
  have ht := Try.underlying35
  rcases hown.2 with ⟨rfl, h0⟩ | ⟨g, cap, cur, rfl, _, _, hnc, _⟩
  · simp [Builtin.append_, run_underlying ht, sizeOf, typeInfo, hi, Builtin.lenOf, Builtin.firstCells]
  · simp [Builtin.append_, run_underlying ht, sizeOf, typeInfo, hi, Builtin.lenOf, Builtin.firstCells, hnc, storeCells]
set_option maxRecDepth 100000 in
theorem run_append_rd (w : World) (base : Nat) (ty : TypeId) (v : Value) (xs ys : List UInt8) (hown : OwnV w base v xs) (B : Nat) (A : Option Addr) (m c : Nat) (hr : Rd w B A m (bVs ys))
    (hlen : xs.length + m ≤ 140737488355328) (hbase : base ≤ w.heap.size) :
    ∃ v' w', (Builtin.append_ #[35, 35] ty #[v, .slice A m c]).run Try.prog w = .ok v' w' ∧ OwnV w' base v' (xs ++ ys) ∧ w.grownBy w' v.ownBlock ∧ (v'.ownBlock = v.ownBlock ∨ v'.ownBlock = some w.heap.size) := by
  have hm := hr.len
  rw [bVs_length] at hm
  rcases A with _ | ad
  · have h0 : m = 0 := by
      rcases Nat.eq_zero_or_pos m with h | h
      · exact h
      · obtain ⟨g, o, hA, _⟩ := hr.2 h; cases hA
    subst h0
    have hy : ys = [] := List.eq_nil_of_length_eq_zero hm
    subst hy
    exact ⟨v, w, run_append_nil_any w base ty v xs hown c, by rw [List.append_nil]; exact hown, World.grownBy.refl w _, .inl rfl⟩
  · obtain ⟨i, hi, hz, hsz, hby⟩ := info_parts u8_info
    obtain ⟨v', w', hrun, h2, h3, _, h5⟩ := run_append_own_at (P := Try.prog) w base 35 ty 5 i (.int .u8 0) 1 1 Try.underlying35 hi hz hsz hby rfl (by decide) v xs.length (bVs xs) hown ad m c (bVs ys) (by rw [bVs_length]; omega)
      (fun j u hu => by
        have hj : j < m := by
          rcases Nat.lt_or_ge j m with h | h
          · exact h
          · rw [List.getElem?_eq_none (by rw [bVs_length]; omega)] at hu; cases hu
        obtain ⟨g, o, hA, _, hc⟩ := hr.2 (by omega)
        injection hA with hA
        subst hA
        have := hc j u hu
        unfold Addr.add
        split
        · next h0 => subst h0; simpa using this
        · exact this)
      (fun u hu => bVs_one hu) (by simp only [maxLen]; omega) (by omega) hbase
    refine ⟨v', w', hrun, ?_, h3, h5⟩
    unfold OwnV
    rw [bVs_append, List.length_append, hm]
    exact h2
theorem wpList_append_rd {ops : Array Oper} {rest : List Oper} {o : Oper} {a : Act} {W : World} {Q : Exit → Act → World → Prop} (s x : Operand) (hgd : o.guard = none)
    (ho : o.op = .call { callee := .builtin .append, args := #[s, x], argTypes := #[35, 35] })
    (base : Nat) (v : Value) (xs ys : List UInt8) (hs : a.eval s = v) (hown : OwnV W base v xs) (B : Nat) (A : Option Addr) (m c : Nat) (hx : a.eval x = .slice A m c) (hr : Rd W B A m (bVs ys))
    (hlen : xs.length + m ≤ 140737488355328) (hbase : base ≤ W.heap.size)
    (h : ∀ v' w', OwnV w' base v' (xs ++ ys) → W.grownBy w' v.ownBlock → (v'.ownBlock = v.ownBlock ∨ v'.ownBlock = some W.heap.size) → wpList Try.prog ops Q rest (a.put o.dst v') w') : wpList Try.prog ops Q (o :: rest) a W := by
  obtain ⟨v', w', hrun, h1, h2, h3⟩ := run_append_rd W base o.type v xs ys hown B A m c hr hlen hbase
  refine wpList_plain hgd fun _ hK => ?_
  unfold Oper.wp execOp
  simp only [ho, resolve, invoke, builtin, Sem.run_bind, Sem.run_pure, Result.andThen_ok, List.map_toArray, List.map_cons, List.map_nil, hs, hx, hrun]
  exact hK _ _ (h v' w' h1 h2 h3)
theorem grown_below {B : Nat} {w w' : World} {row : Option Nat} (hg : w.grownBy w' row) (hB : B ≤ w.heap.size) (hr : ∀ k, row = some k → B ≤ k) : Below B w w' := (Below.refl B w).grown hg hB hr
theorem grown_setCell {a w : World} {row : Option Nat} (h : a.grownBy w row) {p : Addr} (hp : some p.block = row ∨ a.heap.size ≤ p.block) (u : Value) : a.grownBy (w.setCell p u) row :=
  ⟨h.os, h.tape, h.output, by simpa using h.size, fun k hk hne => (Below.heap_setCell w p u k (by
    rintro rfl
    rcases hp with hp | hp
    · exact hne hp
    · omega)).trans (h.block k hk hne)⟩
end Go.Proofs.Ythbjcafldbocpaa
namespace Go.Proofs.Ythbjcafldbocpaa
open Go.RowKit
set_option linter.unusedVariables false
set_option linter.unusedSimpArgs false

theorem Ctx.set {w0 w : World} {bs : List (Nat × List Value)} (h : Ctx w0 w bs []) {p : Addr} (hp : w0.heap.size ≤ p.block) (hn : ∀ b ∈ bs, b.1 ≠ p.block) (u : Value) : Ctx w0 (w.setCell p u) bs [] :=
  ⟨h.below.setCell hp u, fun b hm => (h.rows b hm).far (hn b hm) u, fun r hm => absurd hm (by simp)⟩
def CurS (w : World) (g q : Nat) (v : UInt8) (new : List UInt8) : Prop := ∃ l : List UInt8, q < l.length ∧ l.set q v = new ∧ Row w g 5 (bVs l)
section
variable {w w' : World} {g q : Nat} {v : UInt8} {new : List UInt8}
theorem CurS.go (h : CurS w g q v new) (hb : Below w.heap.size w w') : CurS w' g q v new := by
  obtain ⟨l, h1, h2, h3⟩ := h
  exact ⟨l, h1, h2, h3.below hb h3.lt⟩
theorem CurS.drew (h : CurS w g q v new) : CurS w.drew g q v new := h
theorem CurS.cell (h : CurS w g q v new) : ∃ old, w.cell? ⟨g, q, none⟩ = some old := by
  obtain ⟨l, h1, h2, h3⟩ := h
  exact h3.has (by rw [bVs_length]; exact h1)
theorem CurS.frozen (h : CurS w g q v new) : w.frozen? ⟨g, q, none⟩ = false := by
  obtain ⟨l, h1, h2, h3⟩ := h
  exact h3.frozen q
theorem CurS.done (h : CurS w g q v new) : Row (w.setCell ⟨g, q, none⟩ (.int .u8 (v.toNat : Int))) g 5 (bVs new) := by
  obtain ⟨l, h1, h2, h3⟩ := h
  have := h3.set q (.int .u8 (v.toNat : Int))
  rwa [bVs_set, h2] at this
theorem CurS.set (h : CurS w g q v new) : CurS (w.setCell ⟨g, q, none⟩ (.int .u8 (v.toNat : Int))) g q v new := by
  have hd := h.done
  obtain ⟨l, h1, h2, h3⟩ := h
  refine ⟨new, by rw [← h2, List.length_set]; exact h1, ?_, hd⟩
  rw [← h2, List.set_set]
theorem CurS.lt (h : CurS w g q v new) : g < w.heap.size := by
  obtain ⟨l, h1, h2, h3⟩ := h
  exact h3.lt
end
end Go.Proofs.Ythbjcafldbocpaa
namespace Go.Proofs.Ythbjcafldbocpaa
open Go.RowKit
set_option linter.unusedVariables false
set_option linter.unusedSimpArgs false

section
variable {x y : World} {g : Nat} {t t' : TypeId} {ys : List Value} {o o' : Obj} {a b c : Value}
theorem Row.newE (x : World) (cs : List Value) (t : TypeId) (e : g = x.heap.size) : Row (x.alloc (.cells cs.toArray t)) g t cs := by rw [e]; exact Row.new x cs t
theorem Row.drew (r : Row x g t ys) : Row x.drew g t ys := r
theorem Ctx.cons {w0 : World} {bs : List (Nat × List Value)} (h : Ctx w0 x bs []) (r : Row x g 37 ys) : Ctx w0 x ((g, ys) :: bs) [] :=
  ⟨h.below, fun b hm => by
    rcases List.mem_cons.1 hm with rfl | hm
    · exact r
    · exact h.rows b hm, fun r hm => absurd hm (by simp)⟩
theorem Row.rd {xs : List UInt8} {n : Nat} (r : Row x g 5 (bVs xs)) (hn : xs.length = n) : Rd x x.heap.size (some ⟨g, 0, none⟩) n (bVs xs) := by
  refine ⟨by rw [bVs_length, hn], fun _ => ⟨g, 0, rfl, r.lt, fun j u hu => ?_⟩⟩
  rw [Nat.zero_add, r.cell, hu]
theorem Row.two (h : Row x g t [a, b, c]) : x.cell? ⟨g, 0, none⟩ = some a ∧ x.cell? ⟨g, 1, none⟩ = some b ∧ x.cell? ⟨g, 2, none⟩ = some c ∧ x.frozen? ⟨g, 0, none⟩ = false ∧ x.frozen? ⟨g, 1, none⟩ = false ∧ x.frozen? ⟨g, 2, none⟩ = false ∧ g < x.heap.size := by
  obtain ⟨h0, h1, h2, h3, h4, h5⟩ := h.three
  exact ⟨h0, h1, h2, h3, h4, h5, h.lt⟩
end
end Go.Proofs.Ythbjcafldbocpaa
namespace Go.Proofs.Ythbjcafldbocpaa
open Go.RowKit
set_option linter.unusedVariables false
set_option linter.unusedSimpArgs false
def LookMid (w : World) (AS : Option Addr) (cS nS regs outs reads n : Nat) (v : Value) (x : World) : Prop :=
  ∃ gk gr gs go gd : Nat, v = .pointer (some ⟨gk, 0, none⟩) ∧ LkG w.heap.size gk gr gs go gd regs outs reads n ∧ LkW x gk gr gs go gd regs outs reads n AS nS cS 0 ⟨List.replicate regs none, List.replicate outs none, 0⟩ ∧ Below w.heap.size w x
def LookPost (w : World) (AS : Option Addr) (l : List PS) (cS regs outs reads n : Nat) (e : Ending) (w' : World) : Prop :=
  ∃ gk gr gs go gd : Nat, LkG w.heap.size gk gr gs go gd regs outs reads n ∧ Below w.heap.size w w' ∧
    (∀ st, (vAll regs outs reads n l).2 = some st → e = .returned (.tuple #[.pointer (some ⟨gk, 0, none⟩), .int .i64 0]) ∧ LkW w' gk gr gs go gd regs outs reads n AS l.length cS (vAll regs outs reads n l).1 st) ∧
    ((vAll regs outs reads n l).2 = none → e = .returned (.tuple #[.pointer (some ⟨gk, 0, none⟩), .int .i64 250]) ∧ ∃ ld, Row w' gk 82 (lkV AS l.length cS regs outs reads n (vAll regs outs reads n l).1 gr gs go gd ld))
theorem st0_ok (nr no n : Nat) : VS.Ok ⟨List.replicate nr none, List.replicate no none, 0⟩ nr no n := by
  refine ⟨by simp, by simp, fun i l h => ?_, fun i l h => ?_⟩ <;> (rw [List.getD_eq_getElem?_getD, List.getElem?_replicate] at h; split at h <;> cases h)
theorem mid_of {w x : World} {AS : Option Addr} {cS nS regs outs reads n gk gr gs go gd : Nat} {v : Value} {L1 L2 L3 L4 : List Value} (e1 : L1 = bVs (flatR (List.replicate regs none))) (e2 : L2 = bolVs (somes (List.replicate regs none))) (e3 : L3 = bVs (flatR (List.replicate outs none))) (e4 : L4 = bolVs (somes (List.replicate outs none)))
    (hv : v = .pointer (some ⟨gk, 0, none⟩)) (hk : Row x gk 82 (lkV AS nS cS regs outs reads n 0 gr gs go gd 0)) (hs : Row x gs 4 L2) (hr : Row x gr 87 L1) (hd : Row x gd 4 L4) (ho : Row x go 87 L3)
    (hb : Below w.heap.size w x) (lo : w.heap.size ≤ gk ∧ w.heap.size ≤ gr ∧ w.heap.size ≤ gs ∧ w.heap.size ≤ go ∧ w.heap.size ≤ gd) (ne : gs ≠ gk ∧ gr ≠ gk ∧ gr ≠ gs ∧ gd ≠ gk ∧ go ≠ gk ∧ go ≠ gd ∧ gs ≠ go ∧ gr ≠ go ∧ gs ≠ gd ∧ gr ≠ gd) (hn : n ≤ 64) (hrd : reads < 2 ^ 64) : LookMid w AS cS nS regs outs reads n v x := by
  subst e1 e2 e3 e4
  obtain ⟨a1, a2, a3, a4, a5⟩ := lo
  obtain ⟨b1, b2, b3, b4, b5, b6, b7, b8, b9, b10⟩ := ne
  exact ⟨gk, gr, gs, go, gd, hv, ⟨a1, a2, a3, a4, a5, b1, b2, b3, b4, b5, b6, b7, b8, b9, b10, hn, hrd⟩, ⟨hk, hs, hr, hd, ho, st0_ok _ _ _, show (0 : Nat) < 2 ^ 64 by decide⟩, hb⟩
theorem below_al {w x : World} (h : Below w.heap.size w x) (o : Obj) : Below w.heap.size w (x.alloc o) := h.alloc h.size o
theorem below_dr {w x : World} (h : Below w.heap.size w x) : Below w.heap.size w x.drew := ⟨h.os, h.tape, h.output, h.size, h.block⟩
theorem cs_alloc4 {x : World} {a b c d : Addr} {p q r s : Value} (h : x.cell? a = some p ∧ x.cell? b = some q ∧ x.cell? c = some r ∧ x.cell? d = some s) (o : Obj) : (x.alloc o).cell? a = some p ∧ (x.alloc o).cell? b = some q ∧ (x.alloc o).cell? c = some r ∧ (x.alloc o).cell? d = some s := by
  have hc : ∀ {a : Addr} {p : Value}, x.cell? a = some p → (x.alloc o).cell? a = some p := fun h => (World.cell?_alloc_some x _ o (by rw [h]; rfl)).trans h
  exact ⟨hc h.1, hc h.2.1, hc h.2.2.1, hc h.2.2.2⟩
set_option maxRecDepth 100000 in
set_option maxHeartbeats 4000000 in
theorem look_yes (AS : Option Addr) (l : List PS) (cS regs outs reads n : Nat) (w : World) (hl : StepsAt w w.heap.size AS l) (hr : regs ≤ 256) (ho : outs ≤ 64) (hlen : l.length ≤ 65536) (hn : n ≤ 64) (hrd : reads < 2 ^ 64) (hok : ∀ s ∈ l, s.Ok)
    (hwr : ∀ w1, Below w.heap.size w w1 → Calls Try.prog 48 #[.agg #[.slice AS l.length cS, .int .i64 (regs : Int), .int .i64 (outs : Int), .int .u64 (reads : Int)]] w1 fun e w' => ∃ v, e = .returned (.tuple #[v, .int .i64 0]) ∧ Below w1.heap.size w1 w') :
    Calls Try.prog 30 #[.agg #[.slice AS l.length cS, .int .i64 (regs : Int), .int .i64 (outs : Int), .int .u64 (reads : Int)], .int .i64 (n : Int)] w fun e w' => LookPost w AS l cS regs outs reads n e w' := by
  have h0 : decide ((n : Int) < 0) = false := decide_eq_false (by omega)
  have h1 : decide ((64 : Int) < (n : Int)) = false := decide_eq_false (by omega)
  go_enter Try.func30, Try.ntmps30
  go_wp2_with fail
  have q : Below w.heap.size w (w.alloc (.cells #[.slice AS l.length cS, .int .i64 (regs : Int), .int .i64 (outs : Int), .int .u64 (reads : Int)] 26)) := (Below.refl _ _).alloc (Nat.le_refl _) _
  have hp0 := Row.new w [.slice AS l.length cS, .int .i64 (regs : Int), .int .i64 (outs : Int), .int .u64 (reads : Int)] 26
  refine (hwr _ q).mono ?_
  rintro e w1 ⟨v, rfl, hb⟩
  have hp1 := hp0.below hb hp0.lt
  have q1 : Below w.heap.size w w1 := q.trans (hb.mono (by simp))
  have p0 : w1.cell? ⟨w.heap.size, 0, none⟩ = some (.slice AS l.length cS) := hp1.cell 0
  have p1 : w1.cell? ⟨w.heap.size, 1, none⟩ = some (.int .i64 (regs : Int)) := hp1.cell 1
  have p2 : w1.cell? ⟨w.heap.size, 2, none⟩ = some (.int .i64 (outs : Int)) := hp1.cell 2
  have p3 : w1.cell? ⟨w.heap.size, 3, none⟩ = some (.int .u64 (reads : Int)) := hp1.cell 3
  clear hp0 hb
  have hm1 := fun w => make_content regs hr w
  have hm2 := fun w => make_bools regs hr w
  have hm3 := fun w => make_content outs (by omega) w
  have hm4 := fun w => make_bools outs (by omega) w
  obtain ⟨L1, hL1⟩ : ∃ L1, L1 = bVs (flatR (List.replicate regs none)) := ⟨_, rfl⟩
  obtain ⟨L2, hL2⟩ : ∃ L2, L2 = bolVs (somes (List.replicate regs none)) := ⟨_, rfl⟩
  obtain ⟨L3, hL3⟩ : ∃ L3, L3 = bVs (flatR (List.replicate outs none)) := ⟨_, rfl⟩
  obtain ⟨L4, hL4⟩ : ∃ L4, L4 = bolVs (somes (List.replicate outs none)) := ⟨_, rfl⟩
  rw [← hL1] at hm1
  rw [← hL2] at hm2
  rw [← hL3] at hm3
  rw [← hL4] at hm4
  have HL1 := Lib.hid hL1
  have HL2 := Lib.hid hL2
  have HL3 := Lib.hid hL3
  have HL4 := Lib.hid hL4
  have HP1 := Lib.hid hp1
  have HQ1 := Lib.hid q1
  have LT1 := Lib.hid (show w.heap.size < w1.heap.size from hp1.lt)
  clear hL1 hL2 hL3 hL4 hp1 q1 hwr q
  go_wp2_with fail
  go_cut [8] from 22 to 37 (fun s8 wx => LookMid w AS cS l.length regs outs reads n s8 wx)
  case first =>
    refine wp_region_held_drew (S := (fun x => x.cell? ⟨w.heap.size, 0, none⟩ = some (.slice AS l.length cS) ∧ x.cell? ⟨w.heap.size, 1, none⟩ = some (.int .i64 (regs : Int)) ∧ x.cell? ⟨w.heap.size, 2, none⟩ = some (.int .i64 (outs : Int)) ∧ x.cell? ⟨w.heap.size, 3, none⟩ = some (.int .u64 (reads : Int)))) (by kernel_rfl) ⟨p0, p1, p2, p3⟩ (fun hHeld => ?_)
    refine wpAnyH_take (i := 0) (v := ?_) rfl (by kernel_rfl) (by kernel_rfl) (by kernel_rfl) (fun _ _ _ h => h) (Or.inl ⟨by kernel_rfl, ?_⟩) (by assumption) ?_
    rotate_left
    · (intro w hSw; (try dsimp only at hSw); go_simp; (try with_reducible rfl))
    try simp only [List.getElem_toArray, List.getElem_cons_succ, List.getElem_cons_zero, Act.put, List.setIfInBounds_toArray, List.set_cons_zero, List.set_cons_succ]
    refine wpAnyH_take (i := 1) (v := ?_) rfl (by kernel_rfl) (by kernel_rfl) (by kernel_rfl) (fun _ _ _ h => h) (Or.inl ⟨by kernel_rfl, ?_⟩) (by assumption) ?_
    rotate_left
    · (intro w hSw; (try dsimp only at hSw); go_simp; (try with_reducible rfl))
    try simp only [List.getElem_toArray, List.getElem_cons_succ, List.getElem_cons_zero, Act.put, List.setIfInBounds_toArray, List.set_cons_zero, List.set_cons_succ]
    refine wpAnyH_take (i := 2) (v := ?_) rfl (by kernel_rfl) (by kernel_rfl) (by kernel_rfl) (fun _ _ _ h => h) (Or.inl ⟨by kernel_rfl, ?_⟩) (by assumption) ?_
    rotate_left
    · (intro w hSw; (try dsimp only at hSw); go_simp; (try with_reducible rfl))
    try simp only [List.getElem_toArray, List.getElem_cons_succ, List.getElem_cons_zero, Act.put, List.setIfInBounds_toArray, List.set_cons_zero, List.set_cons_succ]
    refine wpAnyH_take (i := 3) (v := ?_) rfl (by kernel_rfl) (by kernel_rfl) (by kernel_rfl) (fun _ _ _ h => h) (Or.inl ⟨by kernel_rfl, ?_⟩) (by assumption) ?_
    rotate_left
    · (intro w hSw; (try dsimp only at hSw); go_simp; (try with_reducible rfl))
    try simp only [List.getElem_toArray, List.getElem_cons_succ, List.getElem_cons_zero, Act.put, List.setIfInBounds_toArray, List.set_cons_zero, List.set_cons_succ]
    refine wpAnyH_take (i := 5) (v := ?_) rfl (by kernel_rfl) (by kernel_rfl) (by kernel_rfl) (fun _ _ _ h => h) (Or.inl ⟨by kernel_rfl, ?_⟩) (by assumption) ?_
    rotate_left
    · (intro w hSw; (try dsimp only at hSw); go_simp; (try with_reducible rfl))
    try simp only [List.getElem_toArray, List.getElem_cons_succ, List.getElem_cons_zero, Act.put, List.setIfInBounds_toArray, List.set_cons_zero, List.set_cons_succ]
    refine wpAnyH_take (i := 6) (v := ?_) rfl (by kernel_rfl) (by kernel_rfl) (by kernel_rfl) (fun _ _ _ h => h) (Or.inl ⟨by kernel_rfl, ?_⟩) (by assumption) ?_
    rotate_left
    · (intro w hSw; (try dsimp only at hSw); go_simp; (try with_reducible rfl))
    try simp only [List.getElem_toArray, List.getElem_cons_succ, List.getElem_cons_zero, Act.put, List.setIfInBounds_toArray, List.set_cons_zero, List.set_cons_succ]
    refine wpAnyH_take (i := 8) (v := ?_) rfl (by kernel_rfl) (by kernel_rfl) (by kernel_rfl) (fun _ _ _ h => h) (Or.inl ⟨by kernel_rfl, ?_⟩) (by assumption) ?_
    rotate_left
    · (intro w hSw; (try dsimp only at hSw); go_simp; (try with_reducible rfl))
    try simp only [List.getElem_toArray, List.getElem_cons_succ, List.getElem_cons_zero, Act.put, List.setIfInBounds_toArray, List.set_cons_zero, List.set_cons_succ]
    refine wpAnyH_take (i := 9) (v := ?_) rfl (by kernel_rfl) (by kernel_rfl) (by kernel_rfl) (fun _ _ _ h => h) (Or.inl ⟨by kernel_rfl, ?_⟩) (by assumption) ?_
    rotate_left
    · (intro w hSw; (try dsimp only at hSw); go_simp; (try with_reducible rfl))
    try simp only [List.getElem_toArray, List.getElem_cons_succ, List.getElem_cons_zero, Act.put, List.setIfInBounds_toArray, List.set_cons_zero, List.set_cons_succ]
    refine wpAnyH_take (i := 11) (v := ?_) rfl (by kernel_rfl) (by kernel_rfl) (by kernel_rfl) (fun _ _ _ h => h) (Or.inl ⟨by kernel_rfl, ?_⟩) (by assumption) ?_
    rotate_left
    · (intro w hSw; (try dsimp only at hSw); go_simp; (try with_reducible rfl))
    try simp only [List.getElem_toArray, List.getElem_cons_succ, List.getElem_cons_zero, Act.put, List.setIfInBounds_toArray, List.set_cons_zero, List.set_cons_succ]
    refine wpAnyH_take (i := 12) (v := ?_) rfl (by kernel_rfl) (by kernel_rfl) (by kernel_rfl) (fun _ _ _ h => h) (Or.inl ⟨by kernel_rfl, ?_⟩) (by assumption) ?_
    rotate_left
    · (intro w hSw; (try dsimp only at hSw); go_simp; (try with_reducible rfl))
    try simp only [List.getElem_toArray, List.getElem_cons_succ, List.getElem_cons_zero, Act.put, List.setIfInBounds_toArray, List.set_cons_zero, List.set_cons_succ]
    --NODES
    refine wpAnyH_ready (rs := [4, 7, 10, 13]) (by kernel_rfl) (by simp) ?_
    refine AllReadyH.cons rfl (fun K hK => ?_) (AllReadyH.cons rfl (fun K hK => ?_) (AllReadyH.cons rfl (fun K hK => ?_) (AllReadyH.cons rfl (fun K hK => ?_) (AllReadyH.nil))))
    · go_simp
      refine hK.out _ _ (cs_alloc4 hHeld _) (fun hHeld => ?_)
      clear hK K
      try simp only [List.getElem_toArray, List.getElem_cons_succ, List.getElem_cons_zero, Act.put, List.setIfInBounds_toArray, List.set_cons_zero, List.set_cons_succ]
      refine wpAnyH_ready (rs := [7, 10, 13]) (by kernel_rfl) (by simp) ?_
      refine AllReadyH.cons rfl (fun K hK => ?_) (AllReadyH.cons rfl (fun K hK => ?_) (AllReadyH.cons rfl (fun K hK => ?_) (AllReadyH.nil)))
      · go_simp
        refine hK.out _ _ (cs_alloc4 hHeld _) (fun hHeld => ?_)
        clear hK K
        try simp only [List.getElem_toArray, List.getElem_cons_succ, List.getElem_cons_zero, Act.put, List.setIfInBounds_toArray, List.set_cons_zero, List.set_cons_succ]
        refine wpAnyH_ready (rs := [10, 13]) (by kernel_rfl) (by simp) ?_
        refine AllReadyH.cons rfl (fun K hK => ?_) (AllReadyH.cons rfl (fun K hK => ?_) (AllReadyH.nil))
        · go_simp
          refine hK.out _ _ (cs_alloc4 hHeld _) (fun hHeld => ?_)
          clear hK K
          try simp only [List.getElem_toArray, List.getElem_cons_succ, List.getElem_cons_zero, Act.put, List.setIfInBounds_toArray, List.set_cons_zero, List.set_cons_succ]
          refine wpAnyH_ready (rs := [13]) (by kernel_rfl) (by simp) ?_
          refine AllReadyH.cons rfl (fun K hK => ?_) (AllReadyH.nil)
          · go_simp
            refine hK.out _ _ (cs_alloc4 hHeld _) (fun hHeld => ?_)
            clear hK K
            try simp only [List.getElem_toArray, List.getElem_cons_succ, List.getElem_cons_zero, Act.put, List.setIfInBounds_toArray, List.set_cons_zero, List.set_cons_succ]
            refine wpAnyH_ready (rs := [14]) (by kernel_rfl) (by simp) ?_
            refine AllReadyH.cons rfl (fun K hK => ?_) AllReadyH.nil
            go_simp
            refine hK.out _ _ hHeld (fun hHeld => ?_)
            clear hK K
            try simp only [List.getElem_toArray, List.getElem_cons_succ, List.getElem_cons_zero, Act.put, List.setIfInBounds_toArray, List.set_cons_zero, List.set_cons_succ]
            refine wpAnyH_ready (rs := [15]) (by kernel_rfl) (by simp) ?_
            refine AllReadyH.cons rfl (fun K hK => ?_) AllReadyH.nil
            go_simp
            refine hK.out _ _ (cs_alloc4 hHeld _) (fun hHeld => ?_)
            clear hK K
            try simp only [List.getElem_toArray, List.getElem_cons_succ, List.getElem_cons_zero, Act.put, List.setIfInBounds_toArray, List.set_cons_zero, List.set_cons_succ]
            refine wpAnyH_ready (rs := [16]) (by kernel_rfl) (by simp) ?_
            refine AllReadyH.cons rfl (fun K hK => ?_) AllReadyH.nil
            go_simp
            refine hK.out _ _ hHeld (fun hHeld => ?_)
            clear hK K
            try simp only [List.getElem_toArray, List.getElem_cons_succ, List.getElem_cons_zero, Act.put, List.setIfInBounds_toArray, List.set_cons_zero, List.set_cons_succ]
            refine wpAnyH_done (by kernel_rfl) ?_ _
            go_wp2_with fail
            go_meet
            exact mid_of HL1.out HL2.out HL3.out HL4.out rfl (by repeat' (first | with_reducible refine Row.drew ?_ | with_reducible refine Row.newE _ _ _ (by simp) | exact Row.newE _ _ _ (by simp) | with_reducible refine Row.alloc ?_ _)) (by repeat' (first | with_reducible refine Row.drew ?_ | with_reducible refine Row.newE _ _ _ (by simp) | exact Row.newE _ _ _ (by simp) | with_reducible refine Row.alloc ?_ _)) (by repeat' (first | with_reducible refine Row.drew ?_ | with_reducible refine Row.newE _ _ _ (by simp) | exact Row.newE _ _ _ (by simp) | with_reducible refine Row.alloc ?_ _)) (by repeat' (first | with_reducible refine Row.drew ?_ | with_reducible refine Row.newE _ _ _ (by simp) | exact Row.newE _ _ _ (by simp) | with_reducible refine Row.alloc ?_ _)) (by repeat' (first | with_reducible refine Row.drew ?_ | with_reducible refine Row.newE _ _ _ (by simp) | exact Row.newE _ _ _ (by simp) | with_reducible refine Row.alloc ?_ _)) (by repeat' (first | with_reducible exact HQ1.out | with_reducible refine below_dr ?_ | with_reducible refine below_al ?_ _)) (by have := LT1.out; refine ⟨?_, ?_, ?_, ?_, ?_⟩ <;> omega) (by refine ⟨?_, ?_, ?_, ?_, ?_, ?_, ?_, ?_, ?_, ?_⟩ <;> omega) hn hrd
        · go_simp
          refine hK.out _ _ (cs_alloc4 hHeld _) (fun hHeld => ?_)
          clear hK K
          try simp only [List.getElem_toArray, List.getElem_cons_succ, List.getElem_cons_zero, Act.put, List.setIfInBounds_toArray, List.set_cons_zero, List.set_cons_succ]
          refine wpAnyH_ready (rs := [10]) (by kernel_rfl) (by simp) ?_
          refine AllReadyH.cons rfl (fun K hK => ?_) (AllReadyH.nil)
          · go_simp
            refine hK.out _ _ (cs_alloc4 hHeld _) (fun hHeld => ?_)
            clear hK K
            try simp only [List.getElem_toArray, List.getElem_cons_succ, List.getElem_cons_zero, Act.put, List.setIfInBounds_toArray, List.set_cons_zero, List.set_cons_succ]
            refine wpAnyH_ready (rs := [14]) (by kernel_rfl) (by simp) ?_
            refine AllReadyH.cons rfl (fun K hK => ?_) AllReadyH.nil
            go_simp
            refine hK.out _ _ hHeld (fun hHeld => ?_)
            clear hK K
            try simp only [List.getElem_toArray, List.getElem_cons_succ, List.getElem_cons_zero, Act.put, List.setIfInBounds_toArray, List.set_cons_zero, List.set_cons_succ]
            refine wpAnyH_ready (rs := [15]) (by kernel_rfl) (by simp) ?_
            refine AllReadyH.cons rfl (fun K hK => ?_) AllReadyH.nil
            go_simp
            refine hK.out _ _ (cs_alloc4 hHeld _) (fun hHeld => ?_)
            clear hK K
            try simp only [List.getElem_toArray, List.getElem_cons_succ, List.getElem_cons_zero, Act.put, List.setIfInBounds_toArray, List.set_cons_zero, List.set_cons_succ]
            refine wpAnyH_ready (rs := [16]) (by kernel_rfl) (by simp) ?_
            refine AllReadyH.cons rfl (fun K hK => ?_) AllReadyH.nil
            go_simp
            refine hK.out _ _ hHeld (fun hHeld => ?_)
            clear hK K
            try simp only [List.getElem_toArray, List.getElem_cons_succ, List.getElem_cons_zero, Act.put, List.setIfInBounds_toArray, List.set_cons_zero, List.set_cons_succ]
            refine wpAnyH_done (by kernel_rfl) ?_ _
            go_wp2_with fail
            go_meet
            exact mid_of HL1.out HL2.out HL3.out HL4.out rfl (by repeat' (first | with_reducible refine Row.drew ?_ | with_reducible refine Row.newE _ _ _ (by simp) | exact Row.newE _ _ _ (by simp) | with_reducible refine Row.alloc ?_ _)) (by repeat' (first | with_reducible refine Row.drew ?_ | with_reducible refine Row.newE _ _ _ (by simp) | exact Row.newE _ _ _ (by simp) | with_reducible refine Row.alloc ?_ _)) (by repeat' (first | with_reducible refine Row.drew ?_ | with_reducible refine Row.newE _ _ _ (by simp) | exact Row.newE _ _ _ (by simp) | with_reducible refine Row.alloc ?_ _)) (by repeat' (first | with_reducible refine Row.drew ?_ | with_reducible refine Row.newE _ _ _ (by simp) | exact Row.newE _ _ _ (by simp) | with_reducible refine Row.alloc ?_ _)) (by repeat' (first | with_reducible refine Row.drew ?_ | with_reducible refine Row.newE _ _ _ (by simp) | exact Row.newE _ _ _ (by simp) | with_reducible refine Row.alloc ?_ _)) (by repeat' (first | with_reducible exact HQ1.out | with_reducible refine below_dr ?_ | with_reducible refine below_al ?_ _)) (by have := LT1.out; refine ⟨?_, ?_, ?_, ?_, ?_⟩ <;> omega) (by refine ⟨?_, ?_, ?_, ?_, ?_, ?_, ?_, ?_, ?_, ?_⟩ <;> omega) hn hrd
      · go_simp
        refine hK.out _ _ (cs_alloc4 hHeld _) (fun hHeld => ?_)
        clear hK K
        try simp only [List.getElem_toArray, List.getElem_cons_succ, List.getElem_cons_zero, Act.put, List.setIfInBounds_toArray, List.set_cons_zero, List.set_cons_succ]
        refine wpAnyH_ready (rs := [7, 13]) (by kernel_rfl) (by simp) ?_
        refine AllReadyH.cons rfl (fun K hK => ?_) (AllReadyH.cons rfl (fun K hK => ?_) (AllReadyH.nil))
        · go_simp
          refine hK.out _ _ (cs_alloc4 hHeld _) (fun hHeld => ?_)
          clear hK K
          try simp only [List.getElem_toArray, List.getElem_cons_succ, List.getElem_cons_zero, Act.put, List.setIfInBounds_toArray, List.set_cons_zero, List.set_cons_succ]
          refine wpAnyH_ready (rs := [13]) (by kernel_rfl) (by simp) ?_
          refine AllReadyH.cons rfl (fun K hK => ?_) (AllReadyH.nil)
          · go_simp
            refine hK.out _ _ (cs_alloc4 hHeld _) (fun hHeld => ?_)
            clear hK K
            try simp only [List.getElem_toArray, List.getElem_cons_succ, List.getElem_cons_zero, Act.put, List.setIfInBounds_toArray, List.set_cons_zero, List.set_cons_succ]
            refine wpAnyH_ready (rs := [14]) (by kernel_rfl) (by simp) ?_
            refine AllReadyH.cons rfl (fun K hK => ?_) AllReadyH.nil
            go_simp
            refine hK.out _ _ hHeld (fun hHeld => ?_)
            clear hK K
            try simp only [List.getElem_toArray, List.getElem_cons_succ, List.getElem_cons_zero, Act.put, List.setIfInBounds_toArray, List.set_cons_zero, List.set_cons_succ]
            refine wpAnyH_ready (rs := [15]) (by kernel_rfl) (by simp) ?_
            refine AllReadyH.cons rfl (fun K hK => ?_) AllReadyH.nil
            go_simp
            refine hK.out _ _ (cs_alloc4 hHeld _) (fun hHeld => ?_)
            clear hK K
            try simp only [List.getElem_toArray, List.getElem_cons_succ, List.getElem_cons_zero, Act.put, List.setIfInBounds_toArray, List.set_cons_zero, List.set_cons_succ]
            refine wpAnyH_ready (rs := [16]) (by kernel_rfl) (by simp) ?_
            refine AllReadyH.cons rfl (fun K hK => ?_) AllReadyH.nil
            go_simp
            refine hK.out _ _ hHeld (fun hHeld => ?_)
            clear hK K
            try simp only [List.getElem_toArray, List.getElem_cons_succ, List.getElem_cons_zero, Act.put, List.setIfInBounds_toArray, List.set_cons_zero, List.set_cons_succ]
            refine wpAnyH_done (by kernel_rfl) ?_ _
            go_wp2_with fail
            go_meet
            exact mid_of HL1.out HL2.out HL3.out HL4.out rfl (by repeat' (first | with_reducible refine Row.drew ?_ | with_reducible refine Row.newE _ _ _ (by simp) | exact Row.newE _ _ _ (by simp) | with_reducible refine Row.alloc ?_ _)) (by repeat' (first | with_reducible refine Row.drew ?_ | with_reducible refine Row.newE _ _ _ (by simp) | exact Row.newE _ _ _ (by simp) | with_reducible refine Row.alloc ?_ _)) (by repeat' (first | with_reducible refine Row.drew ?_ | with_reducible refine Row.newE _ _ _ (by simp) | exact Row.newE _ _ _ (by simp) | with_reducible refine Row.alloc ?_ _)) (by repeat' (first | with_reducible refine Row.drew ?_ | with_reducible refine Row.newE _ _ _ (by simp) | exact Row.newE _ _ _ (by simp) | with_reducible refine Row.alloc ?_ _)) (by repeat' (first | with_reducible refine Row.drew ?_ | with_reducible refine Row.newE _ _ _ (by simp) | exact Row.newE _ _ _ (by simp) | with_reducible refine Row.alloc ?_ _)) (by repeat' (first | with_reducible exact HQ1.out | with_reducible refine below_dr ?_ | with_reducible refine below_al ?_ _)) (by have := LT1.out; refine ⟨?_, ?_, ?_, ?_, ?_⟩ <;> omega) (by refine ⟨?_, ?_, ?_, ?_, ?_, ?_, ?_, ?_, ?_, ?_⟩ <;> omega) hn hrd
        · go_simp
          refine hK.out _ _ (cs_alloc4 hHeld _) (fun hHeld => ?_)
          clear hK K
          try simp only [List.getElem_toArray, List.getElem_cons_succ, List.getElem_cons_zero, Act.put, List.setIfInBounds_toArray, List.set_cons_zero, List.set_cons_succ]
          refine wpAnyH_ready (rs := [7]) (by kernel_rfl) (by simp) ?_
          refine AllReadyH.cons rfl (fun K hK => ?_) (AllReadyH.nil)
          · go_simp
            refine hK.out _ _ (cs_alloc4 hHeld _) (fun hHeld => ?_)
            clear hK K
            try simp only [List.getElem_toArray, List.getElem_cons_succ, List.getElem_cons_zero, Act.put, List.setIfInBounds_toArray, List.set_cons_zero, List.set_cons_succ]
            refine wpAnyH_ready (rs := [14]) (by kernel_rfl) (by simp) ?_
            refine AllReadyH.cons rfl (fun K hK => ?_) AllReadyH.nil
            go_simp
            refine hK.out _ _ hHeld (fun hHeld => ?_)
            clear hK K
            try simp only [List.getElem_toArray, List.getElem_cons_succ, List.getElem_cons_zero, Act.put, List.setIfInBounds_toArray, List.set_cons_zero, List.set_cons_succ]
            refine wpAnyH_ready (rs := [15]) (by kernel_rfl) (by simp) ?_
            refine AllReadyH.cons rfl (fun K hK => ?_) AllReadyH.nil
            go_simp
            refine hK.out _ _ (cs_alloc4 hHeld _) (fun hHeld => ?_)
            clear hK K
            try simp only [List.getElem_toArray, List.getElem_cons_succ, List.getElem_cons_zero, Act.put, List.setIfInBounds_toArray, List.set_cons_zero, List.set_cons_succ]
            refine wpAnyH_ready (rs := [16]) (by kernel_rfl) (by simp) ?_
            refine AllReadyH.cons rfl (fun K hK => ?_) AllReadyH.nil
            go_simp
            refine hK.out _ _ hHeld (fun hHeld => ?_)
            clear hK K
            try simp only [List.getElem_toArray, List.getElem_cons_succ, List.getElem_cons_zero, Act.put, List.setIfInBounds_toArray, List.set_cons_zero, List.set_cons_succ]
            refine wpAnyH_done (by kernel_rfl) ?_ _
            go_wp2_with fail
            go_meet
            exact mid_of HL1.out HL2.out HL3.out HL4.out rfl (by repeat' (first | with_reducible refine Row.drew ?_ | with_reducible refine Row.newE _ _ _ (by simp) | exact Row.newE _ _ _ (by simp) | with_reducible refine Row.alloc ?_ _)) (by repeat' (first | with_reducible refine Row.drew ?_ | with_reducible refine Row.newE _ _ _ (by simp) | exact Row.newE _ _ _ (by simp) | with_reducible refine Row.alloc ?_ _)) (by repeat' (first | with_reducible refine Row.drew ?_ | with_reducible refine Row.newE _ _ _ (by simp) | exact Row.newE _ _ _ (by simp) | with_reducible refine Row.alloc ?_ _)) (by repeat' (first | with_reducible refine Row.drew ?_ | with_reducible refine Row.newE _ _ _ (by simp) | exact Row.newE _ _ _ (by simp) | with_reducible refine Row.alloc ?_ _)) (by repeat' (first | with_reducible refine Row.drew ?_ | with_reducible refine Row.newE _ _ _ (by simp) | exact Row.newE _ _ _ (by simp) | with_reducible refine Row.alloc ?_ _)) (by repeat' (first | with_reducible exact HQ1.out | with_reducible refine below_dr ?_ | with_reducible refine below_al ?_ _)) (by have := LT1.out; refine ⟨?_, ?_, ?_, ?_, ?_⟩ <;> omega) (by refine ⟨?_, ?_, ?_, ?_, ?_, ?_, ?_, ?_, ?_, ?_⟩ <;> omega) hn hrd
      · go_simp
        refine hK.out _ _ (cs_alloc4 hHeld _) (fun hHeld => ?_)
        clear hK K
        try simp only [List.getElem_toArray, List.getElem_cons_succ, List.getElem_cons_zero, Act.put, List.setIfInBounds_toArray, List.set_cons_zero, List.set_cons_succ]
        refine wpAnyH_ready (rs := [7, 10]) (by kernel_rfl) (by simp) ?_
        refine AllReadyH.cons rfl (fun K hK => ?_) (AllReadyH.cons rfl (fun K hK => ?_) (AllReadyH.nil))
        · go_simp
          refine hK.out _ _ (cs_alloc4 hHeld _) (fun hHeld => ?_)
          clear hK K
          try simp only [List.getElem_toArray, List.getElem_cons_succ, List.getElem_cons_zero, Act.put, List.setIfInBounds_toArray, List.set_cons_zero, List.set_cons_succ]
          refine wpAnyH_ready (rs := [10]) (by kernel_rfl) (by simp) ?_
          refine AllReadyH.cons rfl (fun K hK => ?_) (AllReadyH.nil)
          · go_simp
            refine hK.out _ _ (cs_alloc4 hHeld _) (fun hHeld => ?_)
            clear hK K
            try simp only [List.getElem_toArray, List.getElem_cons_succ, List.getElem_cons_zero, Act.put, List.setIfInBounds_toArray, List.set_cons_zero, List.set_cons_succ]
            refine wpAnyH_ready (rs := [14]) (by kernel_rfl) (by simp) ?_
            refine AllReadyH.cons rfl (fun K hK => ?_) AllReadyH.nil
            go_simp
            refine hK.out _ _ hHeld (fun hHeld => ?_)
            clear hK K
            try simp only [List.getElem_toArray, List.getElem_cons_succ, List.getElem_cons_zero, Act.put, List.setIfInBounds_toArray, List.set_cons_zero, List.set_cons_succ]
            refine wpAnyH_ready (rs := [15]) (by kernel_rfl) (by simp) ?_
            refine AllReadyH.cons rfl (fun K hK => ?_) AllReadyH.nil
            go_simp
            refine hK.out _ _ (cs_alloc4 hHeld _) (fun hHeld => ?_)
            clear hK K
            try simp only [List.getElem_toArray, List.getElem_cons_succ, List.getElem_cons_zero, Act.put, List.setIfInBounds_toArray, List.set_cons_zero, List.set_cons_succ]
            refine wpAnyH_ready (rs := [16]) (by kernel_rfl) (by simp) ?_
            refine AllReadyH.cons rfl (fun K hK => ?_) AllReadyH.nil
            go_simp
            refine hK.out _ _ hHeld (fun hHeld => ?_)
            clear hK K
            try simp only [List.getElem_toArray, List.getElem_cons_succ, List.getElem_cons_zero, Act.put, List.setIfInBounds_toArray, List.set_cons_zero, List.set_cons_succ]
            refine wpAnyH_done (by kernel_rfl) ?_ _
            go_wp2_with fail
            go_meet
            exact mid_of HL1.out HL2.out HL3.out HL4.out rfl (by repeat' (first | with_reducible refine Row.drew ?_ | with_reducible refine Row.newE _ _ _ (by simp) | exact Row.newE _ _ _ (by simp) | with_reducible refine Row.alloc ?_ _)) (by repeat' (first | with_reducible refine Row.drew ?_ | with_reducible refine Row.newE _ _ _ (by simp) | exact Row.newE _ _ _ (by simp) | with_reducible refine Row.alloc ?_ _)) (by repeat' (first | with_reducible refine Row.drew ?_ | with_reducible refine Row.newE _ _ _ (by simp) | exact Row.newE _ _ _ (by simp) | with_reducible refine Row.alloc ?_ _)) (by repeat' (first | with_reducible refine Row.drew ?_ | with_reducible refine Row.newE _ _ _ (by simp) | exact Row.newE _ _ _ (by simp) | with_reducible refine Row.alloc ?_ _)) (by repeat' (first | with_reducible refine Row.drew ?_ | with_reducible refine Row.newE _ _ _ (by simp) | exact Row.newE _ _ _ (by simp) | with_reducible refine Row.alloc ?_ _)) (by repeat' (first | with_reducible exact HQ1.out | with_reducible refine below_dr ?_ | with_reducible refine below_al ?_ _)) (by have := LT1.out; refine ⟨?_, ?_, ?_, ?_, ?_⟩ <;> omega) (by refine ⟨?_, ?_, ?_, ?_, ?_, ?_, ?_, ?_, ?_, ?_⟩ <;> omega) hn hrd
        · go_simp
          refine hK.out _ _ (cs_alloc4 hHeld _) (fun hHeld => ?_)
          clear hK K
          try simp only [List.getElem_toArray, List.getElem_cons_succ, List.getElem_cons_zero, Act.put, List.setIfInBounds_toArray, List.set_cons_zero, List.set_cons_succ]
          refine wpAnyH_ready (rs := [7]) (by kernel_rfl) (by simp) ?_
          refine AllReadyH.cons rfl (fun K hK => ?_) (AllReadyH.nil)
          · go_simp
            refine hK.out _ _ (cs_alloc4 hHeld _) (fun hHeld => ?_)
            clear hK K
            try simp only [List.getElem_toArray, List.getElem_cons_succ, List.getElem_cons_zero, Act.put, List.setIfInBounds_toArray, List.set_cons_zero, List.set_cons_succ]
            refine wpAnyH_ready (rs := [14]) (by kernel_rfl) (by simp) ?_
            refine AllReadyH.cons rfl (fun K hK => ?_) AllReadyH.nil
            go_simp
            refine hK.out _ _ hHeld (fun hHeld => ?_)
            clear hK K
            try simp only [List.getElem_toArray, List.getElem_cons_succ, List.getElem_cons_zero, Act.put, List.setIfInBounds_toArray, List.set_cons_zero, List.set_cons_succ]
            refine wpAnyH_ready (rs := [15]) (by kernel_rfl) (by simp) ?_
            refine AllReadyH.cons rfl (fun K hK => ?_) AllReadyH.nil
            go_simp
            refine hK.out _ _ (cs_alloc4 hHeld _) (fun hHeld => ?_)
            clear hK K
            try simp only [List.getElem_toArray, List.getElem_cons_succ, List.getElem_cons_zero, Act.put, List.setIfInBounds_toArray, List.set_cons_zero, List.set_cons_succ]
            refine wpAnyH_ready (rs := [16]) (by kernel_rfl) (by simp) ?_
            refine AllReadyH.cons rfl (fun K hK => ?_) AllReadyH.nil
            go_simp
            refine hK.out _ _ hHeld (fun hHeld => ?_)
            clear hK K
            try simp only [List.getElem_toArray, List.getElem_cons_succ, List.getElem_cons_zero, Act.put, List.setIfInBounds_toArray, List.set_cons_zero, List.set_cons_succ]
            refine wpAnyH_done (by kernel_rfl) ?_ _
            go_wp2_with fail
            go_meet
            exact mid_of HL1.out HL2.out HL3.out HL4.out rfl (by repeat' (first | with_reducible refine Row.drew ?_ | with_reducible refine Row.newE _ _ _ (by simp) | exact Row.newE _ _ _ (by simp) | with_reducible refine Row.alloc ?_ _)) (by repeat' (first | with_reducible refine Row.drew ?_ | with_reducible refine Row.newE _ _ _ (by simp) | exact Row.newE _ _ _ (by simp) | with_reducible refine Row.alloc ?_ _)) (by repeat' (first | with_reducible refine Row.drew ?_ | with_reducible refine Row.newE _ _ _ (by simp) | exact Row.newE _ _ _ (by simp) | with_reducible refine Row.alloc ?_ _)) (by repeat' (first | with_reducible refine Row.drew ?_ | with_reducible refine Row.newE _ _ _ (by simp) | exact Row.newE _ _ _ (by simp) | with_reducible refine Row.alloc ?_ _)) (by repeat' (first | with_reducible refine Row.drew ?_ | with_reducible refine Row.newE _ _ _ (by simp) | exact Row.newE _ _ _ (by simp) | with_reducible refine Row.alloc ?_ _)) (by repeat' (first | with_reducible exact HQ1.out | with_reducible refine below_dr ?_ | with_reducible refine below_al ?_ _)) (by have := LT1.out; refine ⟨?_, ?_, ?_, ?_, ?_⟩ <;> omega) (by refine ⟨?_, ?_, ?_, ?_, ?_, ?_, ?_, ?_, ?_, ?_⟩ <;> omega) hn hrd
    · go_simp
      refine hK.out _ _ (cs_alloc4 hHeld _) (fun hHeld => ?_)
      clear hK K
      try simp only [List.getElem_toArray, List.getElem_cons_succ, List.getElem_cons_zero, Act.put, List.setIfInBounds_toArray, List.set_cons_zero, List.set_cons_succ]
      refine wpAnyH_ready (rs := [4, 10, 13]) (by kernel_rfl) (by simp) ?_
      refine AllReadyH.cons rfl (fun K hK => ?_) (AllReadyH.cons rfl (fun K hK => ?_) (AllReadyH.cons rfl (fun K hK => ?_) (AllReadyH.nil)))
      · go_simp
        refine hK.out _ _ (cs_alloc4 hHeld _) (fun hHeld => ?_)
        clear hK K
        try simp only [List.getElem_toArray, List.getElem_cons_succ, List.getElem_cons_zero, Act.put, List.setIfInBounds_toArray, List.set_cons_zero, List.set_cons_succ]
        refine wpAnyH_ready (rs := [10, 13]) (by kernel_rfl) (by simp) ?_
        refine AllReadyH.cons rfl (fun K hK => ?_) (AllReadyH.cons rfl (fun K hK => ?_) (AllReadyH.nil))
        · go_simp
          refine hK.out _ _ (cs_alloc4 hHeld _) (fun hHeld => ?_)
          clear hK K
          try simp only [List.getElem_toArray, List.getElem_cons_succ, List.getElem_cons_zero, Act.put, List.setIfInBounds_toArray, List.set_cons_zero, List.set_cons_succ]
          refine wpAnyH_ready (rs := [13]) (by kernel_rfl) (by simp) ?_
          refine AllReadyH.cons rfl (fun K hK => ?_) (AllReadyH.nil)
          · go_simp
            refine hK.out _ _ (cs_alloc4 hHeld _) (fun hHeld => ?_)
            clear hK K
            try simp only [List.getElem_toArray, List.getElem_cons_succ, List.getElem_cons_zero, Act.put, List.setIfInBounds_toArray, List.set_cons_zero, List.set_cons_succ]
            refine wpAnyH_ready (rs := [14]) (by kernel_rfl) (by simp) ?_
            refine AllReadyH.cons rfl (fun K hK => ?_) AllReadyH.nil
            go_simp
            refine hK.out _ _ hHeld (fun hHeld => ?_)
            clear hK K
            try simp only [List.getElem_toArray, List.getElem_cons_succ, List.getElem_cons_zero, Act.put, List.setIfInBounds_toArray, List.set_cons_zero, List.set_cons_succ]
            refine wpAnyH_ready (rs := [15]) (by kernel_rfl) (by simp) ?_
            refine AllReadyH.cons rfl (fun K hK => ?_) AllReadyH.nil
            go_simp
            refine hK.out _ _ (cs_alloc4 hHeld _) (fun hHeld => ?_)
            clear hK K
            try simp only [List.getElem_toArray, List.getElem_cons_succ, List.getElem_cons_zero, Act.put, List.setIfInBounds_toArray, List.set_cons_zero, List.set_cons_succ]
            refine wpAnyH_ready (rs := [16]) (by kernel_rfl) (by simp) ?_
            refine AllReadyH.cons rfl (fun K hK => ?_) AllReadyH.nil
            go_simp
            refine hK.out _ _ hHeld (fun hHeld => ?_)
            clear hK K
            try simp only [List.getElem_toArray, List.getElem_cons_succ, List.getElem_cons_zero, Act.put, List.setIfInBounds_toArray, List.set_cons_zero, List.set_cons_succ]
            refine wpAnyH_done (by kernel_rfl) ?_ _
            go_wp2_with fail
            go_meet
            exact mid_of HL1.out HL2.out HL3.out HL4.out rfl (by repeat' (first | with_reducible refine Row.drew ?_ | with_reducible refine Row.newE _ _ _ (by simp) | exact Row.newE _ _ _ (by simp) | with_reducible refine Row.alloc ?_ _)) (by repeat' (first | with_reducible refine Row.drew ?_ | with_reducible refine Row.newE _ _ _ (by simp) | exact Row.newE _ _ _ (by simp) | with_reducible refine Row.alloc ?_ _)) (by repeat' (first | with_reducible refine Row.drew ?_ | with_reducible refine Row.newE _ _ _ (by simp) | exact Row.newE _ _ _ (by simp) | with_reducible refine Row.alloc ?_ _)) (by repeat' (first | with_reducible refine Row.drew ?_ | with_reducible refine Row.newE _ _ _ (by simp) | exact Row.newE _ _ _ (by simp) | with_reducible refine Row.alloc ?_ _)) (by repeat' (first | with_reducible refine Row.drew ?_ | with_reducible refine Row.newE _ _ _ (by simp) | exact Row.newE _ _ _ (by simp) | with_reducible refine Row.alloc ?_ _)) (by repeat' (first | with_reducible exact HQ1.out | with_reducible refine below_dr ?_ | with_reducible refine below_al ?_ _)) (by have := LT1.out; refine ⟨?_, ?_, ?_, ?_, ?_⟩ <;> omega) (by refine ⟨?_, ?_, ?_, ?_, ?_, ?_, ?_, ?_, ?_, ?_⟩ <;> omega) hn hrd
        · go_simp
          refine hK.out _ _ (cs_alloc4 hHeld _) (fun hHeld => ?_)
          clear hK K
          try simp only [List.getElem_toArray, List.getElem_cons_succ, List.getElem_cons_zero, Act.put, List.setIfInBounds_toArray, List.set_cons_zero, List.set_cons_succ]
          refine wpAnyH_ready (rs := [10]) (by kernel_rfl) (by simp) ?_
          refine AllReadyH.cons rfl (fun K hK => ?_) (AllReadyH.nil)
          · go_simp
            refine hK.out _ _ (cs_alloc4 hHeld _) (fun hHeld => ?_)
            clear hK K
            try simp only [List.getElem_toArray, List.getElem_cons_succ, List.getElem_cons_zero, Act.put, List.setIfInBounds_toArray, List.set_cons_zero, List.set_cons_succ]
            refine wpAnyH_ready (rs := [14]) (by kernel_rfl) (by simp) ?_
            refine AllReadyH.cons rfl (fun K hK => ?_) AllReadyH.nil
            go_simp
            refine hK.out _ _ hHeld (fun hHeld => ?_)
            clear hK K
            try simp only [List.getElem_toArray, List.getElem_cons_succ, List.getElem_cons_zero, Act.put, List.setIfInBounds_toArray, List.set_cons_zero, List.set_cons_succ]
            refine wpAnyH_ready (rs := [15]) (by kernel_rfl) (by simp) ?_
            refine AllReadyH.cons rfl (fun K hK => ?_) AllReadyH.nil
            go_simp
            refine hK.out _ _ (cs_alloc4 hHeld _) (fun hHeld => ?_)
            clear hK K
            try simp only [List.getElem_toArray, List.getElem_cons_succ, List.getElem_cons_zero, Act.put, List.setIfInBounds_toArray, List.set_cons_zero, List.set_cons_succ]
            refine wpAnyH_ready (rs := [16]) (by kernel_rfl) (by simp) ?_
            refine AllReadyH.cons rfl (fun K hK => ?_) AllReadyH.nil
            go_simp
            refine hK.out _ _ hHeld (fun hHeld => ?_)
            clear hK K
            try simp only [List.getElem_toArray, List.getElem_cons_succ, List.getElem_cons_zero, Act.put, List.setIfInBounds_toArray, List.set_cons_zero, List.set_cons_succ]
            refine wpAnyH_done (by kernel_rfl) ?_ _
            go_wp2_with fail
            go_meet
            exact mid_of HL1.out HL2.out HL3.out HL4.out rfl (by repeat' (first | with_reducible refine Row.drew ?_ | with_reducible refine Row.newE _ _ _ (by simp) | exact Row.newE _ _ _ (by simp) | with_reducible refine Row.alloc ?_ _)) (by repeat' (first | with_reducible refine Row.drew ?_ | with_reducible refine Row.newE _ _ _ (by simp) | exact Row.newE _ _ _ (by simp) | with_reducible refine Row.alloc ?_ _)) (by repeat' (first | with_reducible refine Row.drew ?_ | with_reducible refine Row.newE _ _ _ (by simp) | exact Row.newE _ _ _ (by simp) | with_reducible refine Row.alloc ?_ _)) (by repeat' (first | with_reducible refine Row.drew ?_ | with_reducible refine Row.newE _ _ _ (by simp) | exact Row.newE _ _ _ (by simp) | with_reducible refine Row.alloc ?_ _)) (by repeat' (first | with_reducible refine Row.drew ?_ | with_reducible refine Row.newE _ _ _ (by simp) | exact Row.newE _ _ _ (by simp) | with_reducible refine Row.alloc ?_ _)) (by repeat' (first | with_reducible exact HQ1.out | with_reducible refine below_dr ?_ | with_reducible refine below_al ?_ _)) (by have := LT1.out; refine ⟨?_, ?_, ?_, ?_, ?_⟩ <;> omega) (by refine ⟨?_, ?_, ?_, ?_, ?_, ?_, ?_, ?_, ?_, ?_⟩ <;> omega) hn hrd
      · go_simp
        refine hK.out _ _ (cs_alloc4 hHeld _) (fun hHeld => ?_)
        clear hK K
        try simp only [List.getElem_toArray, List.getElem_cons_succ, List.getElem_cons_zero, Act.put, List.setIfInBounds_toArray, List.set_cons_zero, List.set_cons_succ]
        refine wpAnyH_ready (rs := [4, 13]) (by kernel_rfl) (by simp) ?_
        refine AllReadyH.cons rfl (fun K hK => ?_) (AllReadyH.cons rfl (fun K hK => ?_) (AllReadyH.nil))
        · go_simp
          refine hK.out _ _ (cs_alloc4 hHeld _) (fun hHeld => ?_)
          clear hK K
          try simp only [List.getElem_toArray, List.getElem_cons_succ, List.getElem_cons_zero, Act.put, List.setIfInBounds_toArray, List.set_cons_zero, List.set_cons_succ]
          refine wpAnyH_ready (rs := [13]) (by kernel_rfl) (by simp) ?_
          refine AllReadyH.cons rfl (fun K hK => ?_) (AllReadyH.nil)
          · go_simp
            refine hK.out _ _ (cs_alloc4 hHeld _) (fun hHeld => ?_)
            clear hK K
            try simp only [List.getElem_toArray, List.getElem_cons_succ, List.getElem_cons_zero, Act.put, List.setIfInBounds_toArray, List.set_cons_zero, List.set_cons_succ]
            refine wpAnyH_ready (rs := [14]) (by kernel_rfl) (by simp) ?_
            refine AllReadyH.cons rfl (fun K hK => ?_) AllReadyH.nil
            go_simp
            refine hK.out _ _ hHeld (fun hHeld => ?_)
            clear hK K
            try simp only [List.getElem_toArray, List.getElem_cons_succ, List.getElem_cons_zero, Act.put, List.setIfInBounds_toArray, List.set_cons_zero, List.set_cons_succ]
            refine wpAnyH_ready (rs := [15]) (by kernel_rfl) (by simp) ?_
            refine AllReadyH.cons rfl (fun K hK => ?_) AllReadyH.nil
            go_simp
            refine hK.out _ _ (cs_alloc4 hHeld _) (fun hHeld => ?_)
            clear hK K
            try simp only [List.getElem_toArray, List.getElem_cons_succ, List.getElem_cons_zero, Act.put, List.setIfInBounds_toArray, List.set_cons_zero, List.set_cons_succ]
            refine wpAnyH_ready (rs := [16]) (by kernel_rfl) (by simp) ?_
            refine AllReadyH.cons rfl (fun K hK => ?_) AllReadyH.nil
            go_simp
            refine hK.out _ _ hHeld (fun hHeld => ?_)
            clear hK K
            try simp only [List.getElem_toArray, List.getElem_cons_succ, List.getElem_cons_zero, Act.put, List.setIfInBounds_toArray, List.set_cons_zero, List.set_cons_succ]
            refine wpAnyH_done (by kernel_rfl) ?_ _
            go_wp2_with fail
            go_meet
            exact mid_of HL1.out HL2.out HL3.out HL4.out rfl (by repeat' (first | with_reducible refine Row.drew ?_ | with_reducible refine Row.newE _ _ _ (by simp) | exact Row.newE _ _ _ (by simp) | with_reducible refine Row.alloc ?_ _)) (by repeat' (first | with_reducible refine Row.drew ?_ | with_reducible refine Row.newE _ _ _ (by simp) | exact Row.newE _ _ _ (by simp) | with_reducible refine Row.alloc ?_ _)) (by repeat' (first | with_reducible refine Row.drew ?_ | with_reducible refine Row.newE _ _ _ (by simp) | exact Row.newE _ _ _ (by simp) | with_reducible refine Row.alloc ?_ _)) (by repeat' (first | with_reducible refine Row.drew ?_ | with_reducible refine Row.newE _ _ _ (by simp) | exact Row.newE _ _ _ (by simp) | with_reducible refine Row.alloc ?_ _)) (by repeat' (first | with_reducible refine Row.drew ?_ | with_reducible refine Row.newE _ _ _ (by simp) | exact Row.newE _ _ _ (by simp) | with_reducible refine Row.alloc ?_ _)) (by repeat' (first | with_reducible exact HQ1.out | with_reducible refine below_dr ?_ | with_reducible refine below_al ?_ _)) (by have := LT1.out; refine ⟨?_, ?_, ?_, ?_, ?_⟩ <;> omega) (by refine ⟨?_, ?_, ?_, ?_, ?_, ?_, ?_, ?_, ?_, ?_⟩ <;> omega) hn hrd
        · go_simp
          refine hK.out _ _ (cs_alloc4 hHeld _) (fun hHeld => ?_)
          clear hK K
          try simp only [List.getElem_toArray, List.getElem_cons_succ, List.getElem_cons_zero, Act.put, List.setIfInBounds_toArray, List.set_cons_zero, List.set_cons_succ]
          refine wpAnyH_ready (rs := [4]) (by kernel_rfl) (by simp) ?_
          refine AllReadyH.cons rfl (fun K hK => ?_) (AllReadyH.nil)
          · go_simp
            refine hK.out _ _ (cs_alloc4 hHeld _) (fun hHeld => ?_)
            clear hK K
            try simp only [List.getElem_toArray, List.getElem_cons_succ, List.getElem_cons_zero, Act.put, List.setIfInBounds_toArray, List.set_cons_zero, List.set_cons_succ]
            refine wpAnyH_ready (rs := [14]) (by kernel_rfl) (by simp) ?_
            refine AllReadyH.cons rfl (fun K hK => ?_) AllReadyH.nil
            go_simp
            refine hK.out _ _ hHeld (fun hHeld => ?_)
            clear hK K
            try simp only [List.getElem_toArray, List.getElem_cons_succ, List.getElem_cons_zero, Act.put, List.setIfInBounds_toArray, List.set_cons_zero, List.set_cons_succ]
            refine wpAnyH_ready (rs := [15]) (by kernel_rfl) (by simp) ?_
            refine AllReadyH.cons rfl (fun K hK => ?_) AllReadyH.nil
            go_simp
            refine hK.out _ _ (cs_alloc4 hHeld _) (fun hHeld => ?_)
            clear hK K
            try simp only [List.getElem_toArray, List.getElem_cons_succ, List.getElem_cons_zero, Act.put, List.setIfInBounds_toArray, List.set_cons_zero, List.set_cons_succ]
            refine wpAnyH_ready (rs := [16]) (by kernel_rfl) (by simp) ?_
            refine AllReadyH.cons rfl (fun K hK => ?_) AllReadyH.nil
            go_simp
            refine hK.out _ _ hHeld (fun hHeld => ?_)
            clear hK K
            try simp only [List.getElem_toArray, List.getElem_cons_succ, List.getElem_cons_zero, Act.put, List.setIfInBounds_toArray, List.set_cons_zero, List.set_cons_succ]
            refine wpAnyH_done (by kernel_rfl) ?_ _
            go_wp2_with fail
            go_meet
            exact mid_of HL1.out HL2.out HL3.out HL4.out rfl (by repeat' (first | with_reducible refine Row.drew ?_ | with_reducible refine Row.newE _ _ _ (by simp) | exact Row.newE _ _ _ (by simp) | with_reducible refine Row.alloc ?_ _)) (by repeat' (first | with_reducible refine Row.drew ?_ | with_reducible refine Row.newE _ _ _ (by simp) | exact Row.newE _ _ _ (by simp) | with_reducible refine Row.alloc ?_ _)) (by repeat' (first | with_reducible refine Row.drew ?_ | with_reducible refine Row.newE _ _ _ (by simp) | exact Row.newE _ _ _ (by simp) | with_reducible refine Row.alloc ?_ _)) (by repeat' (first | with_reducible refine Row.drew ?_ | with_reducible refine Row.newE _ _ _ (by simp) | exact Row.newE _ _ _ (by simp) | with_reducible refine Row.alloc ?_ _)) (by repeat' (first | with_reducible refine Row.drew ?_ | with_reducible refine Row.newE _ _ _ (by simp) | exact Row.newE _ _ _ (by simp) | with_reducible refine Row.alloc ?_ _)) (by repeat' (first | with_reducible exact HQ1.out | with_reducible refine below_dr ?_ | with_reducible refine below_al ?_ _)) (by have := LT1.out; refine ⟨?_, ?_, ?_, ?_, ?_⟩ <;> omega) (by refine ⟨?_, ?_, ?_, ?_, ?_, ?_, ?_, ?_, ?_, ?_⟩ <;> omega) hn hrd
      · go_simp
        refine hK.out _ _ (cs_alloc4 hHeld _) (fun hHeld => ?_)
        clear hK K
        try simp only [List.getElem_toArray, List.getElem_cons_succ, List.getElem_cons_zero, Act.put, List.setIfInBounds_toArray, List.set_cons_zero, List.set_cons_succ]
        refine wpAnyH_ready (rs := [4, 10]) (by kernel_rfl) (by simp) ?_
        refine AllReadyH.cons rfl (fun K hK => ?_) (AllReadyH.cons rfl (fun K hK => ?_) (AllReadyH.nil))
        · go_simp
          refine hK.out _ _ (cs_alloc4 hHeld _) (fun hHeld => ?_)
          clear hK K
          try simp only [List.getElem_toArray, List.getElem_cons_succ, List.getElem_cons_zero, Act.put, List.setIfInBounds_toArray, List.set_cons_zero, List.set_cons_succ]
          refine wpAnyH_ready (rs := [10]) (by kernel_rfl) (by simp) ?_
          refine AllReadyH.cons rfl (fun K hK => ?_) (AllReadyH.nil)
          · go_simp
            refine hK.out _ _ (cs_alloc4 hHeld _) (fun hHeld => ?_)
            clear hK K
            try simp only [List.getElem_toArray, List.getElem_cons_succ, List.getElem_cons_zero, Act.put, List.setIfInBounds_toArray, List.set_cons_zero, List.set_cons_succ]
            refine wpAnyH_ready (rs := [14]) (by kernel_rfl) (by simp) ?_
            refine AllReadyH.cons rfl (fun K hK => ?_) AllReadyH.nil
            go_simp
            refine hK.out _ _ hHeld (fun hHeld => ?_)
            clear hK K
            try simp only [List.getElem_toArray, List.getElem_cons_succ, List.getElem_cons_zero, Act.put, List.setIfInBounds_toArray, List.set_cons_zero, List.set_cons_succ]
            refine wpAnyH_ready (rs := [15]) (by kernel_rfl) (by simp) ?_
            refine AllReadyH.cons rfl (fun K hK => ?_) AllReadyH.nil
            go_simp
            refine hK.out _ _ (cs_alloc4 hHeld _) (fun hHeld => ?_)
            clear hK K
            try simp only [List.getElem_toArray, List.getElem_cons_succ, List.getElem_cons_zero, Act.put, List.setIfInBounds_toArray, List.set_cons_zero, List.set_cons_succ]
            refine wpAnyH_ready (rs := [16]) (by kernel_rfl) (by simp) ?_
            refine AllReadyH.cons rfl (fun K hK => ?_) AllReadyH.nil
            go_simp
            refine hK.out _ _ hHeld (fun hHeld => ?_)
            clear hK K
            try simp only [List.getElem_toArray, List.getElem_cons_succ, List.getElem_cons_zero, Act.put, List.setIfInBounds_toArray, List.set_cons_zero, List.set_cons_succ]
            refine wpAnyH_done (by kernel_rfl) ?_ _
            go_wp2_with fail
            go_meet
            exact mid_of HL1.out HL2.out HL3.out HL4.out rfl (by repeat' (first | with_reducible refine Row.drew ?_ | with_reducible refine Row.newE _ _ _ (by simp) | exact Row.newE _ _ _ (by simp) | with_reducible refine Row.alloc ?_ _)) (by repeat' (first | with_reducible refine Row.drew ?_ | with_reducible refine Row.newE _ _ _ (by simp) | exact Row.newE _ _ _ (by simp) | with_reducible refine Row.alloc ?_ _)) (by repeat' (first | with_reducible refine Row.drew ?_ | with_reducible refine Row.newE _ _ _ (by simp) | exact Row.newE _ _ _ (by simp) | with_reducible refine Row.alloc ?_ _)) (by repeat' (first | with_reducible refine Row.drew ?_ | with_reducible refine Row.newE _ _ _ (by simp) | exact Row.newE _ _ _ (by simp) | with_reducible refine Row.alloc ?_ _)) (by repeat' (first | with_reducible refine Row.drew ?_ | with_reducible refine Row.newE _ _ _ (by simp) | exact Row.newE _ _ _ (by simp) | with_reducible refine Row.alloc ?_ _)) (by repeat' (first | with_reducible exact HQ1.out | with_reducible refine below_dr ?_ | with_reducible refine below_al ?_ _)) (by have := LT1.out; refine ⟨?_, ?_, ?_, ?_, ?_⟩ <;> omega) (by refine ⟨?_, ?_, ?_, ?_, ?_, ?_, ?_, ?_, ?_, ?_⟩ <;> omega) hn hrd
        · go_simp
          refine hK.out _ _ (cs_alloc4 hHeld _) (fun hHeld => ?_)
          clear hK K
          try simp only [List.getElem_toArray, List.getElem_cons_succ, List.getElem_cons_zero, Act.put, List.setIfInBounds_toArray, List.set_cons_zero, List.set_cons_succ]
          refine wpAnyH_ready (rs := [4]) (by kernel_rfl) (by simp) ?_
          refine AllReadyH.cons rfl (fun K hK => ?_) (AllReadyH.nil)
          · go_simp
            refine hK.out _ _ (cs_alloc4 hHeld _) (fun hHeld => ?_)
            clear hK K
            try simp only [List.getElem_toArray, List.getElem_cons_succ, List.getElem_cons_zero, Act.put, List.setIfInBounds_toArray, List.set_cons_zero, List.set_cons_succ]
            refine wpAnyH_ready (rs := [14]) (by kernel_rfl) (by simp) ?_
            refine AllReadyH.cons rfl (fun K hK => ?_) AllReadyH.nil
            go_simp
            refine hK.out _ _ hHeld (fun hHeld => ?_)
            clear hK K
            try simp only [List.getElem_toArray, List.getElem_cons_succ, List.getElem_cons_zero, Act.put, List.setIfInBounds_toArray, List.set_cons_zero, List.set_cons_succ]
            refine wpAnyH_ready (rs := [15]) (by kernel_rfl) (by simp) ?_
            refine AllReadyH.cons rfl (fun K hK => ?_) AllReadyH.nil
            go_simp
            refine hK.out _ _ (cs_alloc4 hHeld _) (fun hHeld => ?_)
            clear hK K
            try simp only [List.getElem_toArray, List.getElem_cons_succ, List.getElem_cons_zero, Act.put, List.setIfInBounds_toArray, List.set_cons_zero, List.set_cons_succ]
            refine wpAnyH_ready (rs := [16]) (by kernel_rfl) (by simp) ?_
            refine AllReadyH.cons rfl (fun K hK => ?_) AllReadyH.nil
            go_simp
            refine hK.out _ _ hHeld (fun hHeld => ?_)
            clear hK K
            try simp only [List.getElem_toArray, List.getElem_cons_succ, List.getElem_cons_zero, Act.put, List.setIfInBounds_toArray, List.set_cons_zero, List.set_cons_succ]
            refine wpAnyH_done (by kernel_rfl) ?_ _
            go_wp2_with fail
            go_meet
            exact mid_of HL1.out HL2.out HL3.out HL4.out rfl (by repeat' (first | with_reducible refine Row.drew ?_ | with_reducible refine Row.newE _ _ _ (by simp) | exact Row.newE _ _ _ (by simp) | with_reducible refine Row.alloc ?_ _)) (by repeat' (first | with_reducible refine Row.drew ?_ | with_reducible refine Row.newE _ _ _ (by simp) | exact Row.newE _ _ _ (by simp) | with_reducible refine Row.alloc ?_ _)) (by repeat' (first | with_reducible refine Row.drew ?_ | with_reducible refine Row.newE _ _ _ (by simp) | exact Row.newE _ _ _ (by simp) | with_reducible refine Row.alloc ?_ _)) (by repeat' (first | with_reducible refine Row.drew ?_ | with_reducible refine Row.newE _ _ _ (by simp) | exact Row.newE _ _ _ (by simp) | with_reducible refine Row.alloc ?_ _)) (by repeat' (first | with_reducible refine Row.drew ?_ | with_reducible refine Row.newE _ _ _ (by simp) | exact Row.newE _ _ _ (by simp) | with_reducible refine Row.alloc ?_ _)) (by repeat' (first | with_reducible exact HQ1.out | with_reducible refine below_dr ?_ | with_reducible refine below_al ?_ _)) (by have := LT1.out; refine ⟨?_, ?_, ?_, ?_, ?_⟩ <;> omega) (by refine ⟨?_, ?_, ?_, ?_, ?_, ?_, ?_, ?_, ?_, ?_⟩ <;> omega) hn hrd
    · go_simp
      refine hK.out _ _ (cs_alloc4 hHeld _) (fun hHeld => ?_)
      clear hK K
      try simp only [List.getElem_toArray, List.getElem_cons_succ, List.getElem_cons_zero, Act.put, List.setIfInBounds_toArray, List.set_cons_zero, List.set_cons_succ]
      refine wpAnyH_ready (rs := [4, 7, 13]) (by kernel_rfl) (by simp) ?_
      refine AllReadyH.cons rfl (fun K hK => ?_) (AllReadyH.cons rfl (fun K hK => ?_) (AllReadyH.cons rfl (fun K hK => ?_) (AllReadyH.nil)))
      · go_simp
        refine hK.out _ _ (cs_alloc4 hHeld _) (fun hHeld => ?_)
        clear hK K
        try simp only [List.getElem_toArray, List.getElem_cons_succ, List.getElem_cons_zero, Act.put, List.setIfInBounds_toArray, List.set_cons_zero, List.set_cons_succ]
        refine wpAnyH_ready (rs := [7, 13]) (by kernel_rfl) (by simp) ?_
        refine AllReadyH.cons rfl (fun K hK => ?_) (AllReadyH.cons rfl (fun K hK => ?_) (AllReadyH.nil))
        · go_simp
          refine hK.out _ _ (cs_alloc4 hHeld _) (fun hHeld => ?_)
          clear hK K
          try simp only [List.getElem_toArray, List.getElem_cons_succ, List.getElem_cons_zero, Act.put, List.setIfInBounds_toArray, List.set_cons_zero, List.set_cons_succ]
          refine wpAnyH_ready (rs := [13]) (by kernel_rfl) (by simp) ?_
          refine AllReadyH.cons rfl (fun K hK => ?_) (AllReadyH.nil)
          · go_simp
            refine hK.out _ _ (cs_alloc4 hHeld _) (fun hHeld => ?_)
            clear hK K
            try simp only [List.getElem_toArray, List.getElem_cons_succ, List.getElem_cons_zero, Act.put, List.setIfInBounds_toArray, List.set_cons_zero, List.set_cons_succ]
            refine wpAnyH_ready (rs := [14]) (by kernel_rfl) (by simp) ?_
            refine AllReadyH.cons rfl (fun K hK => ?_) AllReadyH.nil
            go_simp
            refine hK.out _ _ hHeld (fun hHeld => ?_)
            clear hK K
            try simp only [List.getElem_toArray, List.getElem_cons_succ, List.getElem_cons_zero, Act.put, List.setIfInBounds_toArray, List.set_cons_zero, List.set_cons_succ]
            refine wpAnyH_ready (rs := [15]) (by kernel_rfl) (by simp) ?_
            refine AllReadyH.cons rfl (fun K hK => ?_) AllReadyH.nil
            go_simp
            refine hK.out _ _ (cs_alloc4 hHeld _) (fun hHeld => ?_)
            clear hK K
            try simp only [List.getElem_toArray, List.getElem_cons_succ, List.getElem_cons_zero, Act.put, List.setIfInBounds_toArray, List.set_cons_zero, List.set_cons_succ]
            refine wpAnyH_ready (rs := [16]) (by kernel_rfl) (by simp) ?_
            refine AllReadyH.cons rfl (fun K hK => ?_) AllReadyH.nil
            go_simp
            refine hK.out _ _ hHeld (fun hHeld => ?_)
            clear hK K
            try simp only [List.getElem_toArray, List.getElem_cons_succ, List.getElem_cons_zero, Act.put, List.setIfInBounds_toArray, List.set_cons_zero, List.set_cons_succ]
            refine wpAnyH_done (by kernel_rfl) ?_ _
            go_wp2_with fail
            go_meet
            exact mid_of HL1.out HL2.out HL3.out HL4.out rfl (by repeat' (first | with_reducible refine Row.drew ?_ | with_reducible refine Row.newE _ _ _ (by simp) | exact Row.newE _ _ _ (by simp) | with_reducible refine Row.alloc ?_ _)) (by repeat' (first | with_reducible refine Row.drew ?_ | with_reducible refine Row.newE _ _ _ (by simp) | exact Row.newE _ _ _ (by simp) | with_reducible refine Row.alloc ?_ _)) (by repeat' (first | with_reducible refine Row.drew ?_ | with_reducible refine Row.newE _ _ _ (by simp) | exact Row.newE _ _ _ (by simp) | with_reducible refine Row.alloc ?_ _)) (by repeat' (first | with_reducible refine Row.drew ?_ | with_reducible refine Row.newE _ _ _ (by simp) | exact Row.newE _ _ _ (by simp) | with_reducible refine Row.alloc ?_ _)) (by repeat' (first | with_reducible refine Row.drew ?_ | with_reducible refine Row.newE _ _ _ (by simp) | exact Row.newE _ _ _ (by simp) | with_reducible refine Row.alloc ?_ _)) (by repeat' (first | with_reducible exact HQ1.out | with_reducible refine below_dr ?_ | with_reducible refine below_al ?_ _)) (by have := LT1.out; refine ⟨?_, ?_, ?_, ?_, ?_⟩ <;> omega) (by refine ⟨?_, ?_, ?_, ?_, ?_, ?_, ?_, ?_, ?_, ?_⟩ <;> omega) hn hrd
        · go_simp
          refine hK.out _ _ (cs_alloc4 hHeld _) (fun hHeld => ?_)
          clear hK K
          try simp only [List.getElem_toArray, List.getElem_cons_succ, List.getElem_cons_zero, Act.put, List.setIfInBounds_toArray, List.set_cons_zero, List.set_cons_succ]
          refine wpAnyH_ready (rs := [7]) (by kernel_rfl) (by simp) ?_
          refine AllReadyH.cons rfl (fun K hK => ?_) (AllReadyH.nil)
          · go_simp
            refine hK.out _ _ (cs_alloc4 hHeld _) (fun hHeld => ?_)
            clear hK K
            try simp only [List.getElem_toArray, List.getElem_cons_succ, List.getElem_cons_zero, Act.put, List.setIfInBounds_toArray, List.set_cons_zero, List.set_cons_succ]
            refine wpAnyH_ready (rs := [14]) (by kernel_rfl) (by simp) ?_
            refine AllReadyH.cons rfl (fun K hK => ?_) AllReadyH.nil
            go_simp
            refine hK.out _ _ hHeld (fun hHeld => ?_)
            clear hK K
            try simp only [List.getElem_toArray, List.getElem_cons_succ, List.getElem_cons_zero, Act.put, List.setIfInBounds_toArray, List.set_cons_zero, List.set_cons_succ]
            refine wpAnyH_ready (rs := [15]) (by kernel_rfl) (by simp) ?_
            refine AllReadyH.cons rfl (fun K hK => ?_) AllReadyH.nil
            go_simp
            refine hK.out _ _ (cs_alloc4 hHeld _) (fun hHeld => ?_)
            clear hK K
            try simp only [List.getElem_toArray, List.getElem_cons_succ, List.getElem_cons_zero, Act.put, List.setIfInBounds_toArray, List.set_cons_zero, List.set_cons_succ]
            refine wpAnyH_ready (rs := [16]) (by kernel_rfl) (by simp) ?_
            refine AllReadyH.cons rfl (fun K hK => ?_) AllReadyH.nil
            go_simp
            refine hK.out _ _ hHeld (fun hHeld => ?_)
            clear hK K
            try simp only [List.getElem_toArray, List.getElem_cons_succ, List.getElem_cons_zero, Act.put, List.setIfInBounds_toArray, List.set_cons_zero, List.set_cons_succ]
            refine wpAnyH_done (by kernel_rfl) ?_ _
            go_wp2_with fail
            go_meet
            exact mid_of HL1.out HL2.out HL3.out HL4.out rfl (by repeat' (first | with_reducible refine Row.drew ?_ | with_reducible refine Row.newE _ _ _ (by simp) | exact Row.newE _ _ _ (by simp) | with_reducible refine Row.alloc ?_ _)) (by repeat' (first | with_reducible refine Row.drew ?_ | with_reducible refine Row.newE _ _ _ (by simp) | exact Row.newE _ _ _ (by simp) | with_reducible refine Row.alloc ?_ _)) (by repeat' (first | with_reducible refine Row.drew ?_ | with_reducible refine Row.newE _ _ _ (by simp) | exact Row.newE _ _ _ (by simp) | with_reducible refine Row.alloc ?_ _)) (by repeat' (first | with_reducible refine Row.drew ?_ | with_reducible refine Row.newE _ _ _ (by simp) | exact Row.newE _ _ _ (by simp) | with_reducible refine Row.alloc ?_ _)) (by repeat' (first | with_reducible refine Row.drew ?_ | with_reducible refine Row.newE _ _ _ (by simp) | exact Row.newE _ _ _ (by simp) | with_reducible refine Row.alloc ?_ _)) (by repeat' (first | with_reducible exact HQ1.out | with_reducible refine below_dr ?_ | with_reducible refine below_al ?_ _)) (by have := LT1.out; refine ⟨?_, ?_, ?_, ?_, ?_⟩ <;> omega) (by refine ⟨?_, ?_, ?_, ?_, ?_, ?_, ?_, ?_, ?_, ?_⟩ <;> omega) hn hrd
      · go_simp
        refine hK.out _ _ (cs_alloc4 hHeld _) (fun hHeld => ?_)
        clear hK K
        try simp only [List.getElem_toArray, List.getElem_cons_succ, List.getElem_cons_zero, Act.put, List.setIfInBounds_toArray, List.set_cons_zero, List.set_cons_succ]
        refine wpAnyH_ready (rs := [4, 13]) (by kernel_rfl) (by simp) ?_
        refine AllReadyH.cons rfl (fun K hK => ?_) (AllReadyH.cons rfl (fun K hK => ?_) (AllReadyH.nil))
        · go_simp
          refine hK.out _ _ (cs_alloc4 hHeld _) (fun hHeld => ?_)
          clear hK K
          try simp only [List.getElem_toArray, List.getElem_cons_succ, List.getElem_cons_zero, Act.put, List.setIfInBounds_toArray, List.set_cons_zero, List.set_cons_succ]
          refine wpAnyH_ready (rs := [13]) (by kernel_rfl) (by simp) ?_
          refine AllReadyH.cons rfl (fun K hK => ?_) (AllReadyH.nil)
          · go_simp
            refine hK.out _ _ (cs_alloc4 hHeld _) (fun hHeld => ?_)
            clear hK K
            try simp only [List.getElem_toArray, List.getElem_cons_succ, List.getElem_cons_zero, Act.put, List.setIfInBounds_toArray, List.set_cons_zero, List.set_cons_succ]
            refine wpAnyH_ready (rs := [14]) (by kernel_rfl) (by simp) ?_
            refine AllReadyH.cons rfl (fun K hK => ?_) AllReadyH.nil
            go_simp
            refine hK.out _ _ hHeld (fun hHeld => ?_)
            clear hK K
            try simp only [List.getElem_toArray, List.getElem_cons_succ, List.getElem_cons_zero, Act.put, List.setIfInBounds_toArray, List.set_cons_zero, List.set_cons_succ]
            refine wpAnyH_ready (rs := [15]) (by kernel_rfl) (by simp) ?_
            refine AllReadyH.cons rfl (fun K hK => ?_) AllReadyH.nil
            go_simp
            refine hK.out _ _ (cs_alloc4 hHeld _) (fun hHeld => ?_)
            clear hK K
            try simp only [List.getElem_toArray, List.getElem_cons_succ, List.getElem_cons_zero, Act.put, List.setIfInBounds_toArray, List.set_cons_zero, List.set_cons_succ]
            refine wpAnyH_ready (rs := [16]) (by kernel_rfl) (by simp) ?_
            refine AllReadyH.cons rfl (fun K hK => ?_) AllReadyH.nil
            go_simp
            refine hK.out _ _ hHeld (fun hHeld => ?_)
            clear hK K
            try simp only [List.getElem_toArray, List.getElem_cons_succ, List.getElem_cons_zero, Act.put, List.setIfInBounds_toArray, List.set_cons_zero, List.set_cons_succ]
            refine wpAnyH_done (by kernel_rfl) ?_ _
            go_wp2_with fail
            go_meet
            exact mid_of HL1.out HL2.out HL3.out HL4.out rfl (by repeat' (first | with_reducible refine Row.drew ?_ | with_reducible refine Row.newE _ _ _ (by simp) | exact Row.newE _ _ _ (by simp) | with_reducible refine Row.alloc ?_ _)) (by repeat' (first | with_reducible refine Row.drew ?_ | with_reducible refine Row.newE _ _ _ (by simp) | exact Row.newE _ _ _ (by simp) | with_reducible refine Row.alloc ?_ _)) (by repeat' (first | with_reducible refine Row.drew ?_ | with_reducible refine Row.newE _ _ _ (by simp) | exact Row.newE _ _ _ (by simp) | with_reducible refine Row.alloc ?_ _)) (by repeat' (first | with_reducible refine Row.drew ?_ | with_reducible refine Row.newE _ _ _ (by simp) | exact Row.newE _ _ _ (by simp) | with_reducible refine Row.alloc ?_ _)) (by repeat' (first | with_reducible refine Row.drew ?_ | with_reducible refine Row.newE _ _ _ (by simp) | exact Row.newE _ _ _ (by simp) | with_reducible refine Row.alloc ?_ _)) (by repeat' (first | with_reducible exact HQ1.out | with_reducible refine below_dr ?_ | with_reducible refine below_al ?_ _)) (by have := LT1.out; refine ⟨?_, ?_, ?_, ?_, ?_⟩ <;> omega) (by refine ⟨?_, ?_, ?_, ?_, ?_, ?_, ?_, ?_, ?_, ?_⟩ <;> omega) hn hrd
        · go_simp
          refine hK.out _ _ (cs_alloc4 hHeld _) (fun hHeld => ?_)
          clear hK K
          try simp only [List.getElem_toArray, List.getElem_cons_succ, List.getElem_cons_zero, Act.put, List.setIfInBounds_toArray, List.set_cons_zero, List.set_cons_succ]
          refine wpAnyH_ready (rs := [4]) (by kernel_rfl) (by simp) ?_
          refine AllReadyH.cons rfl (fun K hK => ?_) (AllReadyH.nil)
          · go_simp
            refine hK.out _ _ (cs_alloc4 hHeld _) (fun hHeld => ?_)
            clear hK K
            try simp only [List.getElem_toArray, List.getElem_cons_succ, List.getElem_cons_zero, Act.put, List.setIfInBounds_toArray, List.set_cons_zero, List.set_cons_succ]
            refine wpAnyH_ready (rs := [14]) (by kernel_rfl) (by simp) ?_
            refine AllReadyH.cons rfl (fun K hK => ?_) AllReadyH.nil
            go_simp
            refine hK.out _ _ hHeld (fun hHeld => ?_)
            clear hK K
            try simp only [List.getElem_toArray, List.getElem_cons_succ, List.getElem_cons_zero, Act.put, List.setIfInBounds_toArray, List.set_cons_zero, List.set_cons_succ]
            refine wpAnyH_ready (rs := [15]) (by kernel_rfl) (by simp) ?_
            refine AllReadyH.cons rfl (fun K hK => ?_) AllReadyH.nil
            go_simp
            refine hK.out _ _ (cs_alloc4 hHeld _) (fun hHeld => ?_)
            clear hK K
            try simp only [List.getElem_toArray, List.getElem_cons_succ, List.getElem_cons_zero, Act.put, List.setIfInBounds_toArray, List.set_cons_zero, List.set_cons_succ]
            refine wpAnyH_ready (rs := [16]) (by kernel_rfl) (by simp) ?_
            refine AllReadyH.cons rfl (fun K hK => ?_) AllReadyH.nil
            go_simp
            refine hK.out _ _ hHeld (fun hHeld => ?_)
            clear hK K
            try simp only [List.getElem_toArray, List.getElem_cons_succ, List.getElem_cons_zero, Act.put, List.setIfInBounds_toArray, List.set_cons_zero, List.set_cons_succ]
            refine wpAnyH_done (by kernel_rfl) ?_ _
            go_wp2_with fail
            go_meet
            exact mid_of HL1.out HL2.out HL3.out HL4.out rfl (by repeat' (first | with_reducible refine Row.drew ?_ | with_reducible refine Row.newE _ _ _ (by simp) | exact Row.newE _ _ _ (by simp) | with_reducible refine Row.alloc ?_ _)) (by repeat' (first | with_reducible refine Row.drew ?_ | with_reducible refine Row.newE _ _ _ (by simp) | exact Row.newE _ _ _ (by simp) | with_reducible refine Row.alloc ?_ _)) (by repeat' (first | with_reducible refine Row.drew ?_ | with_reducible refine Row.newE _ _ _ (by simp) | exact Row.newE _ _ _ (by simp) | with_reducible refine Row.alloc ?_ _)) (by repeat' (first | with_reducible refine Row.drew ?_ | with_reducible refine Row.newE _ _ _ (by simp) | exact Row.newE _ _ _ (by simp) | with_reducible refine Row.alloc ?_ _)) (by repeat' (first | with_reducible refine Row.drew ?_ | with_reducible refine Row.newE _ _ _ (by simp) | exact Row.newE _ _ _ (by simp) | with_reducible refine Row.alloc ?_ _)) (by repeat' (first | with_reducible exact HQ1.out | with_reducible refine below_dr ?_ | with_reducible refine below_al ?_ _)) (by have := LT1.out; refine ⟨?_, ?_, ?_, ?_, ?_⟩ <;> omega) (by refine ⟨?_, ?_, ?_, ?_, ?_, ?_, ?_, ?_, ?_, ?_⟩ <;> omega) hn hrd
      · go_simp
        refine hK.out _ _ (cs_alloc4 hHeld _) (fun hHeld => ?_)
        clear hK K
        try simp only [List.getElem_toArray, List.getElem_cons_succ, List.getElem_cons_zero, Act.put, List.setIfInBounds_toArray, List.set_cons_zero, List.set_cons_succ]
        refine wpAnyH_ready (rs := [4, 7]) (by kernel_rfl) (by simp) ?_
        refine AllReadyH.cons rfl (fun K hK => ?_) (AllReadyH.cons rfl (fun K hK => ?_) (AllReadyH.nil))
        · go_simp
          refine hK.out _ _ (cs_alloc4 hHeld _) (fun hHeld => ?_)
          clear hK K
          try simp only [List.getElem_toArray, List.getElem_cons_succ, List.getElem_cons_zero, Act.put, List.setIfInBounds_toArray, List.set_cons_zero, List.set_cons_succ]
          refine wpAnyH_ready (rs := [7]) (by kernel_rfl) (by simp) ?_
          refine AllReadyH.cons rfl (fun K hK => ?_) (AllReadyH.nil)
          · go_simp
            refine hK.out _ _ (cs_alloc4 hHeld _) (fun hHeld => ?_)
            clear hK K
            try simp only [List.getElem_toArray, List.getElem_cons_succ, List.getElem_cons_zero, Act.put, List.setIfInBounds_toArray, List.set_cons_zero, List.set_cons_succ]
            refine wpAnyH_ready (rs := [14]) (by kernel_rfl) (by simp) ?_
            refine AllReadyH.cons rfl (fun K hK => ?_) AllReadyH.nil
            go_simp
            refine hK.out _ _ hHeld (fun hHeld => ?_)
            clear hK K
            try simp only [List.getElem_toArray, List.getElem_cons_succ, List.getElem_cons_zero, Act.put, List.setIfInBounds_toArray, List.set_cons_zero, List.set_cons_succ]
            refine wpAnyH_ready (rs := [15]) (by kernel_rfl) (by simp) ?_
            refine AllReadyH.cons rfl (fun K hK => ?_) AllReadyH.nil
            go_simp
            refine hK.out _ _ (cs_alloc4 hHeld _) (fun hHeld => ?_)
            clear hK K
            try simp only [List.getElem_toArray, List.getElem_cons_succ, List.getElem_cons_zero, Act.put, List.setIfInBounds_toArray, List.set_cons_zero, List.set_cons_succ]
            refine wpAnyH_ready (rs := [16]) (by kernel_rfl) (by simp) ?_
            refine AllReadyH.cons rfl (fun K hK => ?_) AllReadyH.nil
            go_simp
            refine hK.out _ _ hHeld (fun hHeld => ?_)
            clear hK K
            try simp only [List.getElem_toArray, List.getElem_cons_succ, List.getElem_cons_zero, Act.put, List.setIfInBounds_toArray, List.set_cons_zero, List.set_cons_succ]
            refine wpAnyH_done (by kernel_rfl) ?_ _
            go_wp2_with fail
            go_meet
            exact mid_of HL1.out HL2.out HL3.out HL4.out rfl (by repeat' (first | with_reducible refine Row.drew ?_ | with_reducible refine Row.newE _ _ _ (by simp) | exact Row.newE _ _ _ (by simp) | with_reducible refine Row.alloc ?_ _)) (by repeat' (first | with_reducible refine Row.drew ?_ | with_reducible refine Row.newE _ _ _ (by simp) | exact Row.newE _ _ _ (by simp) | with_reducible refine Row.alloc ?_ _)) (by repeat' (first | with_reducible refine Row.drew ?_ | with_reducible refine Row.newE _ _ _ (by simp) | exact Row.newE _ _ _ (by simp) | with_reducible refine Row.alloc ?_ _)) (by repeat' (first | with_reducible refine Row.drew ?_ | with_reducible refine Row.newE _ _ _ (by simp) | exact Row.newE _ _ _ (by simp) | with_reducible refine Row.alloc ?_ _)) (by repeat' (first | with_reducible refine Row.drew ?_ | with_reducible refine Row.newE _ _ _ (by simp) | exact Row.newE _ _ _ (by simp) | with_reducible refine Row.alloc ?_ _)) (by repeat' (first | with_reducible exact HQ1.out | with_reducible refine below_dr ?_ | with_reducible refine below_al ?_ _)) (by have := LT1.out; refine ⟨?_, ?_, ?_, ?_, ?_⟩ <;> omega) (by refine ⟨?_, ?_, ?_, ?_, ?_, ?_, ?_, ?_, ?_, ?_⟩ <;> omega) hn hrd
        · go_simp
          refine hK.out _ _ (cs_alloc4 hHeld _) (fun hHeld => ?_)
          clear hK K
          try simp only [List.getElem_toArray, List.getElem_cons_succ, List.getElem_cons_zero, Act.put, List.setIfInBounds_toArray, List.set_cons_zero, List.set_cons_succ]
          refine wpAnyH_ready (rs := [4]) (by kernel_rfl) (by simp) ?_
          refine AllReadyH.cons rfl (fun K hK => ?_) (AllReadyH.nil)
          · go_simp
            refine hK.out _ _ (cs_alloc4 hHeld _) (fun hHeld => ?_)
            clear hK K
            try simp only [List.getElem_toArray, List.getElem_cons_succ, List.getElem_cons_zero, Act.put, List.setIfInBounds_toArray, List.set_cons_zero, List.set_cons_succ]
            refine wpAnyH_ready (rs := [14]) (by kernel_rfl) (by simp) ?_
            refine AllReadyH.cons rfl (fun K hK => ?_) AllReadyH.nil
            go_simp
            refine hK.out _ _ hHeld (fun hHeld => ?_)
            clear hK K
            try simp only [List.getElem_toArray, List.getElem_cons_succ, List.getElem_cons_zero, Act.put, List.setIfInBounds_toArray, List.set_cons_zero, List.set_cons_succ]
            refine wpAnyH_ready (rs := [15]) (by kernel_rfl) (by simp) ?_
            refine AllReadyH.cons rfl (fun K hK => ?_) AllReadyH.nil
            go_simp
            refine hK.out _ _ (cs_alloc4 hHeld _) (fun hHeld => ?_)
            clear hK K
            try simp only [List.getElem_toArray, List.getElem_cons_succ, List.getElem_cons_zero, Act.put, List.setIfInBounds_toArray, List.set_cons_zero, List.set_cons_succ]
            refine wpAnyH_ready (rs := [16]) (by kernel_rfl) (by simp) ?_
            refine AllReadyH.cons rfl (fun K hK => ?_) AllReadyH.nil
            go_simp
            refine hK.out _ _ hHeld (fun hHeld => ?_)
            clear hK K
            try simp only [List.getElem_toArray, List.getElem_cons_succ, List.getElem_cons_zero, Act.put, List.setIfInBounds_toArray, List.set_cons_zero, List.set_cons_succ]
            refine wpAnyH_done (by kernel_rfl) ?_ _
            go_wp2_with fail
            go_meet
            exact mid_of HL1.out HL2.out HL3.out HL4.out rfl (by repeat' (first | with_reducible refine Row.drew ?_ | with_reducible refine Row.newE _ _ _ (by simp) | exact Row.newE _ _ _ (by simp) | with_reducible refine Row.alloc ?_ _)) (by repeat' (first | with_reducible refine Row.drew ?_ | with_reducible refine Row.newE _ _ _ (by simp) | exact Row.newE _ _ _ (by simp) | with_reducible refine Row.alloc ?_ _)) (by repeat' (first | with_reducible refine Row.drew ?_ | with_reducible refine Row.newE _ _ _ (by simp) | exact Row.newE _ _ _ (by simp) | with_reducible refine Row.alloc ?_ _)) (by repeat' (first | with_reducible refine Row.drew ?_ | with_reducible refine Row.newE _ _ _ (by simp) | exact Row.newE _ _ _ (by simp) | with_reducible refine Row.alloc ?_ _)) (by repeat' (first | with_reducible refine Row.drew ?_ | with_reducible refine Row.newE _ _ _ (by simp) | exact Row.newE _ _ _ (by simp) | with_reducible refine Row.alloc ?_ _)) (by repeat' (first | with_reducible exact HQ1.out | with_reducible refine below_dr ?_ | with_reducible refine below_al ?_ _)) (by have := LT1.out; refine ⟨?_, ?_, ?_, ?_, ?_⟩ <;> omega) (by refine ⟨?_, ?_, ?_, ?_, ?_, ?_, ?_, ?_, ?_, ?_⟩ <;> omega) hn hrd
    · go_simp
      refine hK.out _ _ (cs_alloc4 hHeld _) (fun hHeld => ?_)
      clear hK K
      try simp only [List.getElem_toArray, List.getElem_cons_succ, List.getElem_cons_zero, Act.put, List.setIfInBounds_toArray, List.set_cons_zero, List.set_cons_succ]
      refine wpAnyH_ready (rs := [4, 7, 10]) (by kernel_rfl) (by simp) ?_
      refine AllReadyH.cons rfl (fun K hK => ?_) (AllReadyH.cons rfl (fun K hK => ?_) (AllReadyH.cons rfl (fun K hK => ?_) (AllReadyH.nil)))
      · go_simp
        refine hK.out _ _ (cs_alloc4 hHeld _) (fun hHeld => ?_)
        clear hK K
        try simp only [List.getElem_toArray, List.getElem_cons_succ, List.getElem_cons_zero, Act.put, List.setIfInBounds_toArray, List.set_cons_zero, List.set_cons_succ]
        refine wpAnyH_ready (rs := [7, 10]) (by kernel_rfl) (by simp) ?_
        refine AllReadyH.cons rfl (fun K hK => ?_) (AllReadyH.cons rfl (fun K hK => ?_) (AllReadyH.nil))
        · go_simp
          refine hK.out _ _ (cs_alloc4 hHeld _) (fun hHeld => ?_)
          clear hK K
          try simp only [List.getElem_toArray, List.getElem_cons_succ, List.getElem_cons_zero, Act.put, List.setIfInBounds_toArray, List.set_cons_zero, List.set_cons_succ]
          refine wpAnyH_ready (rs := [10]) (by kernel_rfl) (by simp) ?_
          refine AllReadyH.cons rfl (fun K hK => ?_) (AllReadyH.nil)
          · go_simp
            refine hK.out _ _ (cs_alloc4 hHeld _) (fun hHeld => ?_)
            clear hK K
            try simp only [List.getElem_toArray, List.getElem_cons_succ, List.getElem_cons_zero, Act.put, List.setIfInBounds_toArray, List.set_cons_zero, List.set_cons_succ]
            refine wpAnyH_ready (rs := [14]) (by kernel_rfl) (by simp) ?_
            refine AllReadyH.cons rfl (fun K hK => ?_) AllReadyH.nil
            go_simp
            refine hK.out _ _ hHeld (fun hHeld => ?_)
            clear hK K
            try simp only [List.getElem_toArray, List.getElem_cons_succ, List.getElem_cons_zero, Act.put, List.setIfInBounds_toArray, List.set_cons_zero, List.set_cons_succ]
            refine wpAnyH_ready (rs := [15]) (by kernel_rfl) (by simp) ?_
            refine AllReadyH.cons rfl (fun K hK => ?_) AllReadyH.nil
            go_simp
            refine hK.out _ _ (cs_alloc4 hHeld _) (fun hHeld => ?_)
            clear hK K
            try simp only [List.getElem_toArray, List.getElem_cons_succ, List.getElem_cons_zero, Act.put, List.setIfInBounds_toArray, List.set_cons_zero, List.set_cons_succ]
            refine wpAnyH_ready (rs := [16]) (by kernel_rfl) (by simp) ?_
            refine AllReadyH.cons rfl (fun K hK => ?_) AllReadyH.nil
            go_simp
            refine hK.out _ _ hHeld (fun hHeld => ?_)
            clear hK K
            try simp only [List.getElem_toArray, List.getElem_cons_succ, List.getElem_cons_zero, Act.put, List.setIfInBounds_toArray, List.set_cons_zero, List.set_cons_succ]
            refine wpAnyH_done (by kernel_rfl) ?_ _
            go_wp2_with fail
            go_meet
            exact mid_of HL1.out HL2.out HL3.out HL4.out rfl (by repeat' (first | with_reducible refine Row.drew ?_ | with_reducible refine Row.newE _ _ _ (by simp) | exact Row.newE _ _ _ (by simp) | with_reducible refine Row.alloc ?_ _)) (by repeat' (first | with_reducible refine Row.drew ?_ | with_reducible refine Row.newE _ _ _ (by simp) | exact Row.newE _ _ _ (by simp) | with_reducible refine Row.alloc ?_ _)) (by repeat' (first | with_reducible refine Row.drew ?_ | with_reducible refine Row.newE _ _ _ (by simp) | exact Row.newE _ _ _ (by simp) | with_reducible refine Row.alloc ?_ _)) (by repeat' (first | with_reducible refine Row.drew ?_ | with_reducible refine Row.newE _ _ _ (by simp) | exact Row.newE _ _ _ (by simp) | with_reducible refine Row.alloc ?_ _)) (by repeat' (first | with_reducible refine Row.drew ?_ | with_reducible refine Row.newE _ _ _ (by simp) | exact Row.newE _ _ _ (by simp) | with_reducible refine Row.alloc ?_ _)) (by repeat' (first | with_reducible exact HQ1.out | with_reducible refine below_dr ?_ | with_reducible refine below_al ?_ _)) (by have := LT1.out; refine ⟨?_, ?_, ?_, ?_, ?_⟩ <;> omega) (by refine ⟨?_, ?_, ?_, ?_, ?_, ?_, ?_, ?_, ?_, ?_⟩ <;> omega) hn hrd
        · go_simp
          refine hK.out _ _ (cs_alloc4 hHeld _) (fun hHeld => ?_)
          clear hK K
          try simp only [List.getElem_toArray, List.getElem_cons_succ, List.getElem_cons_zero, Act.put, List.setIfInBounds_toArray, List.set_cons_zero, List.set_cons_succ]
          refine wpAnyH_ready (rs := [7]) (by kernel_rfl) (by simp) ?_
          refine AllReadyH.cons rfl (fun K hK => ?_) (AllReadyH.nil)
          · go_simp
            refine hK.out _ _ (cs_alloc4 hHeld _) (fun hHeld => ?_)
            clear hK K
            try simp only [List.getElem_toArray, List.getElem_cons_succ, List.getElem_cons_zero, Act.put, List.setIfInBounds_toArray, List.set_cons_zero, List.set_cons_succ]
            refine wpAnyH_ready (rs := [14]) (by kernel_rfl) (by simp) ?_
            refine AllReadyH.cons rfl (fun K hK => ?_) AllReadyH.nil
            go_simp
            refine hK.out _ _ hHeld (fun hHeld => ?_)
            clear hK K
            try simp only [List.getElem_toArray, List.getElem_cons_succ, List.getElem_cons_zero, Act.put, List.setIfInBounds_toArray, List.set_cons_zero, List.set_cons_succ]
            refine wpAnyH_ready (rs := [15]) (by kernel_rfl) (by simp) ?_
            refine AllReadyH.cons rfl (fun K hK => ?_) AllReadyH.nil
            go_simp
            refine hK.out _ _ (cs_alloc4 hHeld _) (fun hHeld => ?_)
            clear hK K
            try simp only [List.getElem_toArray, List.getElem_cons_succ, List.getElem_cons_zero, Act.put, List.setIfInBounds_toArray, List.set_cons_zero, List.set_cons_succ]
            refine wpAnyH_ready (rs := [16]) (by kernel_rfl) (by simp) ?_
            refine AllReadyH.cons rfl (fun K hK => ?_) AllReadyH.nil
            go_simp
            refine hK.out _ _ hHeld (fun hHeld => ?_)
            clear hK K
            try simp only [List.getElem_toArray, List.getElem_cons_succ, List.getElem_cons_zero, Act.put, List.setIfInBounds_toArray, List.set_cons_zero, List.set_cons_succ]
            refine wpAnyH_done (by kernel_rfl) ?_ _
            go_wp2_with fail
            go_meet
            exact mid_of HL1.out HL2.out HL3.out HL4.out rfl (by repeat' (first | with_reducible refine Row.drew ?_ | with_reducible refine Row.newE _ _ _ (by simp) | exact Row.newE _ _ _ (by simp) | with_reducible refine Row.alloc ?_ _)) (by repeat' (first | with_reducible refine Row.drew ?_ | with_reducible refine Row.newE _ _ _ (by simp) | exact Row.newE _ _ _ (by simp) | with_reducible refine Row.alloc ?_ _)) (by repeat' (first | with_reducible refine Row.drew ?_ | with_reducible refine Row.newE _ _ _ (by simp) | exact Row.newE _ _ _ (by simp) | with_reducible refine Row.alloc ?_ _)) (by repeat' (first | with_reducible refine Row.drew ?_ | with_reducible refine Row.newE _ _ _ (by simp) | exact Row.newE _ _ _ (by simp) | with_reducible refine Row.alloc ?_ _)) (by repeat' (first | with_reducible refine Row.drew ?_ | with_reducible refine Row.newE _ _ _ (by simp) | exact Row.newE _ _ _ (by simp) | with_reducible refine Row.alloc ?_ _)) (by repeat' (first | with_reducible exact HQ1.out | with_reducible refine below_dr ?_ | with_reducible refine below_al ?_ _)) (by have := LT1.out; refine ⟨?_, ?_, ?_, ?_, ?_⟩ <;> omega) (by refine ⟨?_, ?_, ?_, ?_, ?_, ?_, ?_, ?_, ?_, ?_⟩ <;> omega) hn hrd
      · go_simp
        refine hK.out _ _ (cs_alloc4 hHeld _) (fun hHeld => ?_)
        clear hK K
        try simp only [List.getElem_toArray, List.getElem_cons_succ, List.getElem_cons_zero, Act.put, List.setIfInBounds_toArray, List.set_cons_zero, List.set_cons_succ]
        refine wpAnyH_ready (rs := [4, 10]) (by kernel_rfl) (by simp) ?_
        refine AllReadyH.cons rfl (fun K hK => ?_) (AllReadyH.cons rfl (fun K hK => ?_) (AllReadyH.nil))
        · go_simp
          refine hK.out _ _ (cs_alloc4 hHeld _) (fun hHeld => ?_)
          clear hK K
          try simp only [List.getElem_toArray, List.getElem_cons_succ, List.getElem_cons_zero, Act.put, List.setIfInBounds_toArray, List.set_cons_zero, List.set_cons_succ]
          refine wpAnyH_ready (rs := [10]) (by kernel_rfl) (by simp) ?_
          refine AllReadyH.cons rfl (fun K hK => ?_) (AllReadyH.nil)
          · go_simp
            refine hK.out _ _ (cs_alloc4 hHeld _) (fun hHeld => ?_)
            clear hK K
            try simp only [List.getElem_toArray, List.getElem_cons_succ, List.getElem_cons_zero, Act.put, List.setIfInBounds_toArray, List.set_cons_zero, List.set_cons_succ]
            refine wpAnyH_ready (rs := [14]) (by kernel_rfl) (by simp) ?_
            refine AllReadyH.cons rfl (fun K hK => ?_) AllReadyH.nil
            go_simp
            refine hK.out _ _ hHeld (fun hHeld => ?_)
            clear hK K
            try simp only [List.getElem_toArray, List.getElem_cons_succ, List.getElem_cons_zero, Act.put, List.setIfInBounds_toArray, List.set_cons_zero, List.set_cons_succ]
            refine wpAnyH_ready (rs := [15]) (by kernel_rfl) (by simp) ?_
            refine AllReadyH.cons rfl (fun K hK => ?_) AllReadyH.nil
            go_simp
            refine hK.out _ _ (cs_alloc4 hHeld _) (fun hHeld => ?_)
            clear hK K
            try simp only [List.getElem_toArray, List.getElem_cons_succ, List.getElem_cons_zero, Act.put, List.setIfInBounds_toArray, List.set_cons_zero, List.set_cons_succ]
            refine wpAnyH_ready (rs := [16]) (by kernel_rfl) (by simp) ?_
            refine AllReadyH.cons rfl (fun K hK => ?_) AllReadyH.nil
            go_simp
            refine hK.out _ _ hHeld (fun hHeld => ?_)
            clear hK K
            try simp only [List.getElem_toArray, List.getElem_cons_succ, List.getElem_cons_zero, Act.put, List.setIfInBounds_toArray, List.set_cons_zero, List.set_cons_succ]
            refine wpAnyH_done (by kernel_rfl) ?_ _
            go_wp2_with fail
            go_meet
            exact mid_of HL1.out HL2.out HL3.out HL4.out rfl (by repeat' (first | with_reducible refine Row.drew ?_ | with_reducible refine Row.newE _ _ _ (by simp) | exact Row.newE _ _ _ (by simp) | with_reducible refine Row.alloc ?_ _)) (by repeat' (first | with_reducible refine Row.drew ?_ | with_reducible refine Row.newE _ _ _ (by simp) | exact Row.newE _ _ _ (by simp) | with_reducible refine Row.alloc ?_ _)) (by repeat' (first | with_reducible refine Row.drew ?_ | with_reducible refine Row.newE _ _ _ (by simp) | exact Row.newE _ _ _ (by simp) | with_reducible refine Row.alloc ?_ _)) (by repeat' (first | with_reducible refine Row.drew ?_ | with_reducible refine Row.newE _ _ _ (by simp) | exact Row.newE _ _ _ (by simp) | with_reducible refine Row.alloc ?_ _)) (by repeat' (first | with_reducible refine Row.drew ?_ | with_reducible refine Row.newE _ _ _ (by simp) | exact Row.newE _ _ _ (by simp) | with_reducible refine Row.alloc ?_ _)) (by repeat' (first | with_reducible exact HQ1.out | with_reducible refine below_dr ?_ | with_reducible refine below_al ?_ _)) (by have := LT1.out; refine ⟨?_, ?_, ?_, ?_, ?_⟩ <;> omega) (by refine ⟨?_, ?_, ?_, ?_, ?_, ?_, ?_, ?_, ?_, ?_⟩ <;> omega) hn hrd
        · go_simp
          refine hK.out _ _ (cs_alloc4 hHeld _) (fun hHeld => ?_)
          clear hK K
          try simp only [List.getElem_toArray, List.getElem_cons_succ, List.getElem_cons_zero, Act.put, List.setIfInBounds_toArray, List.set_cons_zero, List.set_cons_succ]
          refine wpAnyH_ready (rs := [4]) (by kernel_rfl) (by simp) ?_
          refine AllReadyH.cons rfl (fun K hK => ?_) (AllReadyH.nil)
          · go_simp
            refine hK.out _ _ (cs_alloc4 hHeld _) (fun hHeld => ?_)
            clear hK K
            try simp only [List.getElem_toArray, List.getElem_cons_succ, List.getElem_cons_zero, Act.put, List.setIfInBounds_toArray, List.set_cons_zero, List.set_cons_succ]
            refine wpAnyH_ready (rs := [14]) (by kernel_rfl) (by simp) ?_
            refine AllReadyH.cons rfl (fun K hK => ?_) AllReadyH.nil
            go_simp
            refine hK.out _ _ hHeld (fun hHeld => ?_)
            clear hK K
            try simp only [List.getElem_toArray, List.getElem_cons_succ, List.getElem_cons_zero, Act.put, List.setIfInBounds_toArray, List.set_cons_zero, List.set_cons_succ]
            refine wpAnyH_ready (rs := [15]) (by kernel_rfl) (by simp) ?_
            refine AllReadyH.cons rfl (fun K hK => ?_) AllReadyH.nil
            go_simp
            refine hK.out _ _ (cs_alloc4 hHeld _) (fun hHeld => ?_)
            clear hK K
            try simp only [List.getElem_toArray, List.getElem_cons_succ, List.getElem_cons_zero, Act.put, List.setIfInBounds_toArray, List.set_cons_zero, List.set_cons_succ]
            refine wpAnyH_ready (rs := [16]) (by kernel_rfl) (by simp) ?_
            refine AllReadyH.cons rfl (fun K hK => ?_) AllReadyH.nil
            go_simp
            refine hK.out _ _ hHeld (fun hHeld => ?_)
            clear hK K
            try simp only [List.getElem_toArray, List.getElem_cons_succ, List.getElem_cons_zero, Act.put, List.setIfInBounds_toArray, List.set_cons_zero, List.set_cons_succ]
            refine wpAnyH_done (by kernel_rfl) ?_ _
            go_wp2_with fail
            go_meet
            exact mid_of HL1.out HL2.out HL3.out HL4.out rfl (by repeat' (first | with_reducible refine Row.drew ?_ | with_reducible refine Row.newE _ _ _ (by simp) | exact Row.newE _ _ _ (by simp) | with_reducible refine Row.alloc ?_ _)) (by repeat' (first | with_reducible refine Row.drew ?_ | with_reducible refine Row.newE _ _ _ (by simp) | exact Row.newE _ _ _ (by simp) | with_reducible refine Row.alloc ?_ _)) (by repeat' (first | with_reducible refine Row.drew ?_ | with_reducible refine Row.newE _ _ _ (by simp) | exact Row.newE _ _ _ (by simp) | with_reducible refine Row.alloc ?_ _)) (by repeat' (first | with_reducible refine Row.drew ?_ | with_reducible refine Row.newE _ _ _ (by simp) | exact Row.newE _ _ _ (by simp) | with_reducible refine Row.alloc ?_ _)) (by repeat' (first | with_reducible refine Row.drew ?_ | with_reducible refine Row.newE _ _ _ (by simp) | exact Row.newE _ _ _ (by simp) | with_reducible refine Row.alloc ?_ _)) (by repeat' (first | with_reducible exact HQ1.out | with_reducible refine below_dr ?_ | with_reducible refine below_al ?_ _)) (by have := LT1.out; refine ⟨?_, ?_, ?_, ?_, ?_⟩ <;> omega) (by refine ⟨?_, ?_, ?_, ?_, ?_, ?_, ?_, ?_, ?_, ?_⟩ <;> omega) hn hrd
      · go_simp
        refine hK.out _ _ (cs_alloc4 hHeld _) (fun hHeld => ?_)
        clear hK K
        try simp only [List.getElem_toArray, List.getElem_cons_succ, List.getElem_cons_zero, Act.put, List.setIfInBounds_toArray, List.set_cons_zero, List.set_cons_succ]
        refine wpAnyH_ready (rs := [4, 7]) (by kernel_rfl) (by simp) ?_
        refine AllReadyH.cons rfl (fun K hK => ?_) (AllReadyH.cons rfl (fun K hK => ?_) (AllReadyH.nil))
        · go_simp
          refine hK.out _ _ (cs_alloc4 hHeld _) (fun hHeld => ?_)
          clear hK K
          try simp only [List.getElem_toArray, List.getElem_cons_succ, List.getElem_cons_zero, Act.put, List.setIfInBounds_toArray, List.set_cons_zero, List.set_cons_succ]
          refine wpAnyH_ready (rs := [7]) (by kernel_rfl) (by simp) ?_
          refine AllReadyH.cons rfl (fun K hK => ?_) (AllReadyH.nil)
          · go_simp
            refine hK.out _ _ (cs_alloc4 hHeld _) (fun hHeld => ?_)
            clear hK K
            try simp only [List.getElem_toArray, List.getElem_cons_succ, List.getElem_cons_zero, Act.put, List.setIfInBounds_toArray, List.set_cons_zero, List.set_cons_succ]
            refine wpAnyH_ready (rs := [14]) (by kernel_rfl) (by simp) ?_
            refine AllReadyH.cons rfl (fun K hK => ?_) AllReadyH.nil
            go_simp
            refine hK.out _ _ hHeld (fun hHeld => ?_)
            clear hK K
            try simp only [List.getElem_toArray, List.getElem_cons_succ, List.getElem_cons_zero, Act.put, List.setIfInBounds_toArray, List.set_cons_zero, List.set_cons_succ]
            refine wpAnyH_ready (rs := [15]) (by kernel_rfl) (by simp) ?_
            refine AllReadyH.cons rfl (fun K hK => ?_) AllReadyH.nil
            go_simp
            refine hK.out _ _ (cs_alloc4 hHeld _) (fun hHeld => ?_)
            clear hK K
            try simp only [List.getElem_toArray, List.getElem_cons_succ, List.getElem_cons_zero, Act.put, List.setIfInBounds_toArray, List.set_cons_zero, List.set_cons_succ]
            refine wpAnyH_ready (rs := [16]) (by kernel_rfl) (by simp) ?_
            refine AllReadyH.cons rfl (fun K hK => ?_) AllReadyH.nil
            go_simp
            refine hK.out _ _ hHeld (fun hHeld => ?_)
            clear hK K
            try simp only [List.getElem_toArray, List.getElem_cons_succ, List.getElem_cons_zero, Act.put, List.setIfInBounds_toArray, List.set_cons_zero, List.set_cons_succ]
            refine wpAnyH_done (by kernel_rfl) ?_ _
            go_wp2_with fail
            go_meet
            exact mid_of HL1.out HL2.out HL3.out HL4.out rfl (by repeat' (first | with_reducible refine Row.drew ?_ | with_reducible refine Row.newE _ _ _ (by simp) | exact Row.newE _ _ _ (by simp) | with_reducible refine Row.alloc ?_ _)) (by repeat' (first | with_reducible refine Row.drew ?_ | with_reducible refine Row.newE _ _ _ (by simp) | exact Row.newE _ _ _ (by simp) | with_reducible refine Row.alloc ?_ _)) (by repeat' (first | with_reducible refine Row.drew ?_ | with_reducible refine Row.newE _ _ _ (by simp) | exact Row.newE _ _ _ (by simp) | with_reducible refine Row.alloc ?_ _)) (by repeat' (first | with_reducible refine Row.drew ?_ | with_reducible refine Row.newE _ _ _ (by simp) | exact Row.newE _ _ _ (by simp) | with_reducible refine Row.alloc ?_ _)) (by repeat' (first | with_reducible refine Row.drew ?_ | with_reducible refine Row.newE _ _ _ (by simp) | exact Row.newE _ _ _ (by simp) | with_reducible refine Row.alloc ?_ _)) (by repeat' (first | with_reducible exact HQ1.out | with_reducible refine below_dr ?_ | with_reducible refine below_al ?_ _)) (by have := LT1.out; refine ⟨?_, ?_, ?_, ?_, ?_⟩ <;> omega) (by refine ⟨?_, ?_, ?_, ?_, ?_, ?_, ?_, ?_, ?_, ?_⟩ <;> omega) hn hrd
        · go_simp
          refine hK.out _ _ (cs_alloc4 hHeld _) (fun hHeld => ?_)
          clear hK K
          try simp only [List.getElem_toArray, List.getElem_cons_succ, List.getElem_cons_zero, Act.put, List.setIfInBounds_toArray, List.set_cons_zero, List.set_cons_succ]
          refine wpAnyH_ready (rs := [4]) (by kernel_rfl) (by simp) ?_
          refine AllReadyH.cons rfl (fun K hK => ?_) (AllReadyH.nil)
          · go_simp
            refine hK.out _ _ (cs_alloc4 hHeld _) (fun hHeld => ?_)
            clear hK K
            try simp only [List.getElem_toArray, List.getElem_cons_succ, List.getElem_cons_zero, Act.put, List.setIfInBounds_toArray, List.set_cons_zero, List.set_cons_succ]
            refine wpAnyH_ready (rs := [14]) (by kernel_rfl) (by simp) ?_
            refine AllReadyH.cons rfl (fun K hK => ?_) AllReadyH.nil
            go_simp
            refine hK.out _ _ hHeld (fun hHeld => ?_)
            clear hK K
            try simp only [List.getElem_toArray, List.getElem_cons_succ, List.getElem_cons_zero, Act.put, List.setIfInBounds_toArray, List.set_cons_zero, List.set_cons_succ]
            refine wpAnyH_ready (rs := [15]) (by kernel_rfl) (by simp) ?_
            refine AllReadyH.cons rfl (fun K hK => ?_) AllReadyH.nil
            go_simp
            refine hK.out _ _ (cs_alloc4 hHeld _) (fun hHeld => ?_)
            clear hK K
            try simp only [List.getElem_toArray, List.getElem_cons_succ, List.getElem_cons_zero, Act.put, List.setIfInBounds_toArray, List.set_cons_zero, List.set_cons_succ]
            refine wpAnyH_ready (rs := [16]) (by kernel_rfl) (by simp) ?_
            refine AllReadyH.cons rfl (fun K hK => ?_) AllReadyH.nil
            go_simp
            refine hK.out _ _ hHeld (fun hHeld => ?_)
            clear hK K
            try simp only [List.getElem_toArray, List.getElem_cons_succ, List.getElem_cons_zero, Act.put, List.setIfInBounds_toArray, List.set_cons_zero, List.set_cons_succ]
            refine wpAnyH_done (by kernel_rfl) ?_ _
            go_wp2_with fail
            go_meet
            exact mid_of HL1.out HL2.out HL3.out HL4.out rfl (by repeat' (first | with_reducible refine Row.drew ?_ | with_reducible refine Row.newE _ _ _ (by simp) | exact Row.newE _ _ _ (by simp) | with_reducible refine Row.alloc ?_ _)) (by repeat' (first | with_reducible refine Row.drew ?_ | with_reducible refine Row.newE _ _ _ (by simp) | exact Row.newE _ _ _ (by simp) | with_reducible refine Row.alloc ?_ _)) (by repeat' (first | with_reducible refine Row.drew ?_ | with_reducible refine Row.newE _ _ _ (by simp) | exact Row.newE _ _ _ (by simp) | with_reducible refine Row.alloc ?_ _)) (by repeat' (first | with_reducible refine Row.drew ?_ | with_reducible refine Row.newE _ _ _ (by simp) | exact Row.newE _ _ _ (by simp) | with_reducible refine Row.alloc ?_ _)) (by repeat' (first | with_reducible refine Row.drew ?_ | with_reducible refine Row.newE _ _ _ (by simp) | exact Row.newE _ _ _ (by simp) | with_reducible refine Row.alloc ?_ _)) (by repeat' (first | with_reducible exact HQ1.out | with_reducible refine below_dr ?_ | with_reducible refine below_al ?_ _)) (by have := LT1.out; refine ⟨?_, ?_, ?_, ?_, ?_⟩ <;> omega) (by refine ⟨?_, ?_, ?_, ?_, ?_, ?_, ?_, ?_, ?_, ?_⟩ <;> omega) hn hrd
    --END
  case rest =>
    obtain ⟨gk, gr, gs, go, gd, rfl, G, hW, hbl⟩ := hcut
    have HALL := Lib.hid (all_calls G hW (hl.below hbl) hok hlen ho)
    have HBL := Lib.hid hbl
    clear hm1 hm2 hm3 hm4 HL1 HL2 HL3 HL4 HP1 HQ1 LT1 p0 p1 p2 p3 hW hbl
    go_wp2_with fail
    refine HALL.out.mono ?_
    rintro e w' ⟨hy, hno⟩
    cases hv : (vAll regs outs reads n l).2 with
    | some st =>
      obtain ⟨rfl, hb', hW'⟩ := hy st hv
      clear hno hy
      go_wp2_with fail
      go_ret2
      exact ⟨gk, gr, gs, go, gd, G, HBL.out.trans hb', fun st2 h2 => ⟨rfl, by rw [hv] at h2; injection h2 with h2; subst h2; exact hW'⟩, fun h2 => some_none hv h2⟩
    | none =>
      obtain ⟨rfl, hb', hF⟩ := hno hv
      clear hno hy
      go_wp2_with fail
      go_ret2
      exact ⟨gk, gr, gs, go, gd, G, HBL.out.trans hb', fun st2 h2 => some_none h2 hv, fun _ => ⟨rfl, hF⟩⟩
end Go.Proofs.Ythbjcafldbocpaa
namespace Go.Proofs.Ythbjcafldbocpaa
open Go.RowKit
set_option linter.unusedVariables false
set_option linter.unusedSimpArgs false

end Go.Proofs.Ythbjcafldbocpaa
namespace Go.Proofs.Ythbjcafldbocpaa
open Go.RowKit
set_option linter.unusedVariables false
set_option linter.unusedSimpArgs false
theorem byte_or (m : Nat) : ∃ y : UInt8, bits BinOp.or IntKind.u8 ((m : Int) % 256) 128 = (y.toNat : Int) := by
  refine ⟨UInt8.ofNat (m % 256 ||| 128), ?_⟩
  have h : m % 256 ||| 128 < 2 ^ 8 := Nat.or_lt_two_pow (by omega) (by decide)
  rw [show ((m : Int) % 256) = ((m % 256 : Nat) : Int) by omega, show (128 : Int) = ((128 : Nat) : Int) from rfl, u8_or_nat _ _ (by omega) (by decide), UInt8.toNat_ofNat', Nat.mod_eq_of_lt h]
theorem byte_at {m : Nat} (h : m < 256) : ∃ y : UInt8, (m : Int) = (y.toNat : Int) := by
  refine ⟨UInt8.ofNat m, ?_⟩
  rw [UInt8.toNat_ofNat']
  omega
set_option maxRecDepth 100000 in
set_option maxHeartbeats 1600000 in
theorem wnum_calls (n : Nat) (hn : n < 2097152) (w : World) :
    Calls Try.prog 74 #[.int .i64 (n : Int)] w fun e w' => ∃ v xs, e = .returned v ∧ OwnV w' w.heap.size v xs ∧ xs.length ≤ 4 ∧ Below w.heap.size w w' := by
  go_enter Try.func74, Try.ntmps74
  go_wp2_with fail
  go_loopw [0, 3] (fun v0 v3 wr => ∃ (m : Nat) (xs : List UInt8), v0 = .int .i64 (m : Int) ∧ OwnV wr w.heap.size v3 xs ∧ xs.length ≤ 3 ∧ (xs.length = 0 → m < 2097152) ∧ (xs.length = 1 → m < 16384) ∧ (xs.length = 2 → m < 128) ∧ (xs.length = 3 → m < 1) ∧ Below w.heap.size w wr) (fun v0 _ _ => (intOf v0).toNat)
  case atStart => exact ⟨n, [], rfl, OwnV.nil _ _, by simp, fun _ => hn, fun h => by simp at h, fun h => by simp at h, fun h => by simp at h, Below.refl _ _⟩
  case round =>
    obtain ⟨m, xs, rfl, ho, hl, l0, l1, l2, l3, hb⟩ := hrel
    have hl4 : xs.length = 0 ∨ xs.length = 1 ∨ xs.length = 2 ∨ xs.length = 3 := by omega
    by_cases hm : 128 ≤ m
    · have hm1 : decide ((128 : Int) ≤ (m : Int)) = true := decide_eq_true (by omega)
      obtain ⟨y, hy⟩ := byte_or m
      have HB := Lib.hid hb
      clear hb
      go_wp2_with (at_builtin; refine wpList_append_byte (.tmp 6) (.tmp 10) rfl rfl w.heap.size _ xs y rfl (show OwnV wr w.heap.size _ xs from ho) rfl (by omega) (show w.heap.size ≤ wr.heap.size from HB.out.size) ?_; intro v1 w1 ho1 hb1 hg1)
      go_roundw
      case rel =>
        refine ⟨m / 128, xs ++ [y], by first | go_num | (simp; done) | omega, ho1, by rw [List.length_append, List.length_singleton]; omega, ?_, ?_, ?_, ?_, HB.out.trans hb1⟩ <;> rw [List.length_append, List.length_singleton] <;> omega
      case measure => simp [intOf]; omega
    · have hm1 : decide ((128 : Int) ≤ (m : Int)) = false := decide_eq_false (by omega)
      obtain ⟨y, hy⟩ := byte_at (m := m) (by omega)
      have hy2 : (m : Int) % 256 = (y.toNat : Int) := by omega
      have HB := Lib.hid hb
      clear hb
      go_wp2_with (at_builtin; refine wpList_append_byte (.tmp 14) (.tmp 17) rfl rfl w.heap.size _ xs y rfl (show OwnV wr w.heap.size _ xs from ho) rfl (by omega) (show w.heap.size ≤ wr.heap.size from HB.out.size) ?_; intro v1 w1 ho1 hb1 hg1)
      go_ret
      exact ⟨_, _, rfl, ho1, by rw [List.length_append, List.length_singleton]; omega, HB.out.trans hb1⟩
theorem wNum_calls (n : Nat) (hn : n < 2097152) (w : World) :
    Calls Try.prog 61 #[.int .i64 (n : Int)] w fun e w' => ∃ v xs, e = .returned (.tuple #[v, .int .i64 0]) ∧ OwnV w' w.heap.size v xs ∧ xs.length ≤ 4 ∧ Below w.heap.size w w' := by
  have h0 : decide ((n : Int) < 0) = false := decide_eq_false (by omega)
  go_enter Try.func61, Try.ntmps61
  go_wp2_with fail
  refine (wnum_calls n hn w).mono ?_
  rintro e w' ⟨v, xs, rfl, ho, hl, hb⟩
  go_wp2_with fail
  go_ret2
  exact ⟨v, xs, rfl, ho, hl, hb⟩
theorem OwnV.set_far {w : World} {base gb : Nat} {v : Value} {xs : List UInt8} (h : OwnV w base v xs) (hg : gb < base) (u : Value) : OwnV (w.setCell ⟨gb, 0, none⟩ u) base v xs :=
  h.kept (row := some gb) (grown_setCell (p := ⟨gb, 0, none⟩) (World.grownBy.refl w (some gb)) (.inl rfl) u) (.inr (by intro e; have := (World.ownsRow.lt h gb e).1; omega))
set_option maxRecDepth 100000 in
set_option maxHeartbeats 1600000 in
theorem write1_calls (n base gb : Nat) (v : Value) (xs : List UInt8) (hn : n < 2097152) (w : World) (hr : Row w gb 35 [v]) (ho : OwnV w base v xs) (hg : gb < base) (hB : base ≤ w.heap.size) (hl : xs.length ≤ 1000000) :
    Calls Try.prog 60 #[.int .i64 (n : Int), .pointer (some ⟨gb, 0, none⟩)] w fun e w' => ∃ v' xs', e = .returned (.tuple #[]) ∧ Row w' gb 35 [v'] ∧ OwnV w' base v' xs' ∧ xs'.length ≤ xs.length + 4 ∧ Chg3 base gb gb gb w w' := by
  go_enter Try.func60, Try.ntmps60
  go_wp2_with fail
  refine (wNum_calls n hn w).mono ?_
  rintro e w1 ⟨x, ys, rfl, hx, hly, hb⟩
  have hr1 := hr.below hb hr.lt
  have c0 : w1.cell? ⟨gb, 0, none⟩ = some v := hr1.cell 0
  have f0 : w1.frozen? ⟨gb, 0, none⟩ = false := hr1.frozen 0
  have ho1 := ho.below hb
  obtain ⟨A, c, rfl, hox⟩ := hx.slice
  have HRD := Lib.hid hox.rd
  have HR := Lib.hid hr1
  have HB := Lib.hid hb
  clear hb hr1
  go_wp2_with (at_builtin; refine wpList_append_rd (.tmp 10) (.tmp 11) rfl rfl base v xs ys rfl ho1 w1.heap.size A ys.length c rfl HRD.out (by omega) (Nat.le_trans hB HB.out.size) ?_; intro v2 w2 ho2 hg2 hat2; obtain ⟨A2, cap2, rfl, hox2⟩ := ho2.slice; have hb2 := Lib.hid (grown_below (B := base) hg2 (Nat.le_trans hB HB.out.size) (fun k hk => (World.ownsRow.lt ho1 k hk).1)); have hr2 := Lib.hid (HR.out.below hb2.out hg); have c2 : w2.cell? ⟨gb, 0, none⟩ = some v := hr2.out.cell 0; have f2 : w2.frozen? ⟨gb, 0, none⟩ = false := hr2.out.frozen 0)
  go_end0
  have h3 := ho2.set_far hg (.slice A2 (xs ++ ys).length cap2)
  rw [List.length_append] at h3
  exact ⟨_, _, rfl, hr2.out.set 0 _, h3, by rw [List.length_append]; omega, (Chg3.of_below ((HB.out.mono hB).trans hb2.out)).set (g := gb) (.inl rfl) 0 _⟩
end Go.Proofs.Ythbjcafldbocpaa
namespace Go.Proofs.Ythbjcafldbocpaa
open Go.RowKit
set_option linter.unusedVariables false
set_option linter.unusedSimpArgs false
set_option maxRecDepth 100000 in
set_option maxHeartbeats 4000000 in
theorem write_no (AS : Option Addr) (nS cS : Nat) (regs outs reads : Int) (w : World)
    (hmay : ∀ w1, Below w.heap.size w w1 → Calls Try.prog 59 #[.agg #[.slice AS nS cS, .int .i64 regs, .int .i64 outs, .int .u64 reads]] w1 fun e w' => e = .returned (.bool false) ∧ Below w1.heap.size w1 w') :
    Calls Try.prog 48 #[.agg #[.slice AS nS cS, .int .i64 regs, .int .i64 outs, .int .u64 reads]] w fun e w' => e = .returned (.tuple #[.slice none 0 0, .int .i64 2]) ∧ Below w.heap.size w w' := by
  go_enter Try.func48, Try.ntmps48
  go_wp2_with fail
  have q : Below w.heap.size w (w.alloc (.cells #[.slice AS nS cS, .int .i64 regs, .int .i64 outs, .int .u64 reads] 26)) := (Below.refl _ _).alloc (Nat.le_refl _) _
  refine (hmay _ q).mono ?_
  rintro e w1 ⟨rfl, hb⟩
  go_wp2_with fail
  go_ret2
  exact ⟨rfl, q.trans (hb.mono (by simp))⟩
structure WB (W w0 : World) (gb base : Nat) (ps : List Value) (v : Value) (xs : List UInt8) : Prop where
  hb : Row W gb 35 [v]
  ho : OwnV W base v xs
  lt : gb < base
  ltp : w0.heap.size < gb
  hB : base ≤ W.heap.size
  hp : Row W w0.heap.size 26 ps
  low : Below w0.heap.size w0 W
theorem WB.step {W W' w0 : World} {gb base : Nat} {ps : List Value} {v v' : Value} {xs xs' : List UInt8} (h : WB W w0 gb base ps v xs) (c : Chg3 base gb gb gb W W') (hb : Row W' gb 35 [v']) (ho : OwnV W' base v' xs') : WB W' w0 gb base ps v' xs' := by
  have h1 := h.lt
  have h2 := h.ltp
  exact ⟨hb, ho, h.lt, h.ltp, Nat.le_trans h.hB c.size, c.row h.hp (by omega) (by omega) (by omega) (by omega), h.low.trans (c.low (B := base) (by omega) (by omega) (by omega) (by omega))⟩
theorem WB.drewN {W w0 : World} {gb base : Nat} {ps : List Value} {v : Value} {xs : List UInt8} (h : WB W w0 gb base ps v xs) (k : Nat) : WB (W.drewN k) w0 gb base ps v xs :=
  ⟨h.hb.drewN k, h.ho.drewN k, h.lt, h.ltp, h.hB, h.hp.drewN k, below_drewN h.low k⟩
theorem WB.alloc {W w0 : World} {gb base : Nat} {ps : List Value} {v : Value} {xs : List UInt8} (h : WB W w0 gb base ps v xs) (o : Obj) : WB (W.alloc o) w0 gb base ps v xs :=
  h.step (Chg3.of_below ((Below.refl base W).alloc h.hB o)) (h.hb.alloc o) (h.ho.below ((Below.refl _ W).alloc (Nat.le_refl _) o))
theorem WB.put {W W' w0 : World} {gb base : Nat} {ps : List Value} {v v' : Value} {xs xs' : List UInt8} (h : WB W w0 gb base ps v xs) (hb : Below base W W') (ho : OwnV W' base v' xs') : WB (W'.setCell ⟨gb, 0, none⟩ v') w0 gb base ps v' xs' :=
  h.step ((Chg3.of_below hb).set (g := gb) (.inl rfl) 0 v') ((h.hb.below hb h.lt).set 0 v') (ho.set_far h.lt v')
theorem byte_wrap (z : Int) : ∃ y : UInt8, IntKind.u8.wrap z = (y.toNat : Int) := by
  refine ⟨UInt8.ofNat (z % 256).toNat, ?_⟩
  rw [UInt8.toNat_ofNat', IntKind.wrap_u8]
  omega
theorem rd_one (w : World) (y : UInt8) : Rd (w.alloc (.cells #[.int .u8 (y.toNat : Int)] 5)) (w.alloc (.cells #[.int .u8 (y.toNat : Int)] 5)).heap.size (some ⟨w.heap.size, 0, none⟩) 1 (bVs [y]) := by
  have hrow := Row.new w [.int .u8 (y.toNat : Int)] 5
  refine ⟨rfl, fun _ => ⟨w.heap.size, 0, rfl, hrow.lt, fun j u hu => ?_⟩⟩
  rw [hrow.cell]
  rw [← hu, Nat.zero_add]
  rfl
def Ints3 (w w' : World) (A : Option Addr) (m : Nat) : Prop := m ≤ 3 ∧ (0 < m → ∃ g, A = some ⟨g, 0, none⟩ ∧ w.heap.size ≤ g ∧ g < w'.heap.size ∧ ∀ j, j < m → ∃ z : Int, w'.cell? ⟨g, j, none⟩ = some (.int .i64 z))
theorem write1_wb {W w0 : World} {gb base n : Nat} {ps : List Value} {v : Value} {xs : List UInt8} (h : WB W w0 gb base ps v xs) (hn : n < 2097152) (hl : xs.length ≤ 1000000) :
    Calls Try.prog 60 #[.int .i64 (n : Int), .pointer (some ⟨gb, 0, none⟩)] W fun e W' => ∃ v' xs', e = .returned (.tuple #[]) ∧ WB W' w0 gb base ps v' xs' ∧ xs'.length ≤ xs.length + 4 := by
  refine (write1_calls n base gb v xs hn W h.hb h.ho h.lt h.hB hl).mono ?_
  rintro e W' ⟨v', xs', rfl, h1, h2, h3, h4⟩
  exact ⟨v', xs', rfl, h.step h4 h1 h2, h3⟩
set_option maxRecDepth 100000 in
set_option maxHeartbeats 4000000 in
theorem write_yes (AS : Option Addr) (l : List PS) (cS regs outs reads : Nat) (w : World) (hl : StepsAt w w.heap.size AS l) (hr : regs ≤ 256) (ho : outs ≤ 64) (hlen : l.length ≤ 65536)
    (hmay : ∀ w1, Below w.heap.size w w1 → Calls Try.prog 59 #[.agg #[.slice AS l.length cS, .int .i64 (regs : Int), .int .i64 (outs : Int), .int .u64 (reads : Int)]] w1 fun e w' => e = .returned (.bool true) ∧ Below w1.heap.size w1 w')
    (hrange : ∀ s ∈ l, s.k < 256)
    (hall : ∀ s ∈ l, ∀ w1, Calls Try.prog 62 #[.agg #[.int .u8 (s.k : Int), .int .i64 (s.D : Int), .int .i64 (s.S : Int), .int .u8 (s.C.toNat : Int)]] w1 fun e w' => ∃ A m c, e = .returned (.slice A m c) ∧ Ints3 w1 w' A m ∧ Below w1.heap.size w1 w') :
    Calls Try.prog 48 #[.agg #[.slice AS l.length cS, .int .i64 (regs : Int), .int .i64 (outs : Int), .int .u64 (reads : Int)]] w fun e w' => ∃ v, e = .returned (.tuple #[v, .int .i64 0]) ∧ Below w.heap.size w w' := by
  have hmf : ∀ (fn : Fn) (first cap : Array Value) (w : World), (Instr.makeFunc fn first cap).run Try.prog w = .ok (.func fn first cap) w := fun _ _ _ _ => rfl
  go_enter Try.func48, Try.ntmps48
  go_wp2_with fail
  have q : Below w.heap.size w (w.alloc (.cells #[.slice AS l.length cS, .int .i64 (regs : Int), .int .i64 (outs : Int), .int .u64 (reads : Int)] 26)) := (Below.refl _ _).alloc (Nat.le_refl _) _
  have hp0 := Row.new w [.slice AS l.length cS, .int .i64 (regs : Int), .int .i64 (outs : Int), .int .u64 (reads : Int)] 26
  refine (hmay _ q).mono ?_
  rintro e w1 ⟨rfl, hb⟩
  have hp1 := hp0.below hb hp0.lt
  have q1 : Below w.heap.size w w1 := q.trans (hb.mono (by simp))
  have h0 : WB (w1.alloc (.cells #[.slice none 0 0] 35)) w w1.heap.size (w1.heap.size + 1) [.slice AS l.length cS, .int .i64 (regs : Int), .int .i64 (outs : Int), .int .u64 (reads : Int)] (.slice none 0 0) [] :=
    ⟨Row.new w1 _ _, OwnV.nil _ _, by omega, by have := hp1.lt; omega, by simp, hp1.alloc _, q1.alloc q1.size _⟩
  have i4 : (0 : Int) ≤ (l.length : Int) := by omega
  have p1 : (w1.alloc (.cells #[.slice none 0 0] 35)).cell? ⟨w.heap.size, 1, none⟩ = some (.int .i64 (regs : Int)) := h0.hp.cell 1
  have H0 := Lib.hid h0
  clear h0 hp1 hp0
  go_wp2_with fail
  refine (write1_wb H0.out (n := regs) (by omega) (by simp)).mono ?_
  rintro e wa ⟨va, xa, rfl, ha, la⟩
  have p2 : wa.cell? ⟨w.heap.size, 2, none⟩ = some (.int .i64 (outs : Int)) := ha.hp.cell 2
  have HA := Lib.hid ha
  clear ha p1
  go_wp2_with fail
  refine (write1_wb HA.out (n := outs) (by omega) (by simp at la; omega)).mono ?_
  rintro e wb ⟨vb, xb, rfl, hb2, lb⟩
  have HB := Lib.hid hb2
  have LB := Lib.hid (show xb.length ≤ 8 by simp at la; omega)
  clear hb2 p2 la lb HA H0
  go_wp2_with fail
  go_loopw [6] (fun v6 wr => ∃ (i : Int) (v : Value) (xs : List UInt8), -1 ≤ i ∧ i ≤ 7 ∧ v6 = .int .i64 i ∧ WB wr w w1.heap.size (w1.heap.size + 1) [.slice AS l.length cS, .int .i64 (regs : Int), .int .i64 (outs : Int), .int .u64 (reads : Int)] v xs ∧ (xs.length : Int) + i ≤ 15) (fun v6 _ => (intOf v6 + 1).toNat)
  case atStart => exact ⟨7, vb, xb, by omega, by omega, rfl, HB.out, by have := LB.out; omega⟩
  case round =>
    obtain ⟨i, v, xs, hi0, hi7, rfl, hW, hlx⟩ := hrel
    clear HB LB
    have HW := Lib.hid hW
    by_cases hi : 0 ≤ i
    · obtain ⟨j, rfl⟩ : ∃ j : Nat, i = (j : Int) := ⟨i.toNat, by omega⟩
      have hd : decide (0 ≤ (j : Int)) = true := decide_eq_true hi
      have b0 : wr.cell? ⟨w1.heap.size, 0, none⟩ = some v := hW.hb.cell 0
      have p3 : wr.cell? ⟨w.heap.size, 3, none⟩ = some (.int .u64 (reads : Int)) := hW.hp.cell 3
      have lj : j ≤ 7 := by omega
      obtain ⟨s, hs⟩ : ∃ s : Nat, s = 8 * j := ⟨_, rfl⟩
      have e8 : IntKind.i64.wrap (8 * (j : Int)) = (s : Int) := by rw [IntKind.wrap_i64]; omega
      have ls : s ≤ 56 := by omega
      obtain ⟨y, hy⟩ := byte_wrap ((reads : Int) / 2 ^ (8 * (j : Int)).toNat)
      have hxl : xs.length + j ≤ 15 := by omega
      clear hW
      go_wp2_with fail
      refine wp_region_held_drew (S := (fun x => x.cell? ⟨w.heap.size, 3, none⟩ = some (.int .u64 (reads : Int)))) (by kernel_rfl) p3 (fun hHeld => ?_)
      refine wpAnyH_take (i := 1) (v := ?_) rfl (by kernel_rfl) (by kernel_rfl) (by kernel_rfl) (fun _ _ _ h => h) (Or.inl ⟨by kernel_rfl, ?_⟩) (by assumption) ?_
      rotate_left
      · (intro w hSw; (try dsimp only at hSw); go_simp; (try with_reducible rfl))
      try simp only [List.getElem_toArray, List.getElem_cons_succ, List.getElem_cons_zero, Act.put, List.setIfInBounds_toArray, List.set_cons_zero, List.set_cons_succ]
      refine wpAnyH_take (i := 2) (v := ?_) rfl (by kernel_rfl) (by kernel_rfl) (by kernel_rfl) (fun _ _ _ h => h) (Or.inl ⟨by kernel_rfl, ?_⟩) (by assumption) ?_
      rotate_left
      · (intro w hSw; (try dsimp only at hSw); go_simp; (try with_reducible rfl))
      try simp only [List.getElem_toArray, List.getElem_cons_succ, List.getElem_cons_zero, Act.put, List.setIfInBounds_toArray, List.set_cons_zero, List.set_cons_succ]
      refine wpAnyH_take (i := 3) (v := ?_) rfl (by kernel_rfl) (by kernel_rfl) (by kernel_rfl) (fun _ _ _ h => h) (Or.inl ⟨by kernel_rfl, ?_⟩) (by assumption) ?_
      rotate_left
      · (intro w hSw; (try dsimp only at hSw); go_simp; (try with_reducible rfl))
      try simp only [List.getElem_toArray, List.getElem_cons_succ, List.getElem_cons_zero, Act.put, List.setIfInBounds_toArray, List.set_cons_zero, List.set_cons_succ]
      refine wpAnyH_take (i := 4) (v := ?_) rfl (by kernel_rfl) (by kernel_rfl) (by kernel_rfl) (fun _ _ _ h => h) (Or.inl ⟨by kernel_rfl, ?_⟩) (by assumption) ?_
      rotate_left
      · (intro w hSw; (try dsimp only at hSw); go_simp; (try with_reducible rfl))
      try simp only [List.getElem_toArray, List.getElem_cons_succ, List.getElem_cons_zero, Act.put, List.setIfInBounds_toArray, List.set_cons_zero, List.set_cons_succ]
      refine wpAnyH_take (i := 5) (v := ?_) rfl (by kernel_rfl) (by kernel_rfl) (by kernel_rfl) (fun _ _ _ h => h) (Or.inl ⟨by kernel_rfl, ?_⟩) (by assumption) ?_
      rotate_left
      · (intro w hSw; (try dsimp only at hSw); go_simp; (try with_reducible rfl))
      try simp only [List.getElem_toArray, List.getElem_cons_succ, List.getElem_cons_zero, Act.put, List.setIfInBounds_toArray, List.set_cons_zero, List.set_cons_succ]
      refine wpAnyH_take (i := 6) (v := ?_) rfl (by kernel_rfl) (by kernel_rfl) (by kernel_rfl) (fun _ _ _ h => h) (Or.inl ⟨by kernel_rfl, ?_⟩) (by assumption) ?_
      rotate_left
      · (intro w hSw; (try dsimp only at hSw); go_simp; (try with_reducible rfl))
      try simp only [List.getElem_toArray, List.getElem_cons_succ, List.getElem_cons_zero, Act.put, List.setIfInBounds_toArray, List.set_cons_zero, List.set_cons_succ]
      refine wpAnyH_ready (rs := [0, 7]) (by kernel_rfl) (by simp) ?_
      refine AllReadyH.cons rfl (fun K hK => ?_) (AllReadyH.cons rfl (fun K hK => ?_) AllReadyH.nil)
      · go_simp
        refine hK.out _ _ hHeld (fun hHeld => ?_)
        clear hK K
        try simp only [List.getElem_toArray, List.getElem_cons_succ, List.getElem_cons_zero, Act.put, List.setIfInBounds_toArray, List.set_cons_zero, List.set_cons_succ]
        refine wpAnyH_ready (rs := [7]) (by kernel_rfl) (by simp) ?_
        refine AllReadyH.cons rfl (fun K hK => ?_) AllReadyH.nil
        go_simp
        have hA := (HW.out.alloc (.cells #[.int .u8 (y.toNat : Int)] 5)).drewN 1
        have hcl : (wr.alloc (.cells #[.int .u8 (y.toNat : Int)] 5)).cell? ⟨wr.heap.size, 0, none⟩ = some (.int .u8 (y.toNat : Int)) := (Row.new wr [.int .u8 (y.toNat : Int)] 5).cell 0
        obtain ⟨W2, hW2⟩ : ∃ W2, W2 = (wr.alloc (.cells #[.int .u8 (y.toNat : Int)] 5)).drew := ⟨_, rfl⟩
        have hcl2 : W2.cell? ⟨wr.heap.size, 0, none⟩ = some (.int .u8 (y.toNat : Int)) := by rw [hW2]; exact hcl
        have hA2 : WB W2 w w1.heap.size (w1.heap.size + 1) [.slice AS l.length cS, .int .i64 (regs : Int), .int .i64 (outs : Int), .int .u64 (reads : Int)] v xs := by rw [hW2]; exact hA
        rw [← hW2]
        clear hW2 hA hcl
        refine hK.out _ _ (hA2.hp.cell 3) (fun hHeld => ?_)
        clear hK K
        try simp only [List.getElem_toArray, List.getElem_cons_succ, List.getElem_cons_zero, Act.put, List.setIfInBounds_toArray, List.set_cons_zero, List.set_cons_succ]
        refine wpAnyH_ready (rs := [8]) (by kernel_rfl) (by simp) ?_
        refine AllReadyH.cons rfl (fun K hK => ?_) AllReadyH.nil
        refine step_append_byte (.tmp 27) (.tmp 34) rfl rfl (w1.heap.size + 1) wr.heap.size v xs y rfl hA2.ho rfl hcl2 (by omega) hA2.hB ?_
        intro v2 w4 ho4 hb4 hg4
        obtain ⟨A4, cap4, rfl, hox4⟩ := ho4.slice
        generalize hm4 : (xs ++ [y]).length = m4 at *
        have HM4 := Lib.hid hm4
        clear hm4
        have c4 : w4.cell? ⟨w1.heap.size, 0, none⟩ = some v := (hA2.hb.below hb4 hA2.lt).cell 0
        have f4 : w4.frozen? ⟨w1.heap.size, 0, none⟩ = false := (hA2.hb.below hb4 hA2.lt).frozen 0
        have p4 : w4.cell? ⟨w.heap.size, 3, none⟩ = some (.int .u64 (reads : Int)) := (hA2.hp.below hb4 (by have := hA2.ltp; omega)).cell 3
        have HF := Lib.hid (hA2.put hb4 ho4)
        clear hcl2 hA2 hg4 hox4 ho4 hb4
        refine hK.out _ _ p4 (fun hHeld => ?_)
        clear hK K
        try simp only [List.getElem_toArray, List.getElem_cons_succ, List.getElem_cons_zero, Act.put, List.setIfInBounds_toArray, List.set_cons_zero, List.set_cons_succ]
        refine wpAnyH_ready (rs := [9]) (by kernel_rfl) (by simp) ?_
        refine AllReadyH.cons rfl (fun K hK => ?_) AllReadyH.nil
        go_simp
        refine hK.out _ _ (HF.out.hp.cell 3) (fun hHeld => ?_)
        clear hK K
        try simp only [List.getElem_toArray, List.getElem_cons_succ, List.getElem_cons_zero, Act.put, List.setIfInBounds_toArray, List.set_cons_zero, List.set_cons_succ]
        refine wpAnyH_done (by kernel_rfl) ?_ _
        go_wp2_with fail
        go_roundw
        case rel => exact ⟨(j : Int) - 1, _, _, by omega, by omega, by go_num, HF.out, by rw [List.length_append, List.length_singleton]; omega⟩
        case measure => simp [intOf] <;> omega
      · go_simp
        have hA := (HW.out.alloc (.cells #[.int .u8 (y.toNat : Int)] 5)).drewN 1
        have hcl : (wr.alloc (.cells #[.int .u8 (y.toNat : Int)] 5)).cell? ⟨wr.heap.size, 0, none⟩ = some (.int .u8 (y.toNat : Int)) := (Row.new wr [.int .u8 (y.toNat : Int)] 5).cell 0
        obtain ⟨W2, hW2⟩ : ∃ W2, W2 = (wr.alloc (.cells #[.int .u8 (y.toNat : Int)] 5)).drew := ⟨_, rfl⟩
        have hcl2 : W2.cell? ⟨wr.heap.size, 0, none⟩ = some (.int .u8 (y.toNat : Int)) := by rw [hW2]; exact hcl
        have hA2 : WB W2 w w1.heap.size (w1.heap.size + 1) [.slice AS l.length cS, .int .i64 (regs : Int), .int .i64 (outs : Int), .int .u64 (reads : Int)] v xs := by rw [hW2]; exact hA
        rw [← hW2]
        clear hW2 hA hcl
        have b2 : W2.cell? ⟨w1.heap.size, 0, none⟩ = some v := hA2.hb.cell 0
        refine hK.out _ _ (hA2.hp.cell 3) (fun hHeld => ?_)
        clear hK K
        try simp only [List.getElem_toArray, List.getElem_cons_succ, List.getElem_cons_zero, Act.put, List.setIfInBounds_toArray, List.set_cons_zero, List.set_cons_succ]
        refine wpAnyH_ready (rs := [0]) (by kernel_rfl) (by simp) ?_
        refine AllReadyH.cons rfl (fun K hK => ?_) AllReadyH.nil
        go_simp
        refine hK.out _ _ hHeld (fun hHeld => ?_)
        clear hK K
        try simp only [List.getElem_toArray, List.getElem_cons_succ, List.getElem_cons_zero, Act.put, List.setIfInBounds_toArray, List.set_cons_zero, List.set_cons_succ]
        refine wpAnyH_ready (rs := [8]) (by kernel_rfl) (by simp) ?_
        refine AllReadyH.cons rfl (fun K hK => ?_) AllReadyH.nil
        refine step_append_byte (.tmp 27) (.tmp 34) rfl rfl (w1.heap.size + 1) wr.heap.size v xs y rfl hA2.ho rfl hcl2 (by omega) hA2.hB ?_
        intro v2 w4 ho4 hb4 hg4
        obtain ⟨A4, cap4, rfl, hox4⟩ := ho4.slice
        generalize hm4 : (xs ++ [y]).length = m4 at *
        have HM4 := Lib.hid hm4
        clear hm4
        have c4 : w4.cell? ⟨w1.heap.size, 0, none⟩ = some v := (hA2.hb.below hb4 hA2.lt).cell 0
        have f4 : w4.frozen? ⟨w1.heap.size, 0, none⟩ = false := (hA2.hb.below hb4 hA2.lt).frozen 0
        have p4 : w4.cell? ⟨w.heap.size, 3, none⟩ = some (.int .u64 (reads : Int)) := (hA2.hp.below hb4 (by have := hA2.ltp; omega)).cell 3
        have HF := Lib.hid (hA2.put hb4 ho4)
        clear hcl2 hA2 hg4 hox4 ho4 hb4
        refine hK.out _ _ p4 (fun hHeld => ?_)
        clear hK K
        try simp only [List.getElem_toArray, List.getElem_cons_succ, List.getElem_cons_zero, Act.put, List.setIfInBounds_toArray, List.set_cons_zero, List.set_cons_succ]
        refine wpAnyH_ready (rs := [9]) (by kernel_rfl) (by simp) ?_
        refine AllReadyH.cons rfl (fun K hK => ?_) AllReadyH.nil
        go_simp
        refine hK.out _ _ (HF.out.hp.cell 3) (fun hHeld => ?_)
        clear hK K
        try simp only [List.getElem_toArray, List.getElem_cons_succ, List.getElem_cons_zero, Act.put, List.setIfInBounds_toArray, List.set_cons_zero, List.set_cons_succ]
        refine wpAnyH_done (by kernel_rfl) ?_ _
        go_wp2_with fail
        go_roundw
        case rel => exact ⟨(j : Int) - 1, _, _, by omega, by omega, by go_num, HF.out, by rw [List.length_append, List.length_singleton]; omega⟩
        case measure => simp [intOf] <;> omega
    · obtain rfl : i = -1 := by omega
      have p0 : wr.cell? ⟨w.heap.size, 0, none⟩ = some (.slice AS l.length cS) := hW.hp.cell 0
      clear hW
      go_wp2_with fail
      refine (write1_wb HW.out (n := l.length) (by omega) (by omega)).mono ?_
      rintro e wc ⟨vc, xc, rfl, hc, lc⟩
      have p0 : wc.cell? ⟨w.heap.size, 0, none⟩ = some (.slice AS l.length cS) := hc.hp.cell 0
      have HC := Lib.hid hc
      have LC := Lib.hid (show xc.length ≤ 20 by omega)
      clear hc lc HW
      go_wp2_with fail
      go_loopw [44] (fun v44 wr => ∃ (i : Nat) (v : Value) (xs : List UInt8), i ≤ l.length ∧ v44 = .int .i64 (i : Int) ∧ WB wr w w1.heap.size (w1.heap.size + 1) [.slice AS l.length cS, .int .i64 (regs : Int), .int .i64 (outs : Int), .int .u64 (reads : Int)] v xs ∧ xs.length ≤ 20 + 4 * i) (fun v44 _ => l.length - (intOf v44).toNat)
      case atStart => exact ⟨0, vc, xc, by omega, rfl, HC.out, LC.out⟩
      case round =>
        obtain ⟨i, v, xs, hi, rfl, hW, hlx⟩ := hrel
        clear HC LC
        have HW := Lib.hid hW
        by_cases hlt : i < l.length
        · obtain ⟨g, o, rfl, hg, hcs⟩ := (hl.below hW.low) (by omega)
          obtain ⟨s, hs⟩ : ∃ s, l[i]? = some s := ⟨l[i], List.getElem?_eq_getElem hlt⟩
          obtain ⟨s0, s1, s2, s3⟩ := hcs i s hs
          have hsl : s ∈ l := List.mem_of_getElem? hs
          obtain ⟨y, hy⟩ := byte_at (m := s.k) (hrange s hsl)
          have hal := hall s hsl
          rw [hy] at s0 hal
          have HALL := Lib.hid hal
          have i0 : (0 : Int) ≤ (i : Int) := by omega
          have i1 : (i : Int) < (l.length : Int) := by omega
          have hST := Row.new wr [.int .u8 (y.toNat : Int), .int .i64 (s.D : Int), .int .i64 (s.S : Int), .int .u8 (s.C.toNat : Int)] 59
          have hA := hW.alloc (.cells #[.int .u8 (y.toNat : Int), .int .i64 (s.D : Int), .int .i64 (s.S : Int), .int .u8 (s.C.toNat : Int)] 59)
          have b0 : (wr.alloc (.cells #[.int .u8 (y.toNat : Int), .int .i64 (s.D : Int), .int .i64 (s.S : Int), .int .u8 (s.C.toNat : Int)] 59)).cell? ⟨w1.heap.size, 0, none⟩ = some v := hA.hb.cell 0
          have t0 : (wr.alloc (.cells #[.int .u8 (y.toNat : Int), .int .i64 (s.D : Int), .int .i64 (s.S : Int), .int .u8 (s.C.toNat : Int)] 59)).cell? ⟨wr.heap.size, 0, none⟩ = some (.int .u8 (y.toNat : Int)) := hST.cell 0
          have HA := Lib.hid hA
          have HST := Lib.hid hST
          have hvo : v.ownBlock ≠ some wr.heap.size := fun e => by have := (World.ownsRow.lt hW.ho wr.heap.size e).2; omega
          clear hcs hs hW hy hal hall hA hST
          have HAB := Lib.hid (HA.out.alloc (.cells #[.int .u8 (y.toNat : Int)] 5))
          have HRD := Lib.hid (show Rd ((wr.alloc (.cells #[.int .u8 (y.toNat : Int), .int .i64 (s.D : Int), .int .i64 (s.S : Int), .int .u8 (s.C.toNat : Int)] 59)).alloc (.cells #[.int .u8 (y.toNat : Int)] 5)) _ (some ⟨wr.heap.size + 1, 0, none⟩) 1 (bVs [y]) from by have h := rd_one (wr.alloc (.cells #[.int .u8 (y.toNat : Int), .int .i64 (s.D : Int), .int .i64 (s.S : Int), .int .u8 (s.C.toNat : Int)] 59)) y; simpa using h)
          have HSTB := Lib.hid (HST.out.alloc (.cells #[.int .u8 (y.toNat : Int)] 5))
          go_wp2_with (at_builtin; go_loud (refine wpList_append_rd (.tmp 48) (.tmp 51) rfl rfl (w1.heap.size + 1) v xs [y] rfl HAB.out.ho _ (some ⟨wr.heap.size + 1, 0, none⟩) 1 1 rfl HRD.out (by omega) HAB.out.hB ?_); intro v2 w2 ho2 hg2 hat2; obtain ⟨A2, cap2, rfl, hox2⟩ := ho2.slice; generalize hm2 : (xs ++ [y]).length = m2 at *; have HM2 := Lib.hid hm2; clear hm2; have hb2 := Lib.hid (grown_below (B := w1.heap.size + 1) hg2 HAB.out.hB (fun k hk => (World.ownsRow.lt HAB.out.ho k hk).1)); have b2 : w2.cell? ⟨w1.heap.size, 0, none⟩ = some v := (HAB.out.hb.below hb2.out HAB.out.lt).cell 0; have f2 : w2.frozen? ⟨w1.heap.size, 0, none⟩ = false := (HAB.out.hb.below hb2.out HAB.out.lt).frozen 0; have HW2 := Lib.hid (HAB.out.put hb2.out ho2); have HST2 := Lib.hid (show Row w2 wr.heap.size 59 _ from (hg2.block wr.heap.size HSTB.out.lt (Ne.symm hvo)).trans HSTB.out); have hne3 : wr.heap.size ≠ w1.heap.size := (by have := HAB.out.lt; have := HW.out.hB; omega); have HS3 := Lib.hid (HST2.out.far (p := ⟨w1.heap.size, 0, none⟩) hne3 (.slice A2 m2 cap2)); have q0 : (w2.setCell ⟨w1.heap.size, 0, none⟩ (.slice A2 m2 cap2)).cell? ⟨wr.heap.size, 0, none⟩ = some (.int .u8 (y.toNat : Int)) := HS3.out.cell 0; have q1 : (w2.setCell ⟨w1.heap.size, 0, none⟩ (.slice A2 m2 cap2)).cell? ⟨wr.heap.size, 1, none⟩ = some (.int .i64 (s.D : Int)) := HS3.out.cell 1; have q2 : (w2.setCell ⟨w1.heap.size, 0, none⟩ (.slice A2 m2 cap2)).cell? ⟨wr.heap.size, 2, none⟩ = some (.int .i64 (s.S : Int)) := HS3.out.cell 2; have q3 : (w2.setCell ⟨w1.heap.size, 0, none⟩ (.slice A2 m2 cap2)).cell? ⟨wr.heap.size, 3, none⟩ = some (.int .u8 (s.C.toNat : Int)) := HS3.out.cell 3)
          refine (HALL.out _).mono ?_
          rintro e w4 ⟨A4, m4, c4, rfl, hI, hb4⟩
          have HW4 := Lib.hid (HW2.out.step (Chg3.of_below (hb4.mono HW2.out.hB)) (HW2.out.hb.below hb4 HW2.out.hb.lt) (HW2.out.ho.below hb4))
          have HI := Lib.hid hI
          have lm4 : m4 ≤ 3 := hI.1
          have hv4 : ∀ g, A4 = some ⟨g, 0, none⟩ → 0 < m4 → (Value.slice A2 m2 cap2).ownBlock ≠ some g := by
            intro g4 hg4 hm e4
            obtain ⟨g5, e5, h5, _⟩ := hI.2 hm
            rw [hg4] at e5
            simp only [Option.some.injEq, Addr.mk.injEq, and_true] at e5
            subst e5
            have := (World.ownsRow.lt HW2.out.ho g4 e4).2
            omega
          clear q0 q1 q2 q3 b2 f2 hI hb4
          go_wp2_with fail
          have hI2 : ∀ g4, A4 = some ⟨g4, 0, none⟩ → 0 < m4 → g4 < w4.heap.size ∧ ∀ q, q < m4 → ∃ z : Int, w4.cell? ⟨g4, q, none⟩ = some (.int .i64 z) := by
            intro g4 hg4 hm
            obtain ⟨g5, e5, _, h5, h6⟩ := HI.out.2 hm
            rw [hg4] at e5
            simp only [Option.some.injEq, Addr.mk.injEq, and_true] at e5
            subst e5
            exact ⟨h5, h6⟩
          have HI2 := Lib.hid hI2
          have HV4 := Lib.hid hv4
          clear hI2 hv4
          go_loopw [56] (fun v56 wr => ∃ (j : Nat) (v : Value) (ys : List UInt8), j ≤ m4 ∧ v56 = .int .i64 (j : Int) ∧ WB wr w w1.heap.size (w1.heap.size + 1) [.slice (some ⟨g, o, none⟩) l.length cS, .int .i64 (regs : Int), .int .i64 (outs : Int), .int .u64 (reads : Int)] v ys ∧ ys.length ≤ xs.length + 1 + j ∧ (∀ g4, A4 = some ⟨g4, 0, none⟩ → 0 < m4 → v.ownBlock ≠ some g4 ∧ g4 < wr.heap.size ∧ ∀ q, q < m4 → ∃ z : Int, wr.cell? ⟨g4, q, none⟩ = some (.int .i64 z))) (fun v56 _ => m4 - (intOf v56).toNat)
          case atStart => exact ⟨0, _, _, by omega, rfl, HW4.out, by rw [List.length_append, List.length_singleton]; omega, fun g4 h1 h2 => ⟨HV4.out g4 h1 h2, HI2.out g4 h1 h2⟩⟩
          case round =>
            obtain ⟨j, v3, ys, hj, rfl, hW, hly, hin⟩ := hrel
            clear HW4 HI2 HV4
            by_cases hjm : j < m4
            · obtain ⟨g4, rfl, hge, _⟩ := HI.out.2 (by omega)
              have HGE := Lib.hid (show w1.heap.size + 1 ≤ g4 from Nat.le_trans HW2.out.hB hge)
              clear hge
              obtain ⟨n1, n2, n3⟩ := hin g4 rfl (by omega)
              obtain ⟨z, hz⟩ := n3 j hjm
              obtain ⟨y2, hy2⟩ := byte_wrap z
              have j0 : (0 : Int) ≤ (j : Int) := by omega
              have j1 : (j : Int) < (m4 : Int) := by omega
              have b0 : wr.cell? ⟨w1.heap.size, 0, none⟩ = some v3 := hW.hb.cell 0
              have HAB := Lib.hid (hW.alloc (.cells #[.int .u8 (y2.toNat : Int)] 5))
              have HRD := Lib.hid (rd_one wr y2)
              have HIN := Lib.hid n3
              have HWR := Lib.hid hW
              have hsz : (wr.alloc (.cells #[.int .u8 (y2.toNat : Int)] 5)).heap.size = wr.heap.size + 1 := by simp
              have HSZ := Lib.hid hsz
              clear hin hW n3 hsz
              go_wp2_with (at_builtin; go_loud (refine wpList_append_rd (.tmp 60) (.tmp 63) rfl rfl (w1.heap.size + 1) v3 ys [y2] rfl HAB.out.ho _ (some ⟨wr.heap.size, 0, none⟩) 1 1 rfl HRD.out (by omega) HAB.out.hB ?_); intro v5 w5 ho5 hg5 hat5; obtain ⟨A5, cap5, rfl, hox5⟩ := ho5.slice; generalize hm5 : (ys ++ [y2]).length = m5 at *; have HM5 := Lib.hid hm5; clear hm5; have hb5 := Lib.hid (grown_below (B := w1.heap.size + 1) hg5 HAB.out.hB (fun k hk => (World.ownsRow.lt HAB.out.ho k hk).1)); have b5 : w5.cell? ⟨w1.heap.size, 0, none⟩ = some v3 := (HAB.out.hb.below hb5.out HAB.out.lt).cell 0; have f5 : w5.frozen? ⟨w1.heap.size, 0, none⟩ = false := (HAB.out.hb.below hb5.out HAB.out.lt).frozen 0; have HW5 := Lib.hid (HAB.out.put hb5.out ho5); have HG5 := Lib.hid hg5; have HAT5 := Lib.hid hat5; clear hg5 hat5)
              go_roundw
              case rel =>
                refine ⟨j + 1, _, _, by omega, by go_num, HW5.out, by have := HM5.out; rw [List.length_append, List.length_singleton] at this ⊢; omega, fun g6 h1 _ => ?_⟩
                simp only [Option.some.injEq, Addr.mk.injEq, and_true] at h1
                subst h1
                have hs1 := HSZ.out
                refine ⟨?_, ?_, fun q hq => ?_⟩
                · rcases HAT5.out with h | h
                  · rw [h]; exact n1
                  · rw [h, hs1]; intro e; injection e with e; omega
                · have := HG5.out.size; simp; omega
                · obtain ⟨zq, hzq⟩ := HIN.out q hq
                  refine ⟨zq, ?_⟩
                  have hge := HGE.out
                  have e1 : w5.heap[g4]? = wr.heap[g4]? := (HG5.out.block g4 (by rw [hs1]; omega) (Ne.symm n1)).trans (Below.heap_alloc wr _ g4 n2)
                  exact (World.cell?_setCell_other w5 ⟨w1.heap.size, 0, none⟩ ⟨g4, q, none⟩ _ (by intro e; injection e with e; omega)).trans ((World.cell?_of_block (a := ⟨g4, q, none⟩) e1).trans hzq)
              case measure => simp [intOf] <;> omega
            · have HIN := Lib.hid hin
              have HWR := Lib.hid hW
              clear hin hW
              go_wp2_with fail
              go_roundw
              case rel => exact ⟨i + 1, v3, ys, by omega, by go_num, HWR.out, by omega⟩
              case measure => simp [intOf] <;> omega
        · have b0 : wr.cell? ⟨w1.heap.size, 0, none⟩ = some v := hW.hb.cell 0
          have hlow := hW.low
          obtain ⟨A2, cap2, rfl, hox2⟩ := hW.ho.slice
          clear hW
          go_wp2_with fail
          go_ret2
          exact ⟨_, rfl, hlow⟩
end Go.Proofs.Ythbjcafldbocpaa
namespace Go.Proofs.Ythbjcafldbocpaa
open Go.RowKit
set_option linter.unusedVariables false
set_option linter.unusedSimpArgs false

def RdT (w : World) (A : Option Addr) (xs : List UInt8) : Prop :=
  0 < xs.length → ∃ g o cells, A = some ⟨g, o, none⟩ ∧ w.heap[g]? = some (Obj.cells cells 5 (0, 0)) ∧ ∀ j, j < xs.length → cells[o + j]? = some (.int .u8 ((xs.getD j 0).toNat : Int))
section
variable {w w' : World} {A : Option Addr} {xs : List UInt8}
theorem heap_lt {w : World} {g : Nat} {o : Obj} (h : w.heap[g]? = some o) : g < w.heap.size := by
  rcases Nat.lt_or_ge g w.heap.size with hlt | hge
  · exact hlt
  · rw [Array.getElem?_eq_none hge] at h; cases h
theorem RdT.nil (w : World) (A : Option Addr) : RdT w A [] := fun h => absurd h (by simp)
theorem RdT.rd (h : RdT w A xs) : Rd w w.heap.size A xs.length (bVs xs) := by
  refine ⟨bVs_length xs, fun hn => ?_⟩
  obtain ⟨g, o, cells, rfl, hb, hc⟩ := h hn
  refine ⟨g, o, rfl, heap_lt hb, fun j u hu => ?_⟩
  have hj : j < xs.length := by
    rcases Nat.lt_or_ge j xs.length with hlt | hge
    · exact hlt
    · rw [List.getElem?_eq_none (by rw [bVs_length]; exact hge)] at hu; cases hu
  rw [cell_of_row w g (o + j) cells 5 (0, 0) hb, hc j hj, ← hu, bVs_get xs j hj]
  simp [List.getD, hj]
theorem RdT.keep (h : RdT w A xs) (hk : ∀ (g : Nat) (cells : Array Value), w.heap[g]? = some (Obj.cells cells 5 (0, 0)) → w'.heap[g]? = w.heap[g]?) : RdT w' A xs := by
  intro hn
  obtain ⟨g, o, cells, e, hb, hc⟩ := h hn
  exact ⟨g, o, cells, e, (hk g cells hb).trans hb, hc⟩
theorem RdT.below (h : RdT w A xs) (hb : Below w.heap.size w w') : RdT w' A xs := h.keep fun g cells hg => hb.block g (heap_lt hg)
theorem RdT.grown (h : RdT w A xs) {g' : Nat} (hg : w.grownBy w' (some g')) {t : TypeId} {ys : List Value} (hr : Row w g' t ys) (ht : t ≠ 5) : RdT w' A xs :=
  h.keep fun g cells hb => hg.block g (heap_lt hb) (by
    intro e
    injection e with e
    subst e
    unfold Row at hr
    rw [hb] at hr
    injection hr with hr
    injection hr with _ e2
    exact ht e2.symm)
theorem RdT.set (h : RdT w A xs) {p : Addr} {t : TypeId} {ys : List Value} (hr : Row w p.block t ys) (ht : t ≠ 5) (u : Value) : RdT (w.setCell p u) A xs :=
  h.keep fun g cells hb => Below.heap_setCell w p u g (by
    rintro rfl
    unfold Row at hr
    rw [hb] at hr
    injection hr with hr
    injection hr with _ e2
    exact ht e2.symm)
end
def Lst (w : World) (A : Option Addr) (n c : Nat) (L : List (List UInt8)) : Prop :=
  L.length = n ∧ (∀ i, i < n → (L.getD i []).length = c) ∧ (0 < n → ∃ g lv, A = some ⟨g, 0, none⟩ ∧ Row w g 35 lv ∧ n ≤ lv.length ∧ ∀ i, i < n → ∃ Ai ci, lv[i]? = some (.slice Ai c ci) ∧ c ≤ ci ∧ RdT w Ai (L.getD i []))
section
variable {w w' : World} {A : Option Addr} {n c : Nat} {L : List (List UInt8)}
theorem Lst.at_ (h : Lst w A n c L) {i : Nat} (hi : i < n) : ∃ g Ai ci, A = some ⟨g, 0, none⟩ ∧ g < w.heap.size ∧ w.cell? ⟨g, i, none⟩ = some (.slice Ai c ci) ∧ w.frozen? ⟨g, i, none⟩ = false ∧ c ≤ ci ∧ RdT w Ai (L.getD i []) := by
  obtain ⟨g, lv, e, hr, hl, hc⟩ := h.2.2 (by omega)
  obtain ⟨Ai, ci, h1, h2, h3⟩ := hc i hi
  exact ⟨g, Ai, ci, e, hr.lt, by rw [hr.cell, h1], hr.frozen i, h2, h3⟩
theorem Lst.row (h : Lst w A n c L) (hn : 0 < n) : ∃ g lv, A = some ⟨g, 0, none⟩ ∧ Row w g 35 lv := by
  obtain ⟨g, lv, e, hr, _⟩ := h.2.2 hn
  exact ⟨g, lv, e, hr⟩
theorem Lst.keep (h : Lst w A n c L) (h1 : ∀ (g : Nat) (cells : Array Value), w.heap[g]? = some (Obj.cells cells 5 (0, 0)) → w'.heap[g]? = w.heap[g]?) (h2 : ∀ g : Nat, A = some ⟨g, 0, none⟩ → w'.heap[g]? = w.heap[g]?) : Lst w' A n c L := by
  refine ⟨h.1, h.2.1, fun hn => ?_⟩
  obtain ⟨g, lv, e, hr, hl, hc⟩ := h.2.2 hn
  refine ⟨g, lv, e, hr.of_block (h2 g e), hl, fun i hi => ?_⟩
  obtain ⟨Ai, ci, q1, q2, q3⟩ := hc i hi
  exact ⟨Ai, ci, q1, q2, q3.keep h1⟩
theorem Lst.below (h : Lst w A n c L) (hb : Below w.heap.size w w') : Lst w' A n c L := by
  refine ⟨h.1, h.2.1, fun hn => ?_⟩
  obtain ⟨g, lv, e, hr, hl, hc⟩ := h.2.2 hn
  refine ⟨g, lv, e, hr.below hb hr.lt, hl, fun i hi => ?_⟩
  obtain ⟨Ai, ci, q1, q2, q3⟩ := hc i hi
  exact ⟨Ai, ci, q1, q2, q3.below hb⟩
theorem Lst.drewN (h : Lst w A n c L) (k : Nat) : Lst (w.drewN k) A n c L := h
theorem Lst.drew (h : Lst w A n c L) : Lst w.drew A n c L := h
theorem Lst.far (h : Lst w A n c L) {p : Addr} {t : TypeId} {ys : List Value} (hr : Row w p.block t ys) (ht : t ≠ 5) (hA : A ≠ some ⟨p.block, 0, none⟩) (u : Value) : Lst (w.setCell p u) A n c L := by
  refine h.keep (fun g cells hb => Below.heap_setCell w p u g ?_) (fun g e => Below.heap_setCell w p u g ?_)
  · rintro rfl
    unfold Row at hr
    rw [hb] at hr
    injection hr with hr
    injection hr with _ e2
    exact ht e2.symm
  · rintro rfl
    exact hA e
theorem Lst.grown (h : Lst w A n c L) {g' : Nat} (hg : w.grownBy w' (some g')) {t : TypeId} {ys : List Value} (hr : Row w g' t ys) (ht : t ≠ 5) (hA : A ≠ some ⟨g', 0, none⟩) : Lst w' A n c L := by
  refine ⟨h.1, h.2.1, fun hn => ?_⟩
  obtain ⟨g, lv, e, hr2, hl, hc⟩ := h.2.2 hn
  refine ⟨g, lv, e, hr2.of_block (hg.block g hr2.lt (fun e2 => by injection e2 with e2; subst e2; exact hA e)), hl, fun i hi => ?_⟩
  obtain ⟨Ai, ci, q1, q2, q3⟩ := hc i hi
  exact ⟨Ai, ci, q1, q2, q3.grown hg hr ht⟩
theorem set_getD {L : List (List UInt8)} {i j : Nat} {x : List UInt8} (h : i < L.length) : (L.set i x).getD j [] = if j = i then x else L.getD j [] := by
  rw [List.getD_eq_getElem?_getD, List.getD_eq_getElem?_getD, List.getElem?_set]
  by_cases e : i = j
  · rw [if_pos e, if_pos h, if_pos e.symm]; rfl
  · rw [if_neg e, if_neg (fun h2 => e h2.symm)]
theorem Lst.store (h : Lst w A n c L) {i : Nat} (hi : i < n) {g : Nat} (hA : A = some ⟨g, 0, none⟩) {A' : Option Addr} {c' : Nat} {x : List UInt8} (hx : x.length = c) (hc' : c ≤ c') (hr : RdT w A' x) : Lst (w.setCell ⟨g, i, none⟩ (.slice A' c c')) A n c (L.set i x) := by
  obtain ⟨g2, lv, e, hrow, hl, hc⟩ := h.2.2 (by omega)
  rw [hA] at e
  simp only [Option.some.injEq, Addr.mk.injEq, and_true] at e
  subst e
  have hne : (35 : TypeId) ≠ 5 := by decide
  refine ⟨by rw [List.length_set]; exact h.1, fun j hj => ?_, fun _ => ⟨g, lv.set i (.slice A' c c'), hA, hrow.set i _, by rw [List.length_set]; exact hl, fun j hj => ?_⟩⟩
  · rw [set_getD (by rw [h.1]; exact hi)]
    split
    · exact hx
    · exact h.2.1 j hj
  · rw [set_getD (by rw [h.1]; exact hi), List.getElem?_set]
    by_cases e : i = j
    · rw [if_pos e, if_pos (by omega), if_pos e.symm]
      exact ⟨A', c', rfl, hc', hr.set hrow hne _⟩
    · obtain ⟨Ai, ci, q1, q2, q3⟩ := hc j hj
      rw [if_neg e, if_neg (fun h2 => e h2.symm)]
      exact ⟨Ai, ci, q1, q2, q3.set hrow hne _⟩
end
end Go.Proofs.Ythbjcafldbocpaa
namespace Go.Proofs.Ythbjcafldbocpaa
open Go.RowKit
set_option linter.unusedVariables false
set_option linter.unusedSimpArgs false
def ValO (W : World) (v : Value) : Option (List UInt8) → Prop
  | none => v = .slice none 0 0
  | some l => ∃ g c, v = .slice (some ⟨g, 0, none⟩) l.length c ∧ l.length ≤ c ∧ RdT W (some ⟨g, 0, none⟩) l
theorem ValO.keep {W W' : World} {v : Value} {o : Option (List UInt8)} (h : ValO W v o) (hk : ∀ (g : Nat) (cells : Array Value), W.heap[g]? = some (Obj.cells cells 5 (0, 0)) → W'.heap[g]? = W.heap[g]?) : ValO W' v o := by
  cases o with
  | none => exact h
  | some l => obtain ⟨g, c, e, hc, hr⟩ := h; exact ⟨g, c, e, hc, hr.keep hk⟩
def Vals (W : World) (lv : List Value) (rs : List (Option (List UInt8))) : Prop := lv.length = rs.length ∧ ∀ i, i < rs.length → ValO W (lv.getD i undef) (rs.getD i none)
theorem Vals.keep {W W' : World} {lv : List Value} {rs : List (Option (List UInt8))} (h : Vals W lv rs) (hk : ∀ (g : Nat) (cells : Array Value), W.heap[g]? = some (Obj.cells cells 5 (0, 0)) → W'.heap[g]? = W.heap[g]?) : Vals W' lv rs :=
  ⟨h.1, fun i hi => (h.2 i hi).keep hk⟩
theorem Vals.set {W : World} {lv : List Value} {rs : List (Option (List UInt8))} (h : Vals W lv rs) (D : Nat) {v : Value} {l : List UInt8} (hv : ValO W v (some l)) : Vals W (lv.set D v) (rs.set D (some l)) := by
  refine ⟨by simp [h.1], fun i hi => ?_⟩
  rw [List.length_set] at hi
  rw [set_getD', set_getD', h.1]
  by_cases hc : D = i ∧ D < rs.length
  · rw [if_pos hc, if_pos hc]; exact hv
  · rw [if_neg hc, if_neg hc]; exact h.2 i hi
theorem Vals.cell {W : World} {ga : Nat} {lv : List Value} {rs : List (Option (List UInt8))} (h : Vals W lv rs) (hr : Row W ga 35 lv) {i : Nat} (hi : i < rs.length) : ∃ v, W.cell? ⟨ga, i, none⟩ = some v ∧ ValO W v (rs.getD i none) := by
  have hl : i < lv.length := by rw [h.1]; exact hi
  refine ⟨lv[i], by rw [hr.cell, List.getElem?_eq_getElem hl], ?_⟩
  have := h.2 i hi
  rwa [List.getD_eq_getElem?_getD, List.getElem?_eq_getElem hl] at this
structure DW (W : World) (gt ga gz nr no n : Nat) (st : VS) : Prop where
  ht : Row W gt 113 [.slice (some ⟨ga, 0, none⟩) nr nr, .slice (some ⟨gz, 0, none⟩) no no, .int .u64 (st.loads : Int)]
  la : ∃ lv, Row W ga 35 lv ∧ Vals W lv st.regs
  lz : ∃ lv, Row W gz 35 lv ∧ Vals W lv st.outs
  ok : st.Ok nr no n
  hl : st.loads < 2 ^ 64
  ne : ga ≠ gt ∧ gz ≠ gt ∧ gz ≠ ga
theorem row_type {W : World} {g : Nat} {t t' : TypeId} {ys : List Value} {cells : Array Value} (h : Row W g t ys) (hc : W.heap[g]? = some (Obj.cells cells t' (0, 0))) : t = t' := by
  unfold Row at h
  rw [hc] at h
  injection h with h
  injection h with _ e
  exact e.symm
theorem DW.bytes {W W' : World} {gt ga gz nr no n : Nat} {st : VS} (h : DW W gt ga gz nr no n st) (hc : Chg3 W.heap.size gt ga gz W W') : ∀ (g : Nat) (cells : Array Value), W.heap[g]? = some (Obj.cells cells 5 (0, 0)) → W'.heap[g]? = W.heap[g]? := by
  intro g cells hg
  obtain ⟨lv, hr, _⟩ := h.la
  obtain ⟨lz, hz, _⟩ := h.lz
  refine hc.block g (heap_lt hg) ?_ ?_ ?_
  · rintro rfl; exact absurd (row_type h.ht hg) (by decide)
  · rintro rfl; exact absurd (row_type hr hg) (by decide)
  · rintro rfl; exact absurd (row_type hz hg) (by decide)
theorem DW.below {W W' : World} {gt ga gz nr no n : Nat} {st : VS} (h : DW W gt ga gz nr no n st) (hb : Below W.heap.size W W') : DW W' gt ga gz nr no n st := by
  have hk : ∀ (g : Nat) (cells : Array Value), W.heap[g]? = some (Obj.cells cells 5 (0, 0)) → W'.heap[g]? = W.heap[g]? := fun g cells hg => hb.block g (heap_lt hg)
  obtain ⟨lv, hr, hv⟩ := h.la
  obtain ⟨lz, hz, hw⟩ := h.lz
  exact ⟨h.ht.below hb h.ht.lt, ⟨lv, hr.below hb hr.lt, hv.keep hk⟩, ⟨lz, hz.below hb hz.lt, hw.keep hk⟩, h.ok, h.hl, h.ne⟩
theorem RdT.of_row {W : World} {g : Nat} {l : List UInt8} (h : Row W g 5 (bVs l)) : RdT W (some ⟨g, 0, none⟩) l := by
  intro hn
  refine ⟨g, 0, _, rfl, h, fun j hj => ?_⟩
  rw [Nat.zero_add, List.getElem?_toArray, bVs_get l j hj]
  simp [List.getD, hj]
theorem DW.drewN {W : World} {gt ga gz nr no n : Nat} {st : VS} (h : DW W gt ga gz nr no n st) (k : Nat) : DW (W.drewN k) gt ga gz nr no n st := ⟨h.ht, h.la, h.lz, h.ok, h.hl, h.ne⟩
theorem setCell_bytes {W : World} {g i : Nat} {t : TypeId} {ys : List Value} (hr : Row W g t ys) (ht : t ≠ 5) (v : Value) : ∀ (k : Nat) (cells : Array Value), W.heap[k]? = some (Obj.cells cells 5 (0, 0)) → (W.setCell ⟨g, i, none⟩ v).heap[k]? = W.heap[k]? :=
  fun k cells hk => Below.heap_setCell W ⟨g, i, none⟩ v k (by rintro rfl; exact ht (row_type hr hk))
theorem DW.put {W W' : World} {gt ga gz nr no n : Nat} {st : VS} (h : DW W gt ga gz nr no n st) (hb : Below W.heap.size W W') (D : Nat) {l : List UInt8} (hl : l.length = n) {v : Value} (hv : ValO W' v (some l)) :
    DW (W'.setCell ⟨ga, D, none⟩ v) gt ga gz nr no n { st with regs := st.regs.set D (some l) } ∧ Chg3 W.heap.size gt ga gz W (W'.setCell ⟨ga, D, none⟩ v) := by
  obtain ⟨h1, ⟨lv, hr, hv2⟩, ⟨lz, hz, hw⟩, h4, h5, n1, n2, n3⟩ := h.below hb
  have hk := setCell_bytes (i := D) hr (by decide) v
  exact ⟨⟨h1.far (p := ⟨ga, D, none⟩) (Ne.symm n1) v, ⟨_, hr.set D v, (hv2.set D hv).keep hk⟩, ⟨lz, hz.far (p := ⟨ga, D, none⟩) n3 v, hw.keep hk⟩, h4.set D l hl st.loads, h5, n1, n2, n3⟩, (Chg3.of_below hb).set (g := ga) (.inr (.inl rfl)) D v⟩
theorem ValO.of_row {W : World} {g n : Nat} {l : List UInt8} (h : Row W g 5 (bVs l)) (hl : l.length = n) : ValO W (.slice (some ⟨g, 0, none⟩) n n) (some l) := ⟨g, n, by rw [hl], by omega, RdT.of_row h⟩
end Go.Proofs.Ythbjcafldbocpaa
namespace Go.Proofs.Ythbjcafldbocpaa
open Go.RowKit
set_option linter.unusedVariables false
set_option linter.unusedSimpArgs false
end Go.Proofs.Ythbjcafldbocpaa
namespace Go.Proofs.Ythbjcafldbocpaa
open Go.RowKit
set_option linter.unusedVariables false
set_option linter.unusedSimpArgs false


end Go.Proofs.Ythbjcafldbocpaa
namespace Go.Proofs.Ythbjcafldbocpaa
open Go.RowKit
set_option linter.unusedVariables false
set_option linter.unusedSimpArgs false
theorem step_append_rd {ops : Array Oper} {o : Oper} {a : Act} {W : World} {K : Act → World → Prop} {Q : Exit → Act → World → Prop} {E : Prop} (s x : Operand) (hgd : o.guard = none)
    (ho : o.op = .call { callee := .builtin .append, args := #[s, x], argTypes := #[35, 35] })
    (base : Nat) (v : Value) (xs ys : List UInt8) (hs : a.eval s = v) (hown : OwnV W base v xs) (B : Nat) (A : Option Addr) (m c : Nat) (hx : a.eval x = .slice A m c) (hr : Rd W B A m (bVs ys))
    (hlen : xs.length + m ≤ 140737488355328) (hbase : base ≤ W.heap.size)
    (h : ∀ v' w', OwnV w' base v' (xs ++ ys) → W.grownBy w' v.ownBlock → (v'.ownBlock = v.ownBlock ∨ v'.ownBlock = some W.heap.size) → K (a.put o.dst v') w') :
    if Region.wanted o (yielded ops a.tmps) = true then Oper.wp Try.prog o a W K Q else E := by
  have hw : Region.wanted o (yielded ops a.tmps) = true := by simp [Region.wanted, hgd]
  rw [if_pos hw]
  obtain ⟨v', w', hrun, h1, h2, h3⟩ := run_append_rd W base o.type v xs ys hown B A m c hr hlen hbase
  unfold Oper.wp execOp
  simp only [ho, resolve, invoke, builtin, Sem.run_bind, Sem.run_pure, Result.andThen_ok, List.map_toArray, List.map_cons, List.map_nil, hs, hx, hrun]
  exact h v' w' h1 h2 h3
end Go.Proofs.Ythbjcafldbocpaa
namespace Go.Proofs.Ythbjcafldbocpaa
open Go.RowKit
set_option linter.unusedVariables false
set_option linter.unusedSimpArgs false

def sameB (xs ys : List UInt8) : Bool := xs == ys
theorem sameB_self (xs : List UInt8) : sameB xs xs = true := by simp [sameB]
theorem to_string {w : World} {B : Nat} {A : Option Addr} {n cap : Nat} {xs : List UInt8} (h : Rd w B A n (bVs xs)) :
    (convert 35 9 (.slice A n cap)).run Try.prog w = .ok (.string ⟨xs.toArray⟩) w := by
  rcases Nat.eq_zero_or_pos n with h0 | hp
  · subst h0
    have hx : xs = [] := List.eq_nil_of_length_eq_zero (by have := h.len; rw [bVs_length] at this; exact this)
    subst hx
    cases A with
    | none => 
      have h1 := run_convert_bytes_string (P := Try.prog) w 35 9 5 none 0 cap Try.underlying35 Try.underlying5 Try.underlying9
      rw [h1]
      simp [Conv.bytesToString]
      rfl
    | some a => exact run_convert_bytes_back (P := Try.prog) w 35 9 5 a cap [] Try.underlying35 Try.underlying5 Try.underlying9 (fun j hj => absurd hj (by simp))
  · obtain ⟨g, o, rfl, hg, hc⟩ := h.2 hp
    have hl := h.len
    rw [bVs_length] at hl
    subst hl
    refine run_convert_bytes_back (P := Try.prog) w 35 9 5 ⟨g, o, none⟩ cap xs Try.underlying35 Try.underlying5 Try.underlying9 (fun j hj => ?_)
    have h1 := hc j _ (bVs_get xs j hj)
    unfold Addr.add
    split
    · next h0 => subst h0; simpa using h1
    · exact h1

set_option maxHeartbeats 400000 in
theorem same_calls (A : Option Addr) (n ac : Nat) (B : Option Addr) (m bc : Nat) (xs ys : List UInt8) (w : World) (ha : Rd w w.heap.size A n (bVs xs)) (hb : Rd w w.heap.size B m (bVs ys)) :
    Calls Try.prog 35 #[.slice A n ac, .slice B m bc] w fun e w' => e = .returned (.bool (sameB xs ys)) ∧ w = w' := by
  have h1 := to_string (cap := ac) ha
  have h2 := to_string (cap := bc) hb
  go_enter Try.func35, Try.ntmps35
  go_wp2_with fail
  go_ret
  exact ⟨rfl, rfl⟩
end Go.Proofs.Ythbjcafldbocpaa
namespace Go.Proofs.Ythbjcafldbocpaa
open Go.RowKit
set_option linter.unusedVariables false
set_option linter.unusedSimpArgs false

theorem same_self (A : Option Addr) (n ac : Nat) (B : Option Addr) (m bc : Nat) (xs : List UInt8) (w : World) (ha : Rd w w.heap.size A n (bVs xs)) (hb : Rd w w.heap.size B m (bVs xs)) :
    Calls Try.prog 35 #[.slice A n ac, .slice B m bc] w fun e w' => e = .returned (.bool true) ∧ w = w' := by
  have h := same_calls A n ac B m bc xs xs w ha hb
  rw [sameB_self] at h
  exact h
set_option maxHeartbeats 800000 in
theorem like_self (r c : Int) (A : Option Addr) (n ac : Nat) (B : Option Addr) (m bc : Nat) (xs : List UInt8) (w : World) (ha : Rd w w.heap.size A n (bVs xs)) (hb : Rd w w.heap.size B m (bVs xs)) :
    Calls Try.prog 20 #[mV r c A n ac, mV r c B m bc] w fun e w' => e = .returned (.bool true) ∧ Below w.heap.size w w' := by
  have hB : Below w.heap.size w ((w.alloc (Obj.cells #[.int .i64 r, .int .i64 c, .slice A n ac] 37)).alloc (Obj.cells #[.int .i64 r, .int .i64 c, .slice B m bc] 37)) := ((Below.refl _ _).alloc (Nat.le_refl _) _).alloc (by simp) _
  have ra := ha.go hB
  have rb := hb.go hB
  have HB := Lib.hid hB
  clear hB ha hb
  go_enter Try.func20, Try.ntmps20
  go_wp2_with (go_at_call 35; refine (same_self _ _ _ _ _ _ _ _ ra rb).mono ?_; rintro e w' ⟨rfl, rfl⟩)
  go_ret
  exact ⟨rfl, HB.out⟩
end Go.Proofs.Ythbjcafldbocpaa
namespace Go.Proofs.Ythbjcafldbocpaa
open Go.RowKit
set_option linter.unusedVariables false
set_option linter.unusedSimpArgs false
end Go.Proofs.Ythbjcafldbocpaa
namespace Go.Proofs.Ythbjcafldbocpaa
open Go.RowKit
set_option linter.unusedVariables false
set_option linter.unusedSimpArgs false

end Go.Proofs.Ythbjcafldbocpaa
namespace Go.Proofs.Ythbjcafldbocpaa
open Go.RowKit
set_option linter.unusedVariables false
set_option linter.unusedSimpArgs false
end Go.Proofs.Ythbjcafldbocpaa
namespace Go.Proofs.Ythbjcafldbocpaa
open Go.RowKit
set_option linter.unusedVariables false
set_option linter.unusedSimpArgs false
structure Cx (w0 w : World) (bs : List (Nat × TypeId × List Value)) (rs : List (Option Addr × Nat × List UInt8)) : Prop where
  below : Below w0.heap.size w0 w
  rows : ∀ b ∈ bs, Row w b.1 b.2.1 b.2.2
  rds : ∀ r ∈ rs, Rd w w.heap.size r.1 r.2.1 (bVs r.2.2)
section
variable {w0 w w' : World} {bs : List (Nat × TypeId × List Value)} {rs : List (Option Addr × Nat × List UInt8)}
theorem Cx.start (w : World) : Cx w w [] [] := ⟨Below.refl _ _, fun b h => absurd h (by simp), fun r h => absurd h (by simp)⟩
theorem Cx.go (h : Cx w0 w bs rs) (hb : Below w.heap.size w w') : Cx w0 w' bs rs :=
  ⟨h.below.trans (hb.mono h.below.size), fun b hm => (h.rows b hm).below hb (h.rows b hm).lt, fun r hm => (h.rds r hm).go hb⟩
theorem Cx.add {A : Option Addr} {n : Nat} {xs : List UInt8} (h : Cx w0 w bs rs) (hr : Rd w w.heap.size A n (bVs xs)) : Cx w0 w bs ((A, n, xs) :: rs) :=
  ⟨h.below, h.rows, fun r hm => by
    rcases List.mem_cons.1 hm with rfl | hm
    · exact hr
    · exact h.rds r hm⟩
theorem Cx.row0 {g : Nat} {t : TypeId} {cs : List Value} (h : Cx w0 w bs rs) (hr : Row w g t cs) : Cx w0 w ((g, t, cs) :: bs) rs :=
  ⟨h.below, fun b hm => by
    rcases List.mem_cons.1 hm with rfl | hm
    · exact hr
    · exact h.rows b hm, h.rds⟩
theorem Cx.box (h : Cx w0 w bs rs) (t : TypeId) (cs : List Value) : Cx w0 (w.alloc (.cells cs.toArray t)) ((w.heap.size, t, cs) :: bs) rs :=
  (h.go ((Below.refl _ _).alloc (Nat.le_refl _) _)).row0 (Row.new w cs t)
theorem Cx.alloc (h : Cx w0 w bs rs) (o : Obj) : Cx w0 (w.alloc o) bs rs := h.go ((Below.refl _ _).alloc (Nat.le_refl _) o)
theorem Cx.drewN (h : Cx w0 w bs rs) (n : Nat) : Cx w0 (w.drewN n) bs rs := h.go (below_drewN (Below.refl _ _) n)
theorem Cx.drew (h : Cx w0 w bs rs) : Cx w0 w.drew bs rs := h.go (Below.drew (Below.refl _ _))
theorem Cx.row (h : Cx w0 w bs rs) (i : Nat) {g : Nat} {t : TypeId} {cs : List Value} (e : bs[i]? = some (g, t, cs)) : Row w g t cs := h.rows _ (List.mem_of_getElem? e)
theorem Cx.rd (h : Cx w0 w bs rs) (i : Nat) {A : Option Addr} {n : Nat} {xs : List UInt8} (e : rs[i]? = some (A, n, xs)) : Rd w w.heap.size A n (bVs xs) := h.rds _ (List.mem_of_getElem? e)
theorem Cx.lt (h : Cx w0 w bs rs) (i : Nat) {g : Nat} {t : TypeId} {cs : List Value} (e : bs[i]? = some (g, t, cs)) : g < w.heap.size := (h.row i e).lt
theorem Cx.cells4 (h : Cx w0 w bs rs) (i : Nat) {g : Nat} {t : TypeId} {a b c d : Value} (e : bs[i]? = some (g, t, [a, b, c, d])) : w.cell? ⟨g, 0, none⟩ = some a ∧ w.cell? ⟨g, 1, none⟩ = some b ∧ w.cell? ⟨g, 2, none⟩ = some c ∧ w.cell? ⟨g, 3, none⟩ = some d :=
  ⟨(h.row i e).cell 0, (h.row i e).cell 1, (h.row i e).cell 2, (h.row i e).cell 3⟩
end
end Go.Proofs.Ythbjcafldbocpaa
namespace Go.Proofs.Ythbjcafldbocpaa
set_option linter.unusedVariables false
set_option linter.unusedSimpArgs false

/-! sums -/
end Go.Proofs.Ythbjcafldbocpaa
namespace Go.Proofs.Ythbjcafldbocpaa
open Go.RowKit
set_option linter.unusedVariables false
set_option linter.unusedSimpArgs false

end Go.Proofs.Ythbjcafldbocpaa
namespace Go.Proofs.Ythbjcafldbocpaa
open Go.RowKit
set_option linter.unusedVariables false
set_option linter.unusedSimpArgs false

end Go.Proofs.Ythbjcafldbocpaa
namespace Go.Proofs.Ythbjcafldbocpaa
open Go.RowKit
set_option linter.unusedVariables false
set_option linter.unusedSimpArgs false

end Go.Proofs.Ythbjcafldbocpaa
namespace Go.Proofs.Ythbjcafldbocpaa
open Go.RowKit
set_option linter.unusedVariables false
set_option linter.unusedSimpArgs false

end Go.Proofs.Ythbjcafldbocpaa
namespace Go.Proofs.Ythbjcafldbocpaa
open Go.RowKit
set_option linter.unusedVariables false
set_option linter.unusedSimpArgs false

end Go.Proofs.Ythbjcafldbocpaa
namespace Go.Proofs.Ythbjcafldbocpaa
open Go.RowKit
set_option linter.unusedVariables false
set_option linter.unusedSimpArgs false

end Go.Proofs.Ythbjcafldbocpaa
namespace Go.Proofs.Ythbjcafldbocpaa
open Go.RowKit
set_option linter.unusedVariables false
set_option linter.unusedSimpArgs false

end Go.Proofs.Ythbjcafldbocpaa
namespace Go.Proofs.Ythbjcafldbocpaa
open Go.RowKit Go.Proofs.YthbjcafldbocpaaW.PrintWords
set_option linter.unusedVariables false
set_option linter.unusedSimpArgs false

theorem w64 {e : Int} (h0 : -9223372036854775808 ≤ e) (h1 : e ≤ 9223372036854775807) : wrap64 e = e := by
  unfold wrap64
  omega
theorem w64_succ {i : Nat} (h : i ≤ 9223372036854775806) : wrap64 ((i : Int) + 1) = ((i + 1 : Nat) : Int) := by
  rw [w64 (by omega) (by omega)]; rfl
end Go.Proofs.Ythbjcafldbocpaa
namespace Go.Proofs.Ythbjcafldbocpaa
open Go.RowKit
set_option linter.unusedVariables false
set_option linter.unusedSimpArgs false

end Go.Proofs.Ythbjcafldbocpaa
namespace Go.Proofs.Ythbjcafldbocpaa
open Go.RowKit
set_option linter.unusedVariables false
set_option linter.unusedSimpArgs false
end Go.Proofs.Ythbjcafldbocpaa
namespace Go.Proofs.Ythbjcafldbocpaa
open Go.RowKit
set_option linter.unusedVariables false
set_option linter.unusedSimpArgs false
theorem DW.load {W W' : World} {gt ga gz nr no n ld D : Nat} {st : VS} (h : DW W gt ga gz nr no n st) (hk : ∀ (k : Nat) (cells : Array Value), W.heap[k]? = some (Obj.cells cells 5 (0, 0)) → W'.heap[k]? = W.heap[k]?)
    {v : Value} (ha : ∀ lv, Row W ga 35 lv → Row W' ga 35 (lv.set D v)) (hz : ∀ lz, Row W gz 35 lz → Row W' gz 35 lz) (ht : Row W' gt 113 [.slice (some ⟨ga, 0, none⟩) nr nr, .slice (some ⟨gz, 0, none⟩) no no, .int .u64 (ld : Int)]) {l : List UInt8} (hl : l.length = n) (hv : ValO W' v (some l)) (hld : ld < 2 ^ 64) :
    DW W' gt ga gz nr no n { st with regs := st.regs.set D (some l), loads := ld } := by
  obtain ⟨h1, ⟨lv, hr, hv2⟩, ⟨lz, hz2, hw⟩, h4, h5, n1, n2, n3⟩ := h
  exact ⟨ht, ⟨_, ha lv hr, (hv2.keep hk).set D hv⟩, ⟨lz, hz lz hz2, hw.keep hk⟩, h4.set D l hl ld, hld, n1, n2, n3⟩
end Go.Proofs.Ythbjcafldbocpaa
namespace Go.Proofs.Ythbjcafldbocpaa
open Go.RowKit Go.Proofs.YthbjcafldbocpaaW.PrintWords
set_option linter.unusedVariables false
set_option linter.unusedSimpArgs false

def RdL (w : World) (B : Nat) (A : Option Addr) (L : List (List UInt8)) : Prop :=
  ∀ i, i < L.length → ∃ g o Ai ci, A = some ⟨g, o, none⟩ ∧ g < B ∧ w.cell? ⟨g, o + i, none⟩ = some (.slice Ai (L.getD i []).length ci) ∧ (L.getD i []).length ≤ ci ∧ (L.getD i []).length ≤ 9223372036854775807 ∧ Rd w B Ai (L.getD i []).length (bVs (L.getD i []))
theorem RdL.below {w w' : World} {B B' : Nat} {A : Option Addr} {L : List (List UInt8)} (h : RdL w B A L) (hb : Below B' w w') (hB : B ≤ B') : RdL w' B A L := by
  intro i hi
  obtain ⟨g, o, Ai, ci, e, hg, hc, h1, h2, hr⟩ := h i hi
  exact ⟨g, o, Ai, ci, e, hg, (hb.cell (p := ⟨g, o + i, none⟩) (by show g < B'; omega)).trans hc, h1, h2, hr.below hb hB⟩
theorem RdL.more {w : World} {B B' : Nat} {A : Option Addr} {L : List (List UInt8)} (h : RdL w B A L) (hB : B ≤ B') : RdL w B' A L := by
  intro i hi
  obtain ⟨g, o, Ai, ci, e, hg, hc, h1, h2, hr⟩ := h i hi
  exact ⟨g, o, Ai, ci, e, by omega, hc, h1, h2, hr.more hB⟩
theorem RdL.go {w w' : World} {A : Option Addr} {L : List (List UInt8)} (h : RdL w w.heap.size A L) (hb : Below w.heap.size w w') : RdL w' w'.heap.size A L := (h.below hb (Nat.le_refl _)).more hb.size
end Go.Proofs.Ythbjcafldbocpaa
namespace Go.Proofs.Ythbjcafldbocpaa
open Go.ChangeShapes Go.WideShapes Go.ChangeAt Go.RowKit

theorem own_knob : ownKnob Try.prog.godebug = none := by kernel_rfl
theorem laid_out : laidOutB Try.prog = true := by kernel_rfl
theorem u8_of {n : Int} (h : (Lit.int .u8 n).wf = true) : ∃ u : UInt8, n = (u.toNat : Int) := by
  have hb := bounds_u8 h
  refine ⟨UInt8.ofNat n.toNat, ?_⟩
  rw [UInt8.toNat_ofNat']
  omega
end Go.Proofs.Ythbjcafldbocpaa
