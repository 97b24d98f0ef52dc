/- What the functions compute that the law VerifyAll reaches, proved by walking them; conditions stand at each theorem. -/
import Derived.Laws.MakeOwn
import Derived.Deep.RegionHeld3
import Derived.Deep.QuietTactic
import Derived.BigQuiet
import Derived.Deep.CutBlock
import Derived.Laws.IdiomStrings
import Derived.Laws.BytesArg
import Derived.Test.YthbjcafldbocpaaCVerifyAllA1
namespace Go.Proofs.Ythbjcafldbocpaa
open Go.RowKit
set_option linter.unusedVariables false
set_option linter.unusedSimpArgs false
structure PS where
  k : Nat
  D : Nat
  S : Nat
  C : UInt8
def PS.Ok (s : PS) : Prop := s.k = 1 ∨ s.k = 2 ∨ s.k = 3 ∨ s.k = 4
def StepsAt (w : World) (B : Nat) (A : Option Addr) (l : List PS) : Prop :=
  0 < l.length → ∃ g o, A = some ⟨g, o, none⟩ ∧ g < B ∧ ∀ i s, l[i]? = some s → w.cell? ⟨g, o + i * 4, none⟩ = some (.int .u8 (s.k : Int)) ∧ w.cell? ⟨g, o + i * 4 + 1, none⟩ = some (.int .i64 (s.D : Int)) ∧ w.cell? ⟨g, o + i * 4 + 2, none⟩ = some (.int .i64 (s.S : Int)) ∧ w.cell? ⟨g, o + i * 4 + 3, none⟩ = some (.int .u8 (s.C.toNat : Int))
theorem StepsAt.below {w w' : World} {B : Nat} {A : Option Addr} {l : List PS} (h : StepsAt w B A l) (hb : Below B w w') : StepsAt w' B A l := by
  intro hn
  obtain ⟨g, o, e, hg, hc⟩ := h hn
  refine ⟨g, o, e, hg, fun i s hs => ?_⟩
  have := hc i s hs
  have hB : ∀ p : Addr, p.block = g → w'.cell? p = w.cell? p := fun p hp => World.cell?_of_block (hb.block _ (by rw [hp]; exact hg))
  exact ⟨(hB _ rfl).trans this.1, (hB _ rfl).trans this.2.1, (hB _ rfl).trans this.2.2.1, (hB _ rfl).trans this.2.2.2⟩
def vRun (nr no reads n : Nat) : List PS → Nat → VS → Nat × Option VS
  | [], i, st => (i, some st)
  | s :: l, i, st => match vStep nr no reads n st s.k s.D s.S s.C with
    | some st' => vRun nr no reads n l (i + 1) st'
    | none => (i, none)
def vAll (nr no reads n : Nat) (l : List PS) : Nat × Option VS :=
  match vRun nr no reads n l 0 ⟨List.replicate nr none, List.replicate no none, 0⟩ with
  | (i, some st) => if (∀ o ∈ st.outs, o.isSome = true) ∧ st.loads = reads then (i, some st) else (i, none)
  | (i, none) => (i, none)
theorem LkW.drewN {w : World} {gk gr gs go gd nr no reads n nS cS at_ : Nat} {AS : Option Addr} {st : VS} (h : LkW w gk gr gs go gd nr no reads n AS nS cS at_ st) (k : Nat) : LkW (w.drewN k) gk gr gs go gd nr no reads n AS nS cS at_ st :=
  ⟨h.hk.drewN k, h.hs.drewN k, h.hr.drewN k, h.hd.drewN k, h.ho.drewN k, h.ok, h.hl⟩
theorem vAll_yes {nr no reads n i : Nat} {l : List PS} {st : VS} (hv : vRun nr no reads n l 0 ⟨List.replicate nr none, List.replicate no none, 0⟩ = (i, some st)) (h : (∀ o ∈ st.outs, o.isSome = true) ∧ st.loads = reads) : vAll nr no reads n l = (i, some st) := by
  unfold vAll
  rw [hv]
  exact if_pos h
theorem vAll_no {nr no reads n i : Nat} {l : List PS} {st : VS} (hv : vRun nr no reads n l 0 ⟨List.replicate nr none, List.replicate no none, 0⟩ = (i, some st)) (h : ¬ ((∀ o ∈ st.outs, o.isSome = true) ∧ st.loads = reads)) : vAll nr no reads n l = (i, none) := by
  unfold vAll
  rw [hv]
  exact if_neg h
theorem somes_not {rs : List (Option (List UInt8))} {j : Nat} (h : (somes rs)[j]? = some false) : ¬ ∀ o ∈ rs, o.isSome = true := by
  intro hall
  rw [somes, List.getElem?_map] at h
  cases ho : rs[j]? with
  | none => rw [ho] at h; cases h
  | some o =>
    have := hall o (List.mem_of_getElem? ho)
    rw [ho] at h
    simp [this] at h
theorem somes_all {rs : List (Option (List UInt8))} {no : Nat} (hl : rs.length = no) (h : ∀ q, q < no → (somes rs)[q]? = some true) : ∀ o ∈ rs, o.isSome = true := by
  intro o ho
  obtain ⟨i, hi, rfl⟩ := List.getElem_of_mem ho
  have := h i (by omega)
  rw [somes, List.getElem?_map, List.getElem?_eq_getElem hi] at this
  simpa using this
theorem LkW.far {w : World} {gk gr gs go gd nr no reads n nS cS at_ g : Nat} {AS : Option Addr} {st : VS} (h : LkW w gk gr gs go gd nr no reads n AS nS cS at_ st) (a : gk ≠ g) (b : gr ≠ g) (c : gs ≠ g) (d : go ≠ g) (e : gd ≠ g) (v : Value) : LkW (w.setCell ⟨g, 0, none⟩ v) gk gr gs go gd nr no reads n AS nS cS at_ st :=
  ⟨h.hk.far (p := ⟨g, 0, none⟩) a v, h.hs.far (p := ⟨g, 0, none⟩) c v, h.hr.far (p := ⟨g, 0, none⟩) b v, h.hd.far (p := ⟨g, 0, none⟩) e v, h.ho.far (p := ⟨g, 0, none⟩) d v, h.ok, h.hl⟩
def atC (gk : Nat) (w : World) : Nat := (intOf ((w.cell? ⟨gk, 5, none⟩).getD undef)).toNat
def Fell (base gk gr gs go gd nr no reads n : Nat) (AS : Option Addr) (nS cS at_ : Nat) (w w' : World) : Prop :=
  Below base w w' ∧ ∃ ld, Row w' gk 82 (lkV AS nS cS nr no reads n at_ gr gs go gd ld)
theorem LkW.next {w : World} {gk gr gs go gd nr no reads n nS cS i base : Nat} {AS : Option Addr} {st : VS} (G : LkG base gk gr gs go gd nr no reads n) (h : LkW w gk gr gs go gd nr no reads n AS nS cS i st) : LkW (w.setCell ⟨gk, 5, none⟩ (.int .i64 ((i : Int) + 1))) gk gr gs go gd nr no reads n AS nS cS (i + 1) st :=
  ⟨h.hk.set 5 _, h.hs.far (p := ⟨gk, 5, none⟩) G.n1 _, h.hr.far (p := ⟨gk, 5, none⟩) G.n2 _, h.hd.far (p := ⟨gk, 5, none⟩) G.n4 _, h.ho.far (p := ⟨gk, 5, none⟩) G.n5 _, h.ok, h.hl⟩
theorem vRun_at {nr no reads n : Nat} {l : List PS} {i : Nat} {s : PS} (hs : l[i]? = some s) (st : VS) : vRun nr no reads n (l.drop i) i st = match vStep nr no reads n st s.k s.D s.S s.C with
    | some st' => vRun nr no reads n (l.drop (i + 1)) (i + 1) st'
    | none => (i, none) := by
  obtain ⟨hi, rfl⟩ := List.getElem?_eq_some_iff.1 hs
  rw [List.drop_eq_getElem_cons hi]
  rfl
theorem Fell.door {base gk gr gs go gd nr no reads n : Nat} {AS : Option Addr} {nS cS at_ ld g : Nat} {w w4 : World} (hb : Below base w w4) (hB : base ≤ w4.heap.size) (hk : Row w4 gk 82 (lkV AS nS cS nr no reads n at_ gr gs go gd ld)) (hg : gk ≠ g) (hg2 : base ≤ g) (o : Obj) (v : Value) : Fell base gk gr gs go gd nr no reads n AS nS cS at_ w ((w4.alloc o).setCell ⟨g, 0, none⟩ v) :=
  ⟨(hb.alloc hB o).setCell hg2 v, ld, (hk.alloc o).far (p := ⟨g, 0, none⟩) hg v⟩
theorem done_calls (gk gd no i b : Nat) (x : Bool) (w : World) (hb : w.cell? ⟨b, 0, none⟩ = some (.pointer (some ⟨gk, 0, none⟩))) (k9 : w.cell? ⟨gk, 9, none⟩ = some (.slice (some ⟨gd, 0, none⟩) no no)) (hi : i < no) (hx : w.cell? ⟨gd, i, none⟩ = some (.bool x)) :
    Calls Try.prog 65 #[.int .i64 (i : Int), .pointer (some ⟨b, 0, none⟩)] w fun e w' => e = .returned (.bool x) ∧ w' = w := by
  have i0 : (0 : Int) ≤ (i : Int) := by omega
  have i1 : (i : Int) < (no : Int) := by omega
  go_enter Try.func65, Try.ntmps65
  go_wp2_with fail
  go_ret
  exact ⟨rfl, rfl⟩
set_option maxHeartbeats 4000000 in
set_option maxRecDepth 100000 in
theorem all_calls {base gk gr gs go gd nr no reads n cS : Nat} {AS : Option Addr} {w : World} {l : List PS} (G : LkG base gk gr gs go gd nr no reads n)
    (h : LkW w gk gr gs go gd nr no reads n AS l.length cS 0 ⟨List.replicate nr none, List.replicate no none, 0⟩) (hl : StepsAt w base AS l) (hok : ∀ s ∈ l, s.Ok) (hlen : l.length ≤ 65536) (hno : no ≤ 64) :
    Calls Try.prog 49 #[.pointer (some ⟨gk, 0, none⟩)] w fun e w' =>
      (∀ st, (vAll nr no reads n l).2 = some st → e = .returned (.bool true) ∧ Below base w w' ∧ LkW w' gk gr gs go gd nr no reads n AS l.length cS (vAll nr no reads n l).1 st) ∧
      ((vAll nr no reads n l).2 = none → e = .returned (.bool false) ∧ Fell base gk gr gs go gd nr no reads n AS l.length cS (vAll nr no reads n l).1 w w') := by
  have hmf : ∀ (fn : Fn) (first cap : Array Value) (w : World), (Instr.makeFunc fn first cap).run Try.prog w = .ok (.func fn first cap) w := fun _ _ _ _ => rfl
  have ltk := h.hk.lt
  have lts := h.hs.lt
  have ltr := h.hr.lt
  have ltd := h.hd.lt
  have lto := h.ho.lt
  have hB : base ≤ w.heap.size := Nat.le_trans G.bk (Nat.le_of_lt ltk)
  go_enter_defers Try.func49, Try.ntmps49
  go_wp2_with fail
  obtain ⟨w1, hw1⟩ : ∃ w1, w1 = (w.alloc (Obj.cells #[Value.pointer (some ⟨gk, 0, none⟩)] 76)).alloc (Obj.cells #[Value.bool false] 4) := ⟨_, rfl⟩
  have q : Below w.heap.size w w1 := by rw [hw1]; exact ((Below.refl _ _).alloc (Nat.le_refl _) _).alloc (by simp) _
  have hbx : Row w1 w.heap.size 76 [.pointer (some ⟨gk, 0, none⟩)] := by rw [hw1]; exact (Row.new w _ _).alloc _
  have hob : Row w1 (w.heap.size + 1) 4 [.bool false] := by rw [hw1]; have := Row.new (w.alloc (Obj.cells #[Value.pointer (some ⟨gk, 0, none⟩)] 76)) [.bool false] 4; simpa using this
  have h1 : LkW w1 gk gr gs go gd nr no reads n AS l.length cS 0 ⟨List.replicate nr none, List.replicate no none, 0⟩ := ⟨h.hk.below q ltk, h.hs.below q lts, h.hr.below q ltr, h.hd.below q ltd, h.ho.below q lto, h.ok, h.hl⟩
  rw [← hw1]
  clear hw1
  have HQ := Lib.hid (q.mono hB)
  have HBX := Lib.hid hbx
  have HOB := Lib.hid hob
  have H1 := Lib.hid h1
  have HL := Lib.hid hl
  have HOK := Lib.hid hok
  clear q hbx hob h1 h hl hok
  go_loopw [6] (fun _ wr => ∃ i st, i ≤ l.length ∧ vRun nr no reads n l 0 ⟨List.replicate nr none, List.replicate no none, 0⟩ = vRun nr no reads n (l.drop i) i st ∧ LkW wr gk gr gs go gd nr no reads n AS l.length cS i st ∧ Row wr w.heap.size 76 [.pointer (some ⟨gk, 0, none⟩)] ∧ Row wr (w.heap.size + 1) 4 [.bool false] ∧ Below base w wr) (fun _ wr => l.length - atC gk wr)
  case atStart => exact ⟨0, _, by omega, rfl, H1.out, HBX.out, HOB.out, HQ.out⟩
  case round =>
    obtain ⟨i, st, hi, hv, hW, hbx, hob, hb⟩ := hrel
    clear HQ HBX HOB H1
    have b1 : wr.cell? ⟨w.heap.size, 0, none⟩ = some (.pointer (some ⟨gk, 0, none⟩)) := hbx.cell 0
    have k0 : wr.cell? ⟨gk, 0, none⟩ = some (.slice AS l.length cS) := hW.hk.cell 0
    have k5 : wr.cell? ⟨gk, 5, none⟩ = some (.int .i64 (i : Int)) := hW.hk.cell 5
    have HW := Lib.hid hW
    have HBX := Lib.hid hbx
    have HOB := Lib.hid hob
    have HB := Lib.hid hb
    clear hW hbx hob hb
    go_wp2_with fail
    go_region_held3 (fun x => x.cell? ⟨w.heap.size, 0, none⟩ = some (.pointer (some ⟨gk, 0, none⟩)) ∧ x.cell? ⟨gk, 0, none⟩ = some (.slice AS l.length cS) ∧ x.cell? ⟨gk, 5, none⟩ = some (.int .i64 (i : Int))) (go_keep) (fail)
    by_cases hlt : i < l.length
    · have hd1 : decide (i < l.length) = true := decide_eq_true hlt
      have hd2 : decide ((i : Int) < (l.length : Int)) = true := decide_eq_true (by omega)
      obtain ⟨g, o, rfl, hg, hc⟩ := (HL.out.below HB.out) (by omega)
      obtain ⟨s, hs⟩ : ∃ s, l[i]? = some s := ⟨l[i], List.getElem?_eq_getElem hlt⟩
      obtain ⟨s0, s1, s2, s3⟩ := hc i s hs
      have i0 : (0 : Int) ≤ (i : Int) := by omega
      have i1 : (i : Int) < (l.length : Int) := by omega
      have HST := Lib.hid (step_calls G (show LkW wr.drew.drew gk gr gs go gd nr no reads n (some ⟨g, o, none⟩) l.length cS i st from HW.out.drewN 2) s.k s.D s.S s.C (HOK.out s (List.mem_of_getElem? hs)))
      have HS := Lib.hid hs
      clear hc hs
      go_wp2_with fail
      refine wp_panQ ⟨w.heap.size + 1, 0, none⟩ [{ target := .fn (Fn.func 63) #[.pointer (some ⟨w.heap.size + 1, 0, none⟩)], args := #[] }] (fun w' => vStep nr no reads n st s.k s.D s.S s.C = none ∧ Row w' gk 82 (lkV (some ⟨g, o, none⟩) l.length cS nr no reads n i gr gs go gd st.loads) ∧ Row w' (w.heap.size + 1) 4 [.bool false] ∧ Below base w w') ?_ ?_
      · refine wp_region_held_drew (S := (fun x => x.cell? ⟨w.heap.size, 0, none⟩ = some (.pointer (some ⟨gk, 0, none⟩)) ∧ x.cell? ⟨gk, 0, none⟩ = some (.slice (some ⟨g, o, none⟩) l.length cS) ∧ x.cell? ⟨gk, 5, none⟩ = some (.int .i64 (i : Int)) ∧ x.cell? ⟨g, o + i * 4, none⟩ = some (.int .u8 (s.k : Int)) ∧ x.cell? ⟨g, o + i * 4 + 1, none⟩ = some (.int .i64 (s.D : Int)) ∧ x.cell? ⟨g, o + i * 4 + 2, none⟩ = some (.int .i64 (s.S : Int)) ∧ x.cell? ⟨g, o + i * 4 + 3, none⟩ = some (.int .u8 (s.C.toNat : Int)))) (by kernel_rfl) ⟨b1, k0, k5, s0, s1, s2, s3⟩ (fun hHeld => ?_)
        refine wpAnyH_take (i := 0) (v := ?_) rfl (by kernel_rfl) (by kernel_rfl) (by kernel_rfl) (fun c a w h => PanQ.put (by decide) c a w h) (Or.inl ⟨by kernel_rfl, ?_⟩) (by assumption) ?_
        rotate_left
        · (intro w hSw; (try dsimp only at hSw); go_simp; (try with_reducible rfl))
        try simp only [List.getElem_toArray, List.getElem_cons_succ, List.getElem_cons_zero, Act.put, List.setIfInBounds_toArray, List.set_cons_zero, List.set_cons_succ]
        refine wpAnyH_take (i := 1) (v := ?_) rfl (by kernel_rfl) (by kernel_rfl) (by kernel_rfl) (fun c a w h => PanQ.put (by decide) c a w h) (Or.inl ⟨by kernel_rfl, ?_⟩) (by assumption) ?_
        rotate_left
        · (intro w hSw; (try dsimp only at hSw); go_simp; (try with_reducible rfl))
        try simp only [List.getElem_toArray, List.getElem_cons_succ, List.getElem_cons_zero, Act.put, List.setIfInBounds_toArray, List.set_cons_zero, List.set_cons_succ]
        refine wpAnyH_take (i := 2) (v := ?_) rfl (by kernel_rfl) (by kernel_rfl) (by kernel_rfl) (fun c a w h => PanQ.put (by decide) c a w h) (Or.inl ⟨by kernel_rfl, ?_⟩) (by assumption) ?_
        rotate_left
        · (intro w hSw; (try dsimp only at hSw); go_simp; (try with_reducible rfl))
        try simp only [List.getElem_toArray, List.getElem_cons_succ, List.getElem_cons_zero, Act.put, List.setIfInBounds_toArray, List.set_cons_zero, List.set_cons_succ]
        refine wpAnyH_take (i := 3) (v := ?_) rfl (by kernel_rfl) (by kernel_rfl) (by kernel_rfl) (fun c a w h => PanQ.put (by decide) c a w h) (Or.inl ⟨by kernel_rfl, ?_⟩) (by assumption) ?_
        rotate_left
        · (intro w hSw; (try dsimp only at hSw); go_simp; (try with_reducible rfl))
        try simp only [List.getElem_toArray, List.getElem_cons_succ, List.getElem_cons_zero, Act.put, List.setIfInBounds_toArray, List.set_cons_zero, List.set_cons_succ]
        refine wpAnyH_take (i := 4) (v := ?_) rfl (by kernel_rfl) (by kernel_rfl) (by kernel_rfl) (fun c a w h => PanQ.put (by decide) c a w h) (Or.inl ⟨by kernel_rfl, ?_⟩) (by assumption) ?_
        rotate_left
        · (intro w hSw; (try dsimp only at hSw); go_simp; (try with_reducible rfl))
        try simp only [List.getElem_toArray, List.getElem_cons_succ, List.getElem_cons_zero, Act.put, List.setIfInBounds_toArray, List.set_cons_zero, List.set_cons_succ]
        refine wpAnyH_take (i := 5) (v := ?_) rfl (by kernel_rfl) (by kernel_rfl) (by kernel_rfl) (fun c a w h => PanQ.put (by decide) c a w h) (Or.inl ⟨by kernel_rfl, ?_⟩) (by assumption) ?_
        rotate_left
        · (intro w hSw; (try dsimp only at hSw); go_simp; (try with_reducible rfl))
        try simp only [List.getElem_toArray, List.getElem_cons_succ, List.getElem_cons_zero, Act.put, List.setIfInBounds_toArray, List.set_cons_zero, List.set_cons_succ]
        refine wpAnyH_take (i := 6) (v := ?_) rfl (by kernel_rfl) (by kernel_rfl) (by kernel_rfl) (fun c a w h => PanQ.put (by decide) c a w h) (Or.inl ⟨by kernel_rfl, ?_⟩) (by assumption) ?_
        rotate_left
        · (intro w hSw; (try dsimp only at hSw); go_simp; (try with_reducible rfl))
        try simp only [List.getElem_toArray, List.getElem_cons_succ, List.getElem_cons_zero, Act.put, List.setIfInBounds_toArray, List.set_cons_zero, List.set_cons_succ]
        refine wpAnyH_take (i := 7) (v := ?_) rfl (by kernel_rfl) (by kernel_rfl) (by kernel_rfl) (fun c a w h => PanQ.put (by decide) c a w h) (Or.inl ⟨by kernel_rfl, ?_⟩) (by assumption) ?_
        rotate_left
        · (intro w hSw; (try dsimp only at hSw); go_simp; (try with_reducible rfl))
        try simp only [List.getElem_toArray, List.getElem_cons_succ, List.getElem_cons_zero, Act.put, List.setIfInBounds_toArray, List.set_cons_zero, List.set_cons_succ]
        refine wpAnyH_take (i := 8) (v := ?_) rfl (by kernel_rfl) (by kernel_rfl) (by kernel_rfl) (fun c a w h => PanQ.put (by decide) c a w h) (Or.inl ⟨by kernel_rfl, ?_⟩) (by assumption) ?_
        rotate_left
        · (intro w hSw; (try dsimp only at hSw); go_simp; (try with_reducible rfl))
        try simp only [List.getElem_toArray, List.getElem_cons_succ, List.getElem_cons_zero, Act.put, List.setIfInBounds_toArray, List.set_cons_zero, List.set_cons_succ]
        refine wpAnyH_take (i := 9) (v := ?_) rfl (by kernel_rfl) (by kernel_rfl) (by kernel_rfl) (fun c a w h => PanQ.put (by decide) c a w h) (Or.inl ⟨by kernel_rfl, ?_⟩) (by assumption) ?_
        rotate_left
        · (intro w hSw; (try dsimp only at hSw); go_simp; (try with_reducible rfl))
        try simp only [List.getElem_toArray, List.getElem_cons_succ, List.getElem_cons_zero, Act.put, List.setIfInBounds_toArray, List.set_cons_zero, List.set_cons_succ]
        refine wpAnyH_take (i := 10) (v := ?_) rfl (by kernel_rfl) (by kernel_rfl) (by kernel_rfl) (fun c a w h => PanQ.put (by decide) c a w h) (Or.inl ⟨by kernel_rfl, ?_⟩) (by assumption) ?_
        rotate_left
        · (intro w hSw; (try dsimp only at hSw); go_simp; (try with_reducible rfl))
        try simp only [List.getElem_toArray, List.getElem_cons_succ, List.getElem_cons_zero, Act.put, List.setIfInBounds_toArray, List.set_cons_zero, List.set_cons_succ]
        refine wpAnyH_take (i := 11) (v := ?_) rfl (by kernel_rfl) (by kernel_rfl) (by kernel_rfl) (fun c a w h => PanQ.put (by decide) c a w h) (Or.inl ⟨by kernel_rfl, ?_⟩) (by assumption) ?_
        rotate_left
        · (intro w hSw; (try dsimp only at hSw); go_simp; (try with_reducible rfl))
        try simp only [List.getElem_toArray, List.getElem_cons_succ, List.getElem_cons_zero, Act.put, List.setIfInBounds_toArray, List.set_cons_zero, List.set_cons_succ]
        refine wpAnyH_ready (rs := [12]) (by kernel_rfl) (by simp) ?_
        refine AllReadyH.cons rfl (fun K hK => ?_) AllReadyH.nil
        go_simp
        refine HST.out.mono ?_
        rintro e w4 ⟨hfr, hok4, hno4⟩
        have ltw : wr.drew.drew.heap.size = wr.heap.size := rfl
        have lt1 : w.heap.size + 1 < wr.heap.size := HOB.out.lt
        have hbx4 : Row w4 w.heap.size 76 [.pointer (some ⟨gk, 0, none⟩)] := hfr.row (w := wr.drew.drew) (HBX.out.drewN 2) (by omega) (by omega) (by omega) (by omega) (by omega)
        have hob4 : Row w4 (w.heap.size + 1) 4 [.bool false] := hfr.row (w := wr.drew.drew) (HOB.out.drewN 2) (by omega) (by omega) (by omega) (by omega) (by omega)
        have hb4 : Below base w w4 := (below_drewN HB.out 2).trans hfr.low
        cases hvs : vStep nr no reads n st s.k s.D s.S s.C with
        | none =>
          obtain ⟨rfl, hk4⟩ := hno4 hvs
          exact ⟨rfl, rfl, rfl, rfl, hk4, hob4, hb4⟩
        | some st' =>
          obtain ⟨rfl, hW4⟩ := hok4 st' hvs
          have hcell : ∀ p : Addr, p.block = g → w4.cell? p = wr.cell? p := fun p hp => World.cell?_of_block (hfr.low.block _ (by rw [hp]; exact hg))
          go_wp2_with fail
          refine hK.out _ _ ⟨hbx4.cell 0, hW4.hk.cell 0, hW4.hk.cell 5, (hcell _ rfl).trans s0, (hcell _ rfl).trans s1, (hcell _ rfl).trans s2, (hcell _ rfl).trans s3⟩ (fun hHeld => ?_)
          clear hK K
          try simp only [List.getElem_toArray, List.getElem_cons_succ, List.getElem_cons_zero, Act.put, List.setIfInBounds_toArray, List.set_cons_zero, List.set_cons_succ]
          refine wpAnyH_done (by kernel_rfl) ?_ _
          simp only [PanQ]
          clear hno4 hok4 HST hHeld s0 s1 s2 s3 b1 k0 k5 hfr
          have HVS := Lib.hid hvs
          have HW4 := Lib.hid hW4
          have HB4 := Lib.hid hb4
          have HBX4 := Lib.hid hbx4
          have HOB4 := Lib.hid hob4
          have b1 : w4.cell? ⟨w.heap.size, 0, none⟩ = some (.pointer (some ⟨gk, 0, none⟩)) := hbx4.cell 0
          have k5 : w4.cell? ⟨gk, 5, none⟩ = some (.int .i64 (i : Int)) := hW4.hk.cell 5
          have f5 : w4.frozen? ⟨gk, 5, none⟩ = false := hW4.hk.frozen 5
          clear hvs hW4 hb4 hbx4 hob4
          go_wp2_with fail
          refine ⟨⟨i + 1, st', by omega, ?_, HW4.out.next G, HBX4.out.far (p := ⟨gk, 5, none⟩) (by simp; omega) _, HOB4.out.far (p := ⟨gk, 5, none⟩) (by simp; omega) _, HB4.out.setCell (by exact G.bk) _⟩, ?_⟩
          · rw [hv, vRun_at HS.out, HVS.out]
          · have e1 : atC gk wr = i := by unfold atC; rw [HW.out.hk.cell 5]; simp [lkV, intOf]
            have e2 : atC gk (w4.setCell ⟨gk, 5, none⟩ (.int .i64 ((i : Int) + 1))) = i + 1 := by unfold atC; rw [(HW4.out.next G).hk.cell 5]; simp [lkV, intOf]
            rw [e1, e2]
            omega
      · intro a w4 ha hd h4
        have hall : vAll nr no reads n l = (i, none) := by
          unfold vAll
          rw [hv, vRun_at HS.out, h4.1]
        have lt1 : w.heap.size + 1 < wr.heap.size := HOB.out.lt
        refine door_panic ha hd h4.2.2.1 ?_
        rw [hall]
        exact ⟨fun st hst => (by cases hst), fun _ => ⟨rfl, Fell.door h4.2.2.2 (by have := h4.2.2.1.lt; omega) h4.2.1 (by omega) (by omega) _ _⟩⟩
    · have hd1 : decide (i < l.length) = false := decide_eq_false hlt
      have hd2 : decide ((i : Int) < (l.length : Int)) = false := decide_eq_false (by omega)
      obtain rfl : i = l.length := by omega
      rw [List.drop_length] at hv
      clear k0 k5
      have k9 : wr.drew.cell? ⟨gk, 9, none⟩ = some (.slice (some ⟨gd, 0, none⟩) no no) := HW.out.hk.cell 9
      have b2 : wr.drew.cell? ⟨w.heap.size, 0, none⟩ = some (.pointer (some ⟨gk, 0, none⟩)) := b1
      have HV := Lib.hid hv
      clear hv
      go_wp2_with fail
      have HW1 := Lib.hid (show LkW wr.drew gk gr gs go gd nr no reads n AS l.length cS l.length st from HW.out.drewN 1)
      have HBX1 := Lib.hid (show Row wr.drew w.heap.size 76 [.pointer (some ⟨gk, 0, none⟩)] from HBX.out.drewN 1)
      have HOB1 := Lib.hid (show Row wr.drew (w.heap.size + 1) 4 [.bool false] from HOB.out.drewN 1)
      have HB1 := Lib.hid (show Below base w wr.drew from below_drewN HB.out 1)
      clear HW HBX HOB HB b1 k9 b2
      rw [hd1]
      go_loopw [43] (fun v43 w2 => ∃ j : Nat, j ≤ no ∧ v43 = .int .i64 (j : Int) ∧ (∀ q, q < j → (somes st.outs)[q]? = some true) ∧ LkW w2 gk gr gs go gd nr no reads n AS l.length cS l.length st ∧ Row w2 w.heap.size 76 [.pointer (some ⟨gk, 0, none⟩)] ∧ Row w2 (w.heap.size + 1) 4 [.bool false] ∧ Below base w w2) (fun v43 _ => no - (intOf v43).toNat)
      case atStart => exact ⟨0, by omega, rfl, fun q hq => absurd hq (by omega), HW1.out, HBX1.out, HOB1.out, HB1.out⟩
      case round =>
        obtain ⟨j, hj, rfl, hall, hW, hbx, hob, hb⟩ := hrel
        clear HW1 HBX1 HOB1 HB1
        have b1 : wr.cell? ⟨w.heap.size, 0, none⟩ = some (.pointer (some ⟨gk, 0, none⟩)) := hbx.cell 0
        have k9 : wr.cell? ⟨gk, 9, none⟩ = some (.slice (some ⟨gd, 0, none⟩) no no) := hW.hk.cell 9
        have lso : (somes st.outs).length = no := by rw [somes, List.length_map, hW.ok.lo]
        have lt1 : w.heap.size + 1 < wr.heap.size := hob.lt
        have HW := Lib.hid hW
        have HBX := Lib.hid hbx
        have HOB := Lib.hid hob
        have HB := Lib.hid hb
        have HALL := Lib.hid hall
        by_cases hlt : j < no
        · have hx : ∃ x, (somes st.outs)[j]? = some x := ⟨_, List.getElem?_eq_getElem (by omega)⟩
          obtain ⟨x, hx⟩ := hx
          have cd : wr.cell? ⟨gd, j, none⟩ = some (.bool x) := by rw [hW.hd.cell, bolVs, List.getElem?_map, hx]; rfl
          have HX := Lib.hid hx
          clear hW hbx hob hb hall hx
          cases x with
          | true =>
            go_wp2_with (first | (refine (done_calls gk gd no j _ true _ b1 k9 hlt cd).mono ?_; rintro e w' ⟨rfl, rfl⟩) | (refine (need_yes _).mono ?_; rintro e w' ⟨rfl, rfl⟩))
            go_roundw
            case rel =>
              refine ⟨j + 1, by omega, by go_num, fun q hq => ?_, HW.out, HBX.out, HOB.out, HB.out⟩
              rcases Nat.lt_or_ge q j with h | h
              · exact HALL.out q h
              · obtain rfl : q = j := by omega
                exact HX.out
            case measure => simp [intOf]; omega
          | false =>
            go_wp2_with (first | (refine (done_calls gk gd no j _ false _ b1 k9 hlt cd).mono ?_; rintro e w' ⟨rfl, rfl⟩) | (refine (need_no _).mono ?_; rintro e w' ⟨rfl, rfl⟩))
            have hv2 : vAll nr no reads n l = (l.length, none) := vAll_no HV.out (fun h => somes_not HX.out h.1)
            refine door_panic rfl rfl HOB.out ?_
            rw [hv2]
            exact ⟨fun st hst => (by cases hst), fun _ => ⟨rfl, Fell.door HB.out (by omega) HW.out.hk (by omega) (by omega) _ _⟩⟩
        · obtain rfl : j = no := by omega
          have k10 : wr.cell? ⟨gk, 10, none⟩ = some (.int .u64 (st.loads : Int)) := hW.hk.cell 10
          have k3 : wr.cell? ⟨gk, 3, none⟩ = some (.int .u64 (reads : Int)) := hW.hk.cell 3
          have hso : ∀ o ∈ st.outs, o.isSome = true := somes_all hW.ok.lo hall
          have fo : wr.drew.frozen? ⟨w.heap.size + 1, 0, none⟩ = false := hob.frozen 0
          have co : wr.drew.cell? ⟨w.heap.size + 1, 0, none⟩ = some (.bool false) := hob.cell 0
          clear hW hbx hob hb hall
          go_wp2_with fail
          refine wp_panQ ⟨w.heap.size + 1, 0, none⟩ [{ target := .fn (Fn.func 63) #[.pointer (some ⟨w.heap.size + 1, 0, none⟩)], args := #[] }] (fun w' => st.loads ≠ reads ∧ Row w' gk 82 (lkV AS l.length cS nr j reads n l.length gr gs go gd st.loads) ∧ Row w' (w.heap.size + 1) 4 [.bool false] ∧ Below base w w') ?_ ?_
          · by_cases hrd : st.loads = reads
            · have r1 : ((st.loads : Int) == (reads : Int)) = true := by simp [hrd]
              have r2 : decide (st.loads = reads) = true := decide_eq_true hrd
              refine wp_region_held_drew (S := (fun x => x.cell? ⟨w.heap.size, 0, none⟩ = some (.pointer (some ⟨gk, 0, none⟩)) ∧ x.cell? ⟨gk, 10, none⟩ = some (.int .u64 (st.loads : Int)) ∧ x.cell? ⟨gk, 3, none⟩ = some (.int .u64 (reads : Int)))) (by kernel_rfl) ⟨b1, k10, k3⟩ (fun hHeld => ?_)
              refine wpAnyH_take (i := 0) (v := ?_) rfl (by kernel_rfl) (by kernel_rfl) (by kernel_rfl) (fun c a w h => PanQ.put (by decide) c a w h) (Or.inl ⟨by kernel_rfl, ?_⟩) (by assumption) ?_
              rotate_left
              · (intro w hSw; (try dsimp only at hSw); go_simp; (try with_reducible rfl))
              try simp only [List.getElem_toArray, List.getElem_cons_succ, List.getElem_cons_zero, Act.put, List.setIfInBounds_toArray, List.set_cons_zero, List.set_cons_succ]
              refine wpAnyH_take (i := 1) (v := ?_) rfl (by kernel_rfl) (by kernel_rfl) (by kernel_rfl) (fun c a w h => PanQ.put (by decide) c a w h) (Or.inl ⟨by kernel_rfl, ?_⟩) (by assumption) ?_
              rotate_left
              · (intro w hSw; (try dsimp only at hSw); go_simp; (try with_reducible rfl))
              try simp only [List.getElem_toArray, List.getElem_cons_succ, List.getElem_cons_zero, Act.put, List.setIfInBounds_toArray, List.set_cons_zero, List.set_cons_succ]
              refine wpAnyH_take (i := 2) (v := ?_) rfl (by kernel_rfl) (by kernel_rfl) (by kernel_rfl) (fun c a w h => PanQ.put (by decide) c a w h) (Or.inl ⟨by kernel_rfl, ?_⟩) (by assumption) ?_
              rotate_left
              · (intro w hSw; (try dsimp only at hSw); go_simp; (try with_reducible rfl))
              try simp only [List.getElem_toArray, List.getElem_cons_succ, List.getElem_cons_zero, Act.put, List.setIfInBounds_toArray, List.set_cons_zero, List.set_cons_succ]
              refine wpAnyH_take (i := 3) (v := ?_) rfl (by kernel_rfl) (by kernel_rfl) (by kernel_rfl) (fun c a w h => PanQ.put (by decide) c a w h) (Or.inl ⟨by kernel_rfl, ?_⟩) (by assumption) ?_
              rotate_left
              · (intro w hSw; (try dsimp only at hSw); go_simp; (try with_reducible rfl))
              try simp only [List.getElem_toArray, List.getElem_cons_succ, List.getElem_cons_zero, Act.put, List.setIfInBounds_toArray, List.set_cons_zero, List.set_cons_succ]
              refine wpAnyH_take (i := 4) (v := ?_) rfl (by kernel_rfl) (by kernel_rfl) (by kernel_rfl) (fun c a w h => PanQ.put (by decide) c a w h) (Or.inl ⟨by kernel_rfl, ?_⟩) (by assumption) ?_
              rotate_left
              · (intro w hSw; (try dsimp only at hSw); go_simp; (try with_reducible rfl))
              try simp only [List.getElem_toArray, List.getElem_cons_succ, List.getElem_cons_zero, Act.put, List.setIfInBounds_toArray, List.set_cons_zero, List.set_cons_succ]
              refine wpAnyH_take (i := 5) (v := ?_) rfl (by kernel_rfl) (by kernel_rfl) (by kernel_rfl) (fun c a w h => PanQ.put (by decide) c a w h) (Or.inl ⟨by kernel_rfl, ?_⟩) (by assumption) ?_
              rotate_left
              · (intro w hSw; (try dsimp only at hSw); go_simp; (try with_reducible rfl))
              try simp only [List.getElem_toArray, List.getElem_cons_succ, List.getElem_cons_zero, Act.put, List.setIfInBounds_toArray, List.set_cons_zero, List.set_cons_succ]
              refine wpAnyH_take (i := 6) (v := ?_) rfl (by kernel_rfl) (by kernel_rfl) (by kernel_rfl) (fun c a w h => PanQ.put (by decide) c a w h) (Or.inl ⟨by kernel_rfl, ?_⟩) (by assumption) ?_
              rotate_left
              · (intro w hSw; (try dsimp only at hSw); go_simp; (try with_reducible rfl))
              try simp only [List.getElem_toArray, List.getElem_cons_succ, List.getElem_cons_zero, Act.put, List.setIfInBounds_toArray, List.set_cons_zero, List.set_cons_succ]
              refine wpAnyH_take (i := 7) (v := ?_) rfl (by kernel_rfl) (by kernel_rfl) (by kernel_rfl) (fun c a w h => PanQ.put (by decide) c a w h) (Or.inl ⟨by kernel_rfl, ?_⟩) (by assumption) ?_
              rotate_left
              · (intro w hSw; (try dsimp only at hSw); go_simp; (try with_reducible rfl))
              try simp only [List.getElem_toArray, List.getElem_cons_succ, List.getElem_cons_zero, Act.put, List.setIfInBounds_toArray, List.set_cons_zero, List.set_cons_succ]
              refine wpAnyH_take (i := 8) (v := ?_) rfl (by kernel_rfl) (by kernel_rfl) (by kernel_rfl) (fun c a w h => PanQ.put (by decide) c a w h) (Or.inl ⟨by kernel_rfl, ?_⟩) (by assumption) ?_
              rotate_left
              · (intro w hSw; (try dsimp only at hSw); go_simp; (try with_reducible rfl))
              try simp only [List.getElem_toArray, List.getElem_cons_succ, List.getElem_cons_zero, Act.put, List.setIfInBounds_toArray, List.set_cons_zero, List.set_cons_succ]
              refine wpAnyH_take (i := 9) (v := ?_) rfl (by kernel_rfl) (by kernel_rfl) (by kernel_rfl) (fun c a w h => PanQ.put (by decide) c a w h) (Or.inl ⟨by kernel_rfl, ?_⟩) (by assumption) ?_
              rotate_left
              · (intro w hSw; (try dsimp only at hSw); go_simp; (try with_reducible rfl))
              try simp only [List.getElem_toArray, List.getElem_cons_succ, List.getElem_cons_zero, Act.put, List.setIfInBounds_toArray, List.set_cons_zero, List.set_cons_succ]
              refine wpAnyH_ready (rs := [10]) (by kernel_rfl) (by simp) ?_
              refine AllReadyH.cons rfl (fun K hK => ?_) AllReadyH.nil
              go_simp
              refine (need_yes _).mono ?_
              rintro e w' ⟨rfl, hw'⟩
              rw [hw']
              clear hw' w'
              refine hK.out _ _ hHeld (fun hHeld => ?_)
              clear hK K
              try simp only [List.getElem_toArray, List.getElem_cons_succ, List.getElem_cons_zero, Act.put, List.setIfInBounds_toArray, List.set_cons_zero, List.set_cons_succ]
              refine wpAnyH_done (by kernel_rfl) ?_ _
              simp only [PanQ]
              go_wp2_with fail
              have hv2 : vAll nr j reads n l = (l.length, some st) := vAll_yes HV.out ⟨hso, hrd⟩
              refine door_ret rfl rfl ((HOB.out.set 0 (.bool true)).drewN 1) ?_
              rw [hv2]
              refine ⟨fun st2 hst => ?_, fun h => (by cases h)⟩
              injection hst with hst
              subst hst
              exact ⟨rfl, below_drewN (HB.out.setCell (by simp; omega) _) 1, (HW.out.far (by omega) (by omega) (by omega) (by omega) (by omega) _).drewN 1⟩
            · have r1 : ((st.loads : Int) == (reads : Int)) = false := by simp; omega
              have r2 : decide (st.loads = reads) = false := decide_eq_false hrd
              refine wp_region_held_drew (S := (fun x => x.cell? ⟨w.heap.size, 0, none⟩ = some (.pointer (some ⟨gk, 0, none⟩)) ∧ x.cell? ⟨gk, 10, none⟩ = some (.int .u64 (st.loads : Int)) ∧ x.cell? ⟨gk, 3, none⟩ = some (.int .u64 (reads : Int)))) (by kernel_rfl) ⟨b1, k10, k3⟩ (fun hHeld => ?_)
              refine wpAnyH_take (i := 0) (v := ?_) rfl (by kernel_rfl) (by kernel_rfl) (by kernel_rfl) (fun c a w h => PanQ.put (by decide) c a w h) (Or.inl ⟨by kernel_rfl, ?_⟩) (by assumption) ?_
              rotate_left
              · (intro w hSw; (try dsimp only at hSw); go_simp; (try with_reducible rfl))
              try simp only [List.getElem_toArray, List.getElem_cons_succ, List.getElem_cons_zero, Act.put, List.setIfInBounds_toArray, List.set_cons_zero, List.set_cons_succ]
              refine wpAnyH_take (i := 1) (v := ?_) rfl (by kernel_rfl) (by kernel_rfl) (by kernel_rfl) (fun c a w h => PanQ.put (by decide) c a w h) (Or.inl ⟨by kernel_rfl, ?_⟩) (by assumption) ?_
              rotate_left
              · (intro w hSw; (try dsimp only at hSw); go_simp; (try with_reducible rfl))
              try simp only [List.getElem_toArray, List.getElem_cons_succ, List.getElem_cons_zero, Act.put, List.setIfInBounds_toArray, List.set_cons_zero, List.set_cons_succ]
              refine wpAnyH_take (i := 2) (v := ?_) rfl (by kernel_rfl) (by kernel_rfl) (by kernel_rfl) (fun c a w h => PanQ.put (by decide) c a w h) (Or.inl ⟨by kernel_rfl, ?_⟩) (by assumption) ?_
              rotate_left
              · (intro w hSw; (try dsimp only at hSw); go_simp; (try with_reducible rfl))
              try simp only [List.getElem_toArray, List.getElem_cons_succ, List.getElem_cons_zero, Act.put, List.setIfInBounds_toArray, List.set_cons_zero, List.set_cons_succ]
              refine wpAnyH_take (i := 3) (v := ?_) rfl (by kernel_rfl) (by kernel_rfl) (by kernel_rfl) (fun c a w h => PanQ.put (by decide) c a w h) (Or.inl ⟨by kernel_rfl, ?_⟩) (by assumption) ?_
              rotate_left
              · (intro w hSw; (try dsimp only at hSw); go_simp; (try with_reducible rfl))
              try simp only [List.getElem_toArray, List.getElem_cons_succ, List.getElem_cons_zero, Act.put, List.setIfInBounds_toArray, List.set_cons_zero, List.set_cons_succ]
              refine wpAnyH_take (i := 4) (v := ?_) rfl (by kernel_rfl) (by kernel_rfl) (by kernel_rfl) (fun c a w h => PanQ.put (by decide) c a w h) (Or.inl ⟨by kernel_rfl, ?_⟩) (by assumption) ?_
              rotate_left
              · (intro w hSw; (try dsimp only at hSw); go_simp; (try with_reducible rfl))
              try simp only [List.getElem_toArray, List.getElem_cons_succ, List.getElem_cons_zero, Act.put, List.setIfInBounds_toArray, List.set_cons_zero, List.set_cons_succ]
              refine wpAnyH_take (i := 5) (v := ?_) rfl (by kernel_rfl) (by kernel_rfl) (by kernel_rfl) (fun c a w h => PanQ.put (by decide) c a w h) (Or.inl ⟨by kernel_rfl, ?_⟩) (by assumption) ?_
              rotate_left
              · (intro w hSw; (try dsimp only at hSw); go_simp; (try with_reducible rfl))
              try simp only [List.getElem_toArray, List.getElem_cons_succ, List.getElem_cons_zero, Act.put, List.setIfInBounds_toArray, List.set_cons_zero, List.set_cons_succ]
              refine wpAnyH_take (i := 6) (v := ?_) rfl (by kernel_rfl) (by kernel_rfl) (by kernel_rfl) (fun c a w h => PanQ.put (by decide) c a w h) (Or.inl ⟨by kernel_rfl, ?_⟩) (by assumption) ?_
              rotate_left
              · (intro w hSw; (try dsimp only at hSw); go_simp; (try with_reducible rfl))
              try simp only [List.getElem_toArray, List.getElem_cons_succ, List.getElem_cons_zero, Act.put, List.setIfInBounds_toArray, List.set_cons_zero, List.set_cons_succ]
              refine wpAnyH_take (i := 7) (v := ?_) rfl (by kernel_rfl) (by kernel_rfl) (by kernel_rfl) (fun c a w h => PanQ.put (by decide) c a w h) (Or.inl ⟨by kernel_rfl, ?_⟩) (by assumption) ?_
              rotate_left
              · (intro w hSw; (try dsimp only at hSw); go_simp; (try with_reducible rfl))
              try simp only [List.getElem_toArray, List.getElem_cons_succ, List.getElem_cons_zero, Act.put, List.setIfInBounds_toArray, List.set_cons_zero, List.set_cons_succ]
              refine wpAnyH_take (i := 8) (v := ?_) rfl (by kernel_rfl) (by kernel_rfl) (by kernel_rfl) (fun c a w h => PanQ.put (by decide) c a w h) (Or.inl ⟨by kernel_rfl, ?_⟩) (by assumption) ?_
              rotate_left
              · (intro w hSw; (try dsimp only at hSw); go_simp; (try with_reducible rfl))
              try simp only [List.getElem_toArray, List.getElem_cons_succ, List.getElem_cons_zero, Act.put, List.setIfInBounds_toArray, List.set_cons_zero, List.set_cons_succ]
              refine wpAnyH_take (i := 9) (v := ?_) rfl (by kernel_rfl) (by kernel_rfl) (by kernel_rfl) (fun c a w h => PanQ.put (by decide) c a w h) (Or.inl ⟨by kernel_rfl, ?_⟩) (by assumption) ?_
              rotate_left
              · (intro w hSw; (try dsimp only at hSw); go_simp; (try with_reducible rfl))
              try simp only [List.getElem_toArray, List.getElem_cons_succ, List.getElem_cons_zero, Act.put, List.setIfInBounds_toArray, List.set_cons_zero, List.set_cons_succ]
              refine wpAnyH_ready (rs := [10]) (by kernel_rfl) (by simp) ?_
              refine AllReadyH.cons rfl (fun K hK => ?_) AllReadyH.nil
              go_simp
              refine (need_no _).mono ?_
              rintro e w' ⟨rfl, hw'⟩
              rw [hw']
              exact ⟨rfl, rfl, rfl, HW.out.hk.drewN 1, HOB.out.drewN 1, below_drewN HB.out 1⟩
          · intro a w4 ha hd h4
            have hv2 : vAll nr j reads n l = (l.length, none) := vAll_no HV.out (fun h => h4.1 h.2)
            refine door_panic ha hd h4.2.2.1 ?_
            rw [hv2]
            exact ⟨fun st hst => (by cases hst), fun _ => ⟨rfl, Fell.door h4.2.2.2 (by have := h4.2.2.1.lt; omega) h4.2.1 (by omega) (by omega) _ _⟩⟩
end Go.Proofs.Ythbjcafldbocpaa
namespace Go.Proofs.Ythbjcafldbocpaa
open Go.RowKit
set_option linter.unusedVariables false
set_option linter.unusedSimpArgs false
set_option maxRecDepth 100000 in
set_option maxHeartbeats 4000000 in
theorem write_no (AS : Option Addr) (nS cS : Nat) (regs outs reads : Int) (w : World)
    (hmay : ∀ w1, Below w.heap.size w w1 → Calls Try.prog 59 #[.agg #[.slice AS nS cS, .int .i64 regs, .int .i64 outs, .int .u64 reads]] w1 fun e w' => e = .returned (.bool false) ∧ Below w1.heap.size w1 w') :
    Calls Try.prog 48 #[.agg #[.slice AS nS cS, .int .i64 regs, .int .i64 outs, .int .u64 reads]] w fun e w' => e = .returned (.tuple #[.slice none 0 0, .int .i64 2]) ∧ Below w.heap.size w w' := by
  go_enter Try.func48, Try.ntmps48
  go_wp2_with fail
  have q : Below w.heap.size w (w.alloc (.cells #[.slice AS nS cS, .int .i64 regs, .int .i64 outs, .int .u64 reads] 26)) := (Below.refl _ _).alloc (Nat.le_refl _) _
  refine (hmay _ q).mono ?_
  rintro e w1 ⟨rfl, hb⟩
  go_wp2_with fail
  go_ret2
  exact ⟨rfl, q.trans (hb.mono (by simp))⟩
structure WB (W w0 : World) (gb base : Nat) (ps : List Value) (v : Value) (xs : List UInt8) : Prop where
  hb : Row W gb 35 [v]
  ho : OwnV W base v xs
  lt : gb < base
  ltp : w0.heap.size < gb
  hB : base ≤ W.heap.size
  hp : Row W w0.heap.size 26 ps
  low : Below w0.heap.size w0 W
theorem WB.step {W W' w0 : World} {gb base : Nat} {ps : List Value} {v v' : Value} {xs xs' : List UInt8} (h : WB W w0 gb base ps v xs) (c : Chg3 base gb gb gb W W') (hb : Row W' gb 35 [v']) (ho : OwnV W' base v' xs') : WB W' w0 gb base ps v' xs' := by
  have h1 := h.lt
  have h2 := h.ltp
  exact ⟨hb, ho, h.lt, h.ltp, Nat.le_trans h.hB c.size, c.row h.hp (by omega) (by omega) (by omega) (by omega), h.low.trans (c.low (B := base) (by omega) (by omega) (by omega) (by omega))⟩
theorem WB.drewN {W w0 : World} {gb base : Nat} {ps : List Value} {v : Value} {xs : List UInt8} (h : WB W w0 gb base ps v xs) (k : Nat) : WB (W.drewN k) w0 gb base ps v xs :=
  ⟨h.hb.drewN k, h.ho.drewN k, h.lt, h.ltp, h.hB, h.hp.drewN k, below_drewN h.low k⟩
theorem WB.alloc {W w0 : World} {gb base : Nat} {ps : List Value} {v : Value} {xs : List UInt8} (h : WB W w0 gb base ps v xs) (o : Obj) : WB (W.alloc o) w0 gb base ps v xs :=
  h.step (Chg3.of_below ((Below.refl base W).alloc h.hB o)) (h.hb.alloc o) (h.ho.below ((Below.refl _ W).alloc (Nat.le_refl _) o))
theorem WB.put {W W' w0 : World} {gb base : Nat} {ps : List Value} {v v' : Value} {xs xs' : List UInt8} (h : WB W w0 gb base ps v xs) (hb : Below base W W') (ho : OwnV W' base v' xs') : WB (W'.setCell ⟨gb, 0, none⟩ v') w0 gb base ps v' xs' :=
  h.step ((Chg3.of_below hb).set (g := gb) (.inl rfl) 0 v') ((h.hb.below hb h.lt).set 0 v') (ho.set_far h.lt v')
theorem byte_wrap (z : Int) : ∃ y : UInt8, IntKind.u8.wrap z = (y.toNat : Int) := by
  refine ⟨UInt8.ofNat (z % 256).toNat, ?_⟩
  rw [UInt8.toNat_ofNat', IntKind.wrap_u8]
  omega
theorem rd_one (w : World) (y : UInt8) : Rd (w.alloc (.cells #[.int .u8 (y.toNat : Int)] 5)) (w.alloc (.cells #[.int .u8 (y.toNat : Int)] 5)).heap.size (some ⟨w.heap.size, 0, none⟩) 1 (bVs [y]) := by
  have hrow := Row.new w [.int .u8 (y.toNat : Int)] 5
  refine ⟨rfl, fun _ => ⟨w.heap.size, 0, rfl, hrow.lt, fun j u hu => ?_⟩⟩
  rw [hrow.cell]
  rw [← hu, Nat.zero_add]
  rfl
def Ints3 (w w' : World) (A : Option Addr) (m : Nat) : Prop := m ≤ 3 ∧ (0 < m → ∃ g, A = some ⟨g, 0, none⟩ ∧ w.heap.size ≤ g ∧ g < w'.heap.size ∧ ∀ j, j < m → ∃ z : Int, w'.cell? ⟨g, j, none⟩ = some (.int .i64 z))
theorem write1_wb {W w0 : World} {gb base n : Nat} {ps : List Value} {v : Value} {xs : List UInt8} (h : WB W w0 gb base ps v xs) (hn : n < 2097152) (hl : xs.length ≤ 1000000) :
    Calls Try.prog 60 #[.int .i64 (n : Int), .pointer (some ⟨gb, 0, none⟩)] W fun e W' => ∃ v' xs', e = .returned (.tuple #[]) ∧ WB W' w0 gb base ps v' xs' ∧ xs'.length ≤ xs.length + 4 := by
  refine (write1_calls n base gb v xs hn W h.hb h.ho h.lt h.hB hl).mono ?_
  rintro e W' ⟨v', xs', rfl, h1, h2, h3, h4⟩
  exact ⟨v', xs', rfl, h.step h4 h1 h2, h3⟩
set_option maxRecDepth 100000 in
set_option maxHeartbeats 4000000 in
theorem write_yes (AS : Option Addr) (l : List PS) (cS regs outs reads : Nat) (w : World) (hl : StepsAt w w.heap.size AS l) (hr : regs ≤ 256) (ho : outs ≤ 64) (hlen : l.length ≤ 65536)
    (hmay : ∀ w1, Below w.heap.size w w1 → Calls Try.prog 59 #[.agg #[.slice AS l.length cS, .int .i64 (regs : Int), .int .i64 (outs : Int), .int .u64 (reads : Int)]] w1 fun e w' => e = .returned (.bool true) ∧ Below w1.heap.size w1 w')
    (hrange : ∀ s ∈ l, s.k < 256)
    (hall : ∀ s ∈ l, ∀ w1, Calls Try.prog 62 #[.agg #[.int .u8 (s.k : Int), .int .i64 (s.D : Int), .int .i64 (s.S : Int), .int .u8 (s.C.toNat : Int)]] w1 fun e w' => ∃ A m c, e = .returned (.slice A m c) ∧ Ints3 w1 w' A m ∧ Below w1.heap.size w1 w') :
    Calls Try.prog 48 #[.agg #[.slice AS l.length cS, .int .i64 (regs : Int), .int .i64 (outs : Int), .int .u64 (reads : Int)]] w fun e w' => ∃ v, e = .returned (.tuple #[v, .int .i64 0]) ∧ Below w.heap.size w w' := by
  have hmf : ∀ (fn : Fn) (first cap : Array Value) (w : World), (Instr.makeFunc fn first cap).run Try.prog w = .ok (.func fn first cap) w := fun _ _ _ _ => rfl
  go_enter Try.func48, Try.ntmps48
  go_wp2_with fail
  have q : Below w.heap.size w (w.alloc (.cells #[.slice AS l.length cS, .int .i64 (regs : Int), .int .i64 (outs : Int), .int .u64 (reads : Int)] 26)) := (Below.refl _ _).alloc (Nat.le_refl _) _
  have hp0 := Row.new w [.slice AS l.length cS, .int .i64 (regs : Int), .int .i64 (outs : Int), .int .u64 (reads : Int)] 26
  refine (hmay _ q).mono ?_
  rintro e w1 ⟨rfl, hb⟩
  have hp1 := hp0.below hb hp0.lt
  have q1 : Below w.heap.size w w1 := q.trans (hb.mono (by simp))
  have h0 : WB (w1.alloc (.cells #[.slice none 0 0] 35)) w w1.heap.size (w1.heap.size + 1) [.slice AS l.length cS, .int .i64 (regs : Int), .int .i64 (outs : Int), .int .u64 (reads : Int)] (.slice none 0 0) [] :=
    ⟨Row.new w1 _ _, OwnV.nil _ _, by omega, by have := hp1.lt; omega, by simp, hp1.alloc _, q1.alloc q1.size _⟩
  have i4 : (0 : Int) ≤ (l.length : Int) := by omega
  have p1 : (w1.alloc (.cells #[.slice none 0 0] 35)).cell? ⟨w.heap.size, 1, none⟩ = some (.int .i64 (regs : Int)) := h0.hp.cell 1
  have H0 := Lib.hid h0
  clear h0 hp1 hp0
  go_wp2_with fail
  refine (write1_wb H0.out (n := regs) (by omega) (by simp)).mono ?_
  rintro e wa ⟨va, xa, rfl, ha, la⟩
  have p2 : wa.cell? ⟨w.heap.size, 2, none⟩ = some (.int .i64 (outs : Int)) := ha.hp.cell 2
  have HA := Lib.hid ha
  clear ha p1
  go_wp2_with fail
  refine (write1_wb HA.out (n := outs) (by omega) (by simp at la; omega)).mono ?_
  rintro e wb ⟨vb, xb, rfl, hb2, lb⟩
  have HB := Lib.hid hb2
  have LB := Lib.hid (show xb.length ≤ 8 by simp at la; omega)
  clear hb2 p2 la lb HA H0
  go_wp2_with fail
  go_loopw [6] (fun v6 wr => ∃ (i : Int) (v : Value) (xs : List UInt8), -1 ≤ i ∧ i ≤ 7 ∧ v6 = .int .i64 i ∧ WB wr w w1.heap.size (w1.heap.size + 1) [.slice AS l.length cS, .int .i64 (regs : Int), .int .i64 (outs : Int), .int .u64 (reads : Int)] v xs ∧ (xs.length : Int) + i ≤ 15) (fun v6 _ => (intOf v6 + 1).toNat)
  case atStart => exact ⟨7, vb, xb, by omega, by omega, rfl, HB.out, by have := LB.out; omega⟩
  case round =>
    obtain ⟨i, v, xs, hi0, hi7, rfl, hW, hlx⟩ := hrel
    clear HB LB
    have HW := Lib.hid hW
    by_cases hi : 0 ≤ i
    · obtain ⟨j, rfl⟩ : ∃ j : Nat, i = (j : Int) := ⟨i.toNat, by omega⟩
      have hd : decide (0 ≤ (j : Int)) = true := decide_eq_true hi
      have b0 : wr.cell? ⟨w1.heap.size, 0, none⟩ = some v := hW.hb.cell 0
      have p3 : wr.cell? ⟨w.heap.size, 3, none⟩ = some (.int .u64 (reads : Int)) := hW.hp.cell 3
      have lj : j ≤ 7 := by omega
      obtain ⟨s, hs⟩ : ∃ s : Nat, s = 8 * j := ⟨_, rfl⟩
      have e8 : IntKind.i64.wrap (8 * (j : Int)) = (s : Int) := by rw [IntKind.wrap_i64]; omega
      have ls : s ≤ 56 := by omega
      obtain ⟨y, hy⟩ := byte_wrap ((reads : Int) / 2 ^ (8 * (j : Int)).toNat)
      have hxl : xs.length + j ≤ 15 := by omega
      clear hW
      go_wp2_with fail
      refine wp_region_held_drew (S := (fun x => x.cell? ⟨w.heap.size, 3, none⟩ = some (.int .u64 (reads : Int)))) (by kernel_rfl) p3 (fun hHeld => ?_)
      refine wpAnyH_take (i := 1) (v := ?_) rfl (by kernel_rfl) (by kernel_rfl) (by kernel_rfl) (fun _ _ _ h => h) (Or.inl ⟨by kernel_rfl, ?_⟩) (by assumption) ?_
      rotate_left
      · (intro w hSw; (try dsimp only at hSw); go_simp; (try with_reducible rfl))
      try simp only [List.getElem_toArray, List.getElem_cons_succ, List.getElem_cons_zero, Act.put, List.setIfInBounds_toArray, List.set_cons_zero, List.set_cons_succ]
      refine wpAnyH_take (i := 2) (v := ?_) rfl (by kernel_rfl) (by kernel_rfl) (by kernel_rfl) (fun _ _ _ h => h) (Or.inl ⟨by kernel_rfl, ?_⟩) (by assumption) ?_
      rotate_left
      · (intro w hSw; (try dsimp only at hSw); go_simp; (try with_reducible rfl))
      try simp only [List.getElem_toArray, List.getElem_cons_succ, List.getElem_cons_zero, Act.put, List.setIfInBounds_toArray, List.set_cons_zero, List.set_cons_succ]
      refine wpAnyH_take (i := 3) (v := ?_) rfl (by kernel_rfl) (by kernel_rfl) (by kernel_rfl) (fun _ _ _ h => h) (Or.inl ⟨by kernel_rfl, ?_⟩) (by assumption) ?_
      rotate_left
      · (intro w hSw; (try dsimp only at hSw); go_simp; (try with_reducible rfl))
      try simp only [List.getElem_toArray, List.getElem_cons_succ, List.getElem_cons_zero, Act.put, List.setIfInBounds_toArray, List.set_cons_zero, List.set_cons_succ]
      refine wpAnyH_take (i := 4) (v := ?_) rfl (by kernel_rfl) (by kernel_rfl) (by kernel_rfl) (fun _ _ _ h => h) (Or.inl ⟨by kernel_rfl, ?_⟩) (by assumption) ?_
      rotate_left
      · (intro w hSw; (try dsimp only at hSw); go_simp; (try with_reducible rfl))
      try simp only [List.getElem_toArray, List.getElem_cons_succ, List.getElem_cons_zero, Act.put, List.setIfInBounds_toArray, List.set_cons_zero, List.set_cons_succ]
      refine wpAnyH_take (i := 5) (v := ?_) rfl (by kernel_rfl) (by kernel_rfl) (by kernel_rfl) (fun _ _ _ h => h) (Or.inl ⟨by kernel_rfl, ?_⟩) (by assumption) ?_
      rotate_left
      · (intro w hSw; (try dsimp only at hSw); go_simp; (try with_reducible rfl))
      try simp only [List.getElem_toArray, List.getElem_cons_succ, List.getElem_cons_zero, Act.put, List.setIfInBounds_toArray, List.set_cons_zero, List.set_cons_succ]
      refine wpAnyH_take (i := 6) (v := ?_) rfl (by kernel_rfl) (by kernel_rfl) (by kernel_rfl) (fun _ _ _ h => h) (Or.inl ⟨by kernel_rfl, ?_⟩) (by assumption) ?_
      rotate_left
      · (intro w hSw; (try dsimp only at hSw); go_simp; (try with_reducible rfl))
      try simp only [List.getElem_toArray, List.getElem_cons_succ, List.getElem_cons_zero, Act.put, List.setIfInBounds_toArray, List.set_cons_zero, List.set_cons_succ]
      refine wpAnyH_ready (rs := [0, 7]) (by kernel_rfl) (by simp) ?_
      refine AllReadyH.cons rfl (fun K hK => ?_) (AllReadyH.cons rfl (fun K hK => ?_) AllReadyH.nil)
      · go_simp
        refine hK.out _ _ hHeld (fun hHeld => ?_)
        clear hK K
        try simp only [List.getElem_toArray, List.getElem_cons_succ, List.getElem_cons_zero, Act.put, List.setIfInBounds_toArray, List.set_cons_zero, List.set_cons_succ]
        refine wpAnyH_ready (rs := [7]) (by kernel_rfl) (by simp) ?_
        refine AllReadyH.cons rfl (fun K hK => ?_) AllReadyH.nil
        go_simp
        have hA := (HW.out.alloc (.cells #[.int .u8 (y.toNat : Int)] 5)).drewN 1
        have hcl : (wr.alloc (.cells #[.int .u8 (y.toNat : Int)] 5)).cell? ⟨wr.heap.size, 0, none⟩ = some (.int .u8 (y.toNat : Int)) := (Row.new wr [.int .u8 (y.toNat : Int)] 5).cell 0
        obtain ⟨W2, hW2⟩ : ∃ W2, W2 = (wr.alloc (.cells #[.int .u8 (y.toNat : Int)] 5)).drew := ⟨_, rfl⟩
        have hcl2 : W2.cell? ⟨wr.heap.size, 0, none⟩ = some (.int .u8 (y.toNat : Int)) := by rw [hW2]; exact hcl
        have hA2 : WB W2 w w1.heap.size (w1.heap.size + 1) [.slice AS l.length cS, .int .i64 (regs : Int), .int .i64 (outs : Int), .int .u64 (reads : Int)] v xs := by rw [hW2]; exact hA
        rw [← hW2]
        clear hW2 hA hcl
        refine hK.out _ _ (hA2.hp.cell 3) (fun hHeld => ?_)
        clear hK K
        try simp only [List.getElem_toArray, List.getElem_cons_succ, List.getElem_cons_zero, Act.put, List.setIfInBounds_toArray, List.set_cons_zero, List.set_cons_succ]
        refine wpAnyH_ready (rs := [8]) (by kernel_rfl) (by simp) ?_
        refine AllReadyH.cons rfl (fun K hK => ?_) AllReadyH.nil
        refine step_append_byte (.tmp 27) (.tmp 34) rfl rfl (w1.heap.size + 1) wr.heap.size v xs y rfl hA2.ho rfl hcl2 (by omega) hA2.hB ?_
        intro v2 w4 ho4 hb4 hg4
        obtain ⟨A4, cap4, rfl, hox4⟩ := ho4.slice
        generalize hm4 : (xs ++ [y]).length = m4 at *
        have HM4 := Lib.hid hm4
        clear hm4
        have c4 : w4.cell? ⟨w1.heap.size, 0, none⟩ = some v := (hA2.hb.below hb4 hA2.lt).cell 0
        have f4 : w4.frozen? ⟨w1.heap.size, 0, none⟩ = false := (hA2.hb.below hb4 hA2.lt).frozen 0
        have p4 : w4.cell? ⟨w.heap.size, 3, none⟩ = some (.int .u64 (reads : Int)) := (hA2.hp.below hb4 (by have := hA2.ltp; omega)).cell 3
        have HF := Lib.hid (hA2.put hb4 ho4)
        clear hcl2 hA2 hg4 hox4 ho4 hb4
        refine hK.out _ _ p4 (fun hHeld => ?_)
        clear hK K
        try simp only [List.getElem_toArray, List.getElem_cons_succ, List.getElem_cons_zero, Act.put, List.setIfInBounds_toArray, List.set_cons_zero, List.set_cons_succ]
        refine wpAnyH_ready (rs := [9]) (by kernel_rfl) (by simp) ?_
        refine AllReadyH.cons rfl (fun K hK => ?_) AllReadyH.nil
        go_simp
        refine hK.out _ _ (HF.out.hp.cell 3) (fun hHeld => ?_)
        clear hK K
        try simp only [List.getElem_toArray, List.getElem_cons_succ, List.getElem_cons_zero, Act.put, List.setIfInBounds_toArray, List.set_cons_zero, List.set_cons_succ]
        refine wpAnyH_done (by kernel_rfl) ?_ _
        go_wp2_with fail
        go_roundw
        case rel => exact ⟨(j : Int) - 1, _, _, by omega, by omega, by go_num, HF.out, by rw [List.length_append, List.length_singleton]; omega⟩
        case measure => simp [intOf] <;> omega
      · go_simp
        have hA := (HW.out.alloc (.cells #[.int .u8 (y.toNat : Int)] 5)).drewN 1
        have hcl : (wr.alloc (.cells #[.int .u8 (y.toNat : Int)] 5)).cell? ⟨wr.heap.size, 0, none⟩ = some (.int .u8 (y.toNat : Int)) := (Row.new wr [.int .u8 (y.toNat : Int)] 5).cell 0
        obtain ⟨W2, hW2⟩ : ∃ W2, W2 = (wr.alloc (.cells #[.int .u8 (y.toNat : Int)] 5)).drew := ⟨_, rfl⟩
        have hcl2 : W2.cell? ⟨wr.heap.size, 0, none⟩ = some (.int .u8 (y.toNat : Int)) := by rw [hW2]; exact hcl
        have hA2 : WB W2 w w1.heap.size (w1.heap.size + 1) [.slice AS l.length cS, .int .i64 (regs : Int), .int .i64 (outs : Int), .int .u64 (reads : Int)] v xs := by rw [hW2]; exact hA
        rw [← hW2]
        clear hW2 hA hcl
        have b2 : W2.cell? ⟨w1.heap.size, 0, none⟩ = some v := hA2.hb.cell 0
        refine hK.out _ _ (hA2.hp.cell 3) (fun hHeld => ?_)
        clear hK K
        try simp only [List.getElem_toArray, List.getElem_cons_succ, List.getElem_cons_zero, Act.put, List.setIfInBounds_toArray, List.set_cons_zero, List.set_cons_succ]
        refine wpAnyH_ready (rs := [0]) (by kernel_rfl) (by simp) ?_
        refine AllReadyH.cons rfl (fun K hK => ?_) AllReadyH.nil
        go_simp
        refine hK.out _ _ hHeld (fun hHeld => ?_)
        clear hK K
        try simp only [List.getElem_toArray, List.getElem_cons_succ, List.getElem_cons_zero, Act.put, List.setIfInBounds_toArray, List.set_cons_zero, List.set_cons_succ]
        refine wpAnyH_ready (rs := [8]) (by kernel_rfl) (by simp) ?_
        refine AllReadyH.cons rfl (fun K hK => ?_) AllReadyH.nil
        refine step_append_byte (.tmp 27) (.tmp 34) rfl rfl (w1.heap.size + 1) wr.heap.size v xs y rfl hA2.ho rfl hcl2 (by omega) hA2.hB ?_
        intro v2 w4 ho4 hb4 hg4
        obtain ⟨A4, cap4, rfl, hox4⟩ := ho4.slice
        generalize hm4 : (xs ++ [y]).length = m4 at *
        have HM4 := Lib.hid hm4
        clear hm4
        have c4 : w4.cell? ⟨w1.heap.size, 0, none⟩ = some v := (hA2.hb.below hb4 hA2.lt).cell 0
        have f4 : w4.frozen? ⟨w1.heap.size, 0, none⟩ = false := (hA2.hb.below hb4 hA2.lt).frozen 0
        have p4 : w4.cell? ⟨w.heap.size, 3, none⟩ = some (.int .u64 (reads : Int)) := (hA2.hp.below hb4 (by have := hA2.ltp; omega)).cell 3
        have HF := Lib.hid (hA2.put hb4 ho4)
        clear hcl2 hA2 hg4 hox4 ho4 hb4
        refine hK.out _ _ p4 (fun hHeld => ?_)
        clear hK K
        try simp only [List.getElem_toArray, List.getElem_cons_succ, List.getElem_cons_zero, Act.put, List.setIfInBounds_toArray, List.set_cons_zero, List.set_cons_succ]
        refine wpAnyH_ready (rs := [9]) (by kernel_rfl) (by simp) ?_
        refine AllReadyH.cons rfl (fun K hK => ?_) AllReadyH.nil
        go_simp
        refine hK.out _ _ (HF.out.hp.cell 3) (fun hHeld => ?_)
        clear hK K
        try simp only [List.getElem_toArray, List.getElem_cons_succ, List.getElem_cons_zero, Act.put, List.setIfInBounds_toArray, List.set_cons_zero, List.set_cons_succ]
        refine wpAnyH_done (by kernel_rfl) ?_ _
        go_wp2_with fail
        go_roundw
        case rel => exact ⟨(j : Int) - 1, _, _, by omega, by omega, by go_num, HF.out, by rw [List.length_append, List.length_singleton]; omega⟩
        case measure => simp [intOf] <;> omega
    · obtain rfl : i = -1 := by omega
      have p0 : wr.cell? ⟨w.heap.size, 0, none⟩ = some (.slice AS l.length cS) := hW.hp.cell 0
      clear hW
      go_wp2_with fail
      refine (write1_wb HW.out (n := l.length) (by omega) (by omega)).mono ?_
      rintro e wc ⟨vc, xc, rfl, hc, lc⟩
      have p0 : wc.cell? ⟨w.heap.size, 0, none⟩ = some (.slice AS l.length cS) := hc.hp.cell 0
      have HC := Lib.hid hc
      have LC := Lib.hid (show xc.length ≤ 20 by omega)
      clear hc lc HW
      go_wp2_with fail
      go_loopw [44] (fun v44 wr => ∃ (i : Nat) (v : Value) (xs : List UInt8), i ≤ l.length ∧ v44 = .int .i64 (i : Int) ∧ WB wr w w1.heap.size (w1.heap.size + 1) [.slice AS l.length cS, .int .i64 (regs : Int), .int .i64 (outs : Int), .int .u64 (reads : Int)] v xs ∧ xs.length ≤ 20 + 4 * i) (fun v44 _ => l.length - (intOf v44).toNat)
      case atStart => exact ⟨0, vc, xc, by omega, rfl, HC.out, LC.out⟩
      case round =>
        obtain ⟨i, v, xs, hi, rfl, hW, hlx⟩ := hrel
        clear HC LC
        have HW := Lib.hid hW
        by_cases hlt : i < l.length
        · obtain ⟨g, o, rfl, hg, hcs⟩ := (hl.below hW.low) (by omega)
          obtain ⟨s, hs⟩ : ∃ s, l[i]? = some s := ⟨l[i], List.getElem?_eq_getElem hlt⟩
          obtain ⟨s0, s1, s2, s3⟩ := hcs i s hs
          have hsl : s ∈ l := List.mem_of_getElem? hs
          obtain ⟨y, hy⟩ := byte_at (m := s.k) (hrange s hsl)
          have hal := hall s hsl
          rw [hy] at s0 hal
          have HALL := Lib.hid hal
          have i0 : (0 : Int) ≤ (i : Int) := by omega
          have i1 : (i : Int) < (l.length : Int) := by omega
          have hST := Row.new wr [.int .u8 (y.toNat : Int), .int .i64 (s.D : Int), .int .i64 (s.S : Int), .int .u8 (s.C.toNat : Int)] 59
          have hA := hW.alloc (.cells #[.int .u8 (y.toNat : Int), .int .i64 (s.D : Int), .int .i64 (s.S : Int), .int .u8 (s.C.toNat : Int)] 59)
          have b0 : (wr.alloc (.cells #[.int .u8 (y.toNat : Int), .int .i64 (s.D : Int), .int .i64 (s.S : Int), .int .u8 (s.C.toNat : Int)] 59)).cell? ⟨w1.heap.size, 0, none⟩ = some v := hA.hb.cell 0
          have t0 : (wr.alloc (.cells #[.int .u8 (y.toNat : Int), .int .i64 (s.D : Int), .int .i64 (s.S : Int), .int .u8 (s.C.toNat : Int)] 59)).cell? ⟨wr.heap.size, 0, none⟩ = some (.int .u8 (y.toNat : Int)) := hST.cell 0
          have HA := Lib.hid hA
          have HST := Lib.hid hST
          have hvo : v.ownBlock ≠ some wr.heap.size := fun e => by have := (World.ownsRow.lt hW.ho wr.heap.size e).2; omega
          clear hcs hs hW hy hal hall hA hST
          have HAB := Lib.hid (HA.out.alloc (.cells #[.int .u8 (y.toNat : Int)] 5))
          have HRD := Lib.hid (show Rd ((wr.alloc (.cells #[.int .u8 (y.toNat : Int), .int .i64 (s.D : Int), .int .i64 (s.S : Int), .int .u8 (s.C.toNat : Int)] 59)).alloc (.cells #[.int .u8 (y.toNat : Int)] 5)) _ (some ⟨wr.heap.size + 1, 0, none⟩) 1 (bVs [y]) from by have h := rd_one (wr.alloc (.cells #[.int .u8 (y.toNat : Int), .int .i64 (s.D : Int), .int .i64 (s.S : Int), .int .u8 (s.C.toNat : Int)] 59)) y; simpa using h)
          have HSTB := Lib.hid (HST.out.alloc (.cells #[.int .u8 (y.toNat : Int)] 5))
          go_wp2_with (at_builtin; go_loud (refine wpList_append_rd (.tmp 48) (.tmp 51) rfl rfl (w1.heap.size + 1) v xs [y] rfl HAB.out.ho _ (some ⟨wr.heap.size + 1, 0, none⟩) 1 1 rfl HRD.out (by omega) HAB.out.hB ?_); intro v2 w2 ho2 hg2 hat2; obtain ⟨A2, cap2, rfl, hox2⟩ := ho2.slice; generalize hm2 : (xs ++ [y]).length = m2 at *; have HM2 := Lib.hid hm2; clear hm2; have hb2 := Lib.hid (grown_below (B := w1.heap.size + 1) hg2 HAB.out.hB (fun k hk => (World.ownsRow.lt HAB.out.ho k hk).1)); have b2 : w2.cell? ⟨w1.heap.size, 0, none⟩ = some v := (HAB.out.hb.below hb2.out HAB.out.lt).cell 0; have f2 : w2.frozen? ⟨w1.heap.size, 0, none⟩ = false := (HAB.out.hb.below hb2.out HAB.out.lt).frozen 0; have HW2 := Lib.hid (HAB.out.put hb2.out ho2); have HST2 := Lib.hid (show Row w2 wr.heap.size 59 _ from (hg2.block wr.heap.size HSTB.out.lt (Ne.symm hvo)).trans HSTB.out); have hne3 : wr.heap.size ≠ w1.heap.size := (by have := HAB.out.lt; have := HW.out.hB; omega); have HS3 := Lib.hid (HST2.out.far (p := ⟨w1.heap.size, 0, none⟩) hne3 (.slice A2 m2 cap2)); have q0 : (w2.setCell ⟨w1.heap.size, 0, none⟩ (.slice A2 m2 cap2)).cell? ⟨wr.heap.size, 0, none⟩ = some (.int .u8 (y.toNat : Int)) := HS3.out.cell 0; have q1 : (w2.setCell ⟨w1.heap.size, 0, none⟩ (.slice A2 m2 cap2)).cell? ⟨wr.heap.size, 1, none⟩ = some (.int .i64 (s.D : Int)) := HS3.out.cell 1; have q2 : (w2.setCell ⟨w1.heap.size, 0, none⟩ (.slice A2 m2 cap2)).cell? ⟨wr.heap.size, 2, none⟩ = some (.int .i64 (s.S : Int)) := HS3.out.cell 2; have q3 : (w2.setCell ⟨w1.heap.size, 0, none⟩ (.slice A2 m2 cap2)).cell? ⟨wr.heap.size, 3, none⟩ = some (.int .u8 (s.C.toNat : Int)) := HS3.out.cell 3)
          refine (HALL.out _).mono ?_
          rintro e w4 ⟨A4, m4, c4, rfl, hI, hb4⟩
          have HW4 := Lib.hid (HW2.out.step (Chg3.of_below (hb4.mono HW2.out.hB)) (HW2.out.hb.below hb4 HW2.out.hb.lt) (HW2.out.ho.below hb4))
          have HI := Lib.hid hI
          have lm4 : m4 ≤ 3 := hI.1
          have hv4 : ∀ g, A4 = some ⟨g, 0, none⟩ → 0 < m4 → (Value.slice A2 m2 cap2).ownBlock ≠ some g := by
            intro g4 hg4 hm e4
            obtain ⟨g5, e5, h5, _⟩ := hI.2 hm
            rw [hg4] at e5
            simp only [Option.some.injEq, Addr.mk.injEq, and_true] at e5
            subst e5
            have := (World.ownsRow.lt HW2.out.ho g4 e4).2
            omega
          clear q0 q1 q2 q3 b2 f2 hI hb4
          go_wp2_with fail
          have hI2 : ∀ g4, A4 = some ⟨g4, 0, none⟩ → 0 < m4 → g4 < w4.heap.size ∧ ∀ q, q < m4 → ∃ z : Int, w4.cell? ⟨g4, q, none⟩ = some (.int .i64 z) := by
            intro g4 hg4 hm
            obtain ⟨g5, e5, _, h5, h6⟩ := HI.out.2 hm
            rw [hg4] at e5
            simp only [Option.some.injEq, Addr.mk.injEq, and_true] at e5
            subst e5
            exact ⟨h5, h6⟩
          have HI2 := Lib.hid hI2
          have HV4 := Lib.hid hv4
          clear hI2 hv4
          go_loopw [56] (fun v56 wr => ∃ (j : Nat) (v : Value) (ys : List UInt8), j ≤ m4 ∧ v56 = .int .i64 (j : Int) ∧ WB wr w w1.heap.size (w1.heap.size + 1) [.slice (some ⟨g, o, none⟩) l.length cS, .int .i64 (regs : Int), .int .i64 (outs : Int), .int .u64 (reads : Int)] v ys ∧ ys.length ≤ xs.length + 1 + j ∧ (∀ g4, A4 = some ⟨g4, 0, none⟩ → 0 < m4 → v.ownBlock ≠ some g4 ∧ g4 < wr.heap.size ∧ ∀ q, q < m4 → ∃ z : Int, wr.cell? ⟨g4, q, none⟩ = some (.int .i64 z))) (fun v56 _ => m4 - (intOf v56).toNat)
          case atStart => exact ⟨0, _, _, by omega, rfl, HW4.out, by rw [List.length_append, List.length_singleton]; omega, fun g4 h1 h2 => ⟨HV4.out g4 h1 h2, HI2.out g4 h1 h2⟩⟩
          case round =>
            obtain ⟨j, v3, ys, hj, rfl, hW, hly, hin⟩ := hrel
            clear HW4 HI2 HV4
            by_cases hjm : j < m4
            · obtain ⟨g4, rfl, hge, _⟩ := HI.out.2 (by omega)
              have HGE := Lib.hid (show w1.heap.size + 1 ≤ g4 from Nat.le_trans HW2.out.hB hge)
              clear hge
              obtain ⟨n1, n2, n3⟩ := hin g4 rfl (by omega)
              obtain ⟨z, hz⟩ := n3 j hjm
              obtain ⟨y2, hy2⟩ := byte_wrap z
              have j0 : (0 : Int) ≤ (j : Int) := by omega
              have j1 : (j : Int) < (m4 : Int) := by omega
              have b0 : wr.cell? ⟨w1.heap.size, 0, none⟩ = some v3 := hW.hb.cell 0
              have HAB := Lib.hid (hW.alloc (.cells #[.int .u8 (y2.toNat : Int)] 5))
              have HRD := Lib.hid (rd_one wr y2)
              have HIN := Lib.hid n3
              have HWR := Lib.hid hW
              have hsz : (wr.alloc (.cells #[.int .u8 (y2.toNat : Int)] 5)).heap.size = wr.heap.size + 1 := by simp
              have HSZ := Lib.hid hsz
              clear hin hW n3 hsz
              go_wp2_with (at_builtin; go_loud (refine wpList_append_rd (.tmp 60) (.tmp 63) rfl rfl (w1.heap.size + 1) v3 ys [y2] rfl HAB.out.ho _ (some ⟨wr.heap.size, 0, none⟩) 1 1 rfl HRD.out (by omega) HAB.out.hB ?_); intro v5 w5 ho5 hg5 hat5; obtain ⟨A5, cap5, rfl, hox5⟩ := ho5.slice; generalize hm5 : (ys ++ [y2]).length = m5 at *; have HM5 := Lib.hid hm5; clear hm5; have hb5 := Lib.hid (grown_below (B := w1.heap.size + 1) hg5 HAB.out.hB (fun k hk => (World.ownsRow.lt HAB.out.ho k hk).1)); have b5 : w5.cell? ⟨w1.heap.size, 0, none⟩ = some v3 := (HAB.out.hb.below hb5.out HAB.out.lt).cell 0; have f5 : w5.frozen? ⟨w1.heap.size, 0, none⟩ = false := (HAB.out.hb.below hb5.out HAB.out.lt).frozen 0; have HW5 := Lib.hid (HAB.out.put hb5.out ho5); have HG5 := Lib.hid hg5; have HAT5 := Lib.hid hat5; clear hg5 hat5)
              go_roundw
              case rel =>
                refine ⟨j + 1, _, _, by omega, by go_num, HW5.out, by have := HM5.out; rw [List.length_append, List.length_singleton] at this ⊢; omega, fun g6 h1 _ => ?_⟩
                simp only [Option.some.injEq, Addr.mk.injEq, and_true] at h1
                subst h1
                have hs1 := HSZ.out
                refine ⟨?_, ?_, fun q hq => ?_⟩
                · rcases HAT5.out with h | h
                  · rw [h]; exact n1
                  · rw [h, hs1]; intro e; injection e with e; omega
                · have := HG5.out.size; simp; omega
                · obtain ⟨zq, hzq⟩ := HIN.out q hq
                  refine ⟨zq, ?_⟩
                  have hge := HGE.out
                  have e1 : w5.heap[g4]? = wr.heap[g4]? := (HG5.out.block g4 (by rw [hs1]; omega) (Ne.symm n1)).trans (Below.heap_alloc wr _ g4 n2)
                  exact (World.cell?_setCell_other w5 ⟨w1.heap.size, 0, none⟩ ⟨g4, q, none⟩ _ (by intro e; injection e with e; omega)).trans ((World.cell?_of_block (a := ⟨g4, q, none⟩) e1).trans hzq)
              case measure => simp [intOf] <;> omega
            · have HIN := Lib.hid hin
              have HWR := Lib.hid hW
              clear hin hW
              go_wp2_with fail
              go_roundw
              case rel => exact ⟨i + 1, v3, ys, by omega, by go_num, HWR.out, by omega⟩
              case measure => simp [intOf] <;> omega
        · have b0 : wr.cell? ⟨w1.heap.size, 0, none⟩ = some v := hW.hb.cell 0
          have hlow := hW.low
          obtain ⟨A2, cap2, rfl, hox2⟩ := hW.ho.slice
          clear hW
          go_wp2_with fail
          go_ret2
          exact ⟨_, rfl, hlow⟩
end Go.Proofs.Ythbjcafldbocpaa
namespace Go.Proofs.Ythbjcafldbocpaa
open Go.RowKit
set_option linter.unusedVariables false
set_option linter.unusedSimpArgs false
theorem content_info : (Try.prog.info? 87).map (fun i => (i.zero, i.size, i.bytes)) = some (some (.agg (Array.replicate 64 (.int .u8 0))), 64, 64) := by kernel_rfl
theorem bool_info : (Try.prog.info? 4).map (fun i => (i.zero, i.size, i.bytes)) = some (some (.bool false), 1, 1) := by kernel_rfl
theorem made_same (z : Array Value) (u : Value) (n : Nat) (hz : 0 < z.size) (h : ∀ i, i < z.size → z[i]! = u) : madeCells z n = (List.replicate n u).toArray := by
  apply Array.ext
  · simp [madeCells]
  · intro i h1 h2
    simp only [madeCells, Array.getElem_map, List.getElem_toArray, List.getElem_replicate]
    exact h _ (Nat.mod_lt _ hz)
theorem flat_none (n : Nat) : flatR (List.replicate n none) = List.replicate (n * 64) 0 := by
  induction n with
  | zero => rfl
  | succ n ih =>
    show pad none ++ flatR (List.replicate n none) = _
    rw [ih, show pad none = List.replicate 64 0 from rfl, List.replicate_append_replicate]
    congr 1
    omega
theorem cells_agg (A : Array Value) : (Value.agg A).cells = A := rfl
theorem zeros_get (i : Nat) (h : i < (Array.replicate 64 (Value.int .u8 0)).size) : (Array.replicate 64 (Value.int .u8 0))[i]! = Value.int .u8 0 := by
  have h2 : i < 64 := by simpa using h
  rw [getElem!_def]
  simp [h2]
set_option maxRecDepth 10000 in
theorem make_content (n : Nat) (hn : n ≤ 256) (w : World) :
    (Instr.makeSlice 79 (.int .i64 (n : Int)) (.int .i64 (n : Int))).run Try.prog w = .ok (.slice (some ⟨w.heap.size, 0, none⟩) n n) (w.alloc (.cells (bVs (flatR (List.replicate n none))).toArray 87)) := by
  obtain ⟨i, hi, hz, hs, hb⟩ := info_parts content_info
  have h := run_make (P := Try.prog) w 79 87 i _ Try.underlying79 hi hz .i64 .i64 (n : Int) (n : Int) (by omega) (by omega) (by rw [hb]; omega) (by omega)
  rw [hs, Int.toNat_natCast] at h
  rw [h]
  have e : madeCells (Value.agg (Array.replicate 64 (Value.int .u8 0))).cells (n * 64) = (bVs (flatR (List.replicate n none))).toArray := by
    rw [cells_agg, made_same _ (Value.int .u8 0) _ (by rw [Array.size_replicate]; decide) zeros_get]
    congr 1
    rw [flat_none, bVs_zeros]
  rw [e]
theorem make_bools (n : Nat) (hn : n ≤ 256) (w : World) :
    (Instr.makeSlice 80 (.int .i64 (n : Int)) (.int .i64 (n : Int))).run Try.prog w = .ok (.slice (some ⟨w.heap.size, 0, none⟩) n n) (w.alloc (.cells (bolVs (somes (List.replicate n none))).toArray 4)) := by
  obtain ⟨i, hi, hz, hs, hb⟩ := info_parts bool_info
  have h := run_make (P := Try.prog) w 80 4 i _ Try.underlying80 hi hz .i64 .i64 (n : Int) (n : Int) (by omega) (by omega) (by rw [hb]; omega) (by omega)
  rw [hs, Nat.mul_one, Int.toNat_natCast] at h
  rw [h]
  have e : madeCells (Value.bool false).cells n = (bolVs (somes (List.replicate n none))).toArray := by
    rw [show (Value.bool false).cells = #[Value.bool false] from rfl, made_same _ (Value.bool false) _ (by simp) (by intro i hi; simp at hi; subst hi; rfl)]
    simp [bolVs, somes]
  rw [e]
end Go.Proofs.Ythbjcafldbocpaa
namespace Go.Proofs.Ythbjcafldbocpaa
open Go.RowKit Go.Proofs.YthbjcafldbocpaaW.PrintWords
set_option linter.unusedVariables false
set_option linter.unusedSimpArgs false

def RdL (w : World) (B : Nat) (A : Option Addr) (L : List (List UInt8)) : Prop :=
  ∀ i, i < L.length → ∃ g o Ai ci, A = some ⟨g, o, none⟩ ∧ g < B ∧ w.cell? ⟨g, o + i, none⟩ = some (.slice Ai (L.getD i []).length ci) ∧ (L.getD i []).length ≤ ci ∧ (L.getD i []).length ≤ 9223372036854775807 ∧ Rd w B Ai (L.getD i []).length (bVs (L.getD i []))
theorem RdL.below {w w' : World} {B B' : Nat} {A : Option Addr} {L : List (List UInt8)} (h : RdL w B A L) (hb : Below B' w w') (hB : B ≤ B') : RdL w' B A L := by
  intro i hi
  obtain ⟨g, o, Ai, ci, e, hg, hc, h1, h2, hr⟩ := h i hi
  exact ⟨g, o, Ai, ci, e, hg, (hb.cell (p := ⟨g, o + i, none⟩) (by show g < B'; omega)).trans hc, h1, h2, hr.below hb hB⟩
theorem RdL.more {w : World} {B B' : Nat} {A : Option Addr} {L : List (List UInt8)} (h : RdL w B A L) (hB : B ≤ B') : RdL w B' A L := by
  intro i hi
  obtain ⟨g, o, Ai, ci, e, hg, hc, h1, h2, hr⟩ := h i hi
  exact ⟨g, o, Ai, ci, e, by omega, hc, h1, h2, hr.more hB⟩
theorem RdL.go {w w' : World} {A : Option Addr} {L : List (List UInt8)} (h : RdL w w.heap.size A L) (hb : Below w.heap.size w w') : RdL w' w'.heap.size A L := (h.below hb (Nat.le_refl _)).more hb.size
end Go.Proofs.Ythbjcafldbocpaa
namespace Go.Proofs.Ythbjcafldbocpaa
open Go.RowKit
set_option linter.unusedVariables false
set_option linter.unusedSimpArgs false
end Go.Proofs.Ythbjcafldbocpaa
namespace Go.Proofs.Ythbjcafldbocpaa
open Go.RowKit
set_option linter.unusedVariables false
set_option linter.unusedSimpArgs false


theorem zip_snoc (ds ss : List UInt8) (c : UInt8) {i : Nat} (h : i < ss.length) (he : ds.length = ss.length) :
    (Gf.macL ds c ss).take i ++ [Gf.add (ds.getD i 0) (Gf.mul c (ss.getD i 0))] = (Gf.macL ds c ss).take (i + 1) := by
  have hl : i < (Gf.macL ds c ss).length := by simp [Gf.macL]; omega
  rw [List.take_succ_eq_append_getElem hl]
  congr 2
  have hd : i < ds.length := by omega
  simp [Gf.macL, List.getD, h, hd]
theorem rmacL_len {ds ss : List UInt8} (c : UInt8) (he : ds.length = ss.length) : (Gf.macL ds c ss).length = ss.length := by simp [Gf.macL, he]
set_option maxHeartbeats 800000 in
theorem refMac_calls (dst : Option Addr) (n dc : Nat) (c : UInt8) (src : Option Addr) (sc : Nat) (ds ss : List UInt8) (w : World) (hd : Rd w w.heap.size dst n (bVs ds)) (hs : Rd w w.heap.size src n (bVs ss)) (hn : n ≤ 140737488355328) :
    Calls Try.prog 34 #[.slice dst n dc, .int .u8 (c.toNat : Int), .slice src n sc] w fun e w' => ∃ A' cap', e = .returned (.tuple #[.slice A' n cap', .int .i64 0]) ∧ OwnB w' w.heap.size A' n cap' (Gf.macL ds c ss) ∧ Below w.heap.size w w' := by
  have hq : ((n : Int) != (n : Int)) = false := by rw [bne_eq_false_iff_eq]
  have hld : ds.length = n := by have := hd.len; rw [bVs_length] at this; exact this
  have hls : ss.length = n := by have := hs.len; rw [bVs_length] at this; exact this
  have HLS := Lib.hid hls
  have HE := Lib.hid (show ds.length = ss.length by omega)
  have HM := Lib.hid (show (Gf.macL ds c ss).length = n by rw [rmacL_len c (by omega)]; exact hls)
  clear hld hls
  go_enter Try.func34, Try.ntmps34
  go_wp2_with fail
  go_loopw [8, 9] (fun v8 v9 wr => ∃ i : Nat, i ≤ n ∧ v9 = .int .i64 (i : Int) ∧ OwnV wr w.heap.size v8 ((Gf.macL ds c ss).take i) ∧ Below w.heap.size w wr) (fun _ v9 _ => n - (intOf v9).toNat)
  case atStart => exact ⟨0, by omega, rfl, OwnV.nil _ _, Below.refl _ _⟩
  case round =>
    obtain ⟨i, hi, rfl, ho, hb⟩ := hrel
    by_cases hlt : i < n
    · obtain ⟨g, o, rfl, hg, hcell⟩ := rd_get (hd.below hb (Nat.le_refl _)) hlt
      obtain ⟨g1, o1, rfl, hg1, hcell1⟩ := rd_get (hs.below hb (Nat.le_refl _)) hlt
      have HS := Lib.hid (zip_snoc ds ss c (i := i) (by rw [HLS.out]; exact hlt) HE.out)
      have HLen := Lib.hid (show ((Gf.macL ds c ss).take i).length = i by rw [List.length_take, HM.out]; omega)
      have HX := Lib.hid (bxor_u8 (ds.getD i 0) (Gf.mul c (ss.getD i 0)))
      generalize (Gf.macL ds c ss).take i = l at *
      generalize ds.getD i 0 = x at *
      generalize ss.getD i 0 = y at *
      have HO := Lib.hid ho
      have HB := Lib.hid hb
      have HD := Lib.hid hd
      have HSS := Lib.hid hs
      clear ho hb hd hs
      go_wp2_with fail
      have hx := HX.out
      have hgr : g < wr.heap.size := Nat.lt_of_lt_of_le hg HB.out.size
      have hgr1 : g1 < wr.heap.size := Nat.lt_of_lt_of_le hg1 HB.out.size
      go_region_held3 (fun w' => w'.cell? ⟨g, o + i, none⟩ = some (.int .u8 (x.toNat : Int)) ∧ w'.cell? ⟨g1, o1 + i, none⟩ = some (.int .u8 (y.toNat : Int)))
        (first | go_keep | (go_split_ands; exact ⟨(hbl.cell (p := ⟨g, o + i, none⟩) hg).trans ‹_›, (hbl.cell (p := ⟨g1, o1 + i, none⟩) hg1).trans ‹_›⟩))
        (first | (go_at_call 47; refine (refMul_calls _ _ _).mono ?_; rintro e w' ⟨rfl, rfl⟩) | (refine step_append_byte _ _ (by rfl) (by rfl) w.heap.size wr.heap.size u8 l (Gf.add x (Gf.mul c y)) (by rfl) ((World.ownsRow.alloc HO.out _).drew) (by rfl) (by simp) (by rw [HLen.out]; omega) (by have := HB.out.size; simp; omega) ?_; intro v1 w1 ho1 hbl hg1'))
      go_wp2_with fail
      go_roundw
      case rel => exact ⟨i + 1, by omega, by go_num, by rw [← HS.out]; exact ho1, ((HB.out.alloc HB.out.size _).drew).trans hbl⟩
      case measure => simp [intOf]; omega
    · obtain rfl : i = n := by omega
      rw [List.take_of_length_le (by rw [HM.out]; omega)] at ho
      obtain ⟨A1, c1, rfl, ho1⟩ := ho.slice
      rw [HM.out] at *
      go_wp2_with fail
      go_ret2
      exact ⟨_, _, rfl, ho1, hb⟩
end Go.Proofs.Ythbjcafldbocpaa
namespace Go.Proofs.Ythbjcafldbocpaa
open Go.RowKit
set_option linter.unusedVariables false
set_option linter.unusedSimpArgs false
theorem step_append_rd {ops : Array Oper} {o : Oper} {a : Act} {W : World} {K : Act → World → Prop} {Q : Exit → Act → World → Prop} {E : Prop} (s x : Operand) (hgd : o.guard = none)
    (ho : o.op = .call { callee := .builtin .append, args := #[s, x], argTypes := #[35, 35] })
    (base : Nat) (v : Value) (xs ys : List UInt8) (hs : a.eval s = v) (hown : OwnV W base v xs) (B : Nat) (A : Option Addr) (m c : Nat) (hx : a.eval x = .slice A m c) (hr : Rd W B A m (bVs ys))
    (hlen : xs.length + m ≤ 140737488355328) (hbase : base ≤ W.heap.size)
    (h : ∀ v' w', OwnV w' base v' (xs ++ ys) → W.grownBy w' v.ownBlock → (v'.ownBlock = v.ownBlock ∨ v'.ownBlock = some W.heap.size) → K (a.put o.dst v') w') :
    if Region.wanted o (yielded ops a.tmps) = true then Oper.wp Try.prog o a W K Q else E := by
  have hw : Region.wanted o (yielded ops a.tmps) = true := by simp [Region.wanted, hgd]
  rw [if_pos hw]
  obtain ⟨v', w', hrun, h1, h2, h3⟩ := run_append_rd W base o.type v xs ys hown B A m c hr hlen hbase
  unfold Oper.wp execOp
  simp only [ho, resolve, invoke, builtin, Sem.run_bind, Sem.run_pure, Result.andThen_ok, List.map_toArray, List.map_cons, List.map_nil, hs, hx, hrun]
  exact h v' w' h1 h2 h3
end Go.Proofs.Ythbjcafldbocpaa
namespace Go.Proofs.Ythbjcafldbocpaa
open Go.RowKit
set_option linter.unusedVariables false
set_option linter.unusedSimpArgs false
end Go.Proofs.Ythbjcafldbocpaa
namespace Go.Proofs.Ythbjcafldbocpaa
open Go.RowKit
set_option linter.unusedVariables false
set_option linter.unusedSimpArgs false
theorem DW.load {W W' : World} {gt ga gz nr no n ld D : Nat} {st : VS} (h : DW W gt ga gz nr no n st) (hk : ∀ (k : Nat) (cells : Array Value), W.heap[k]? = some (Obj.cells cells 5 (0, 0)) → W'.heap[k]? = W.heap[k]?)
    {v : Value} (ha : ∀ lv, Row W ga 35 lv → Row W' ga 35 (lv.set D v)) (hz : ∀ lz, Row W gz 35 lz → Row W' gz 35 lz) (ht : Row W' gt 113 [.slice (some ⟨ga, 0, none⟩) nr nr, .slice (some ⟨gz, 0, none⟩) no no, .int .u64 (ld : Int)]) {l : List UInt8} (hl : l.length = n) (hv : ValO W' v (some l)) (hld : ld < 2 ^ 64) :
    DW W' gt ga gz nr no n { st with regs := st.regs.set D (some l), loads := ld } := by
  obtain ⟨h1, ⟨lv, hr, hv2⟩, ⟨lz, hz2, hw⟩, h4, h5, n1, n2, n3⟩ := h
  exact ⟨ht, ⟨_, ha lv hr, (hv2.keep hk).set D hv⟩, ⟨lz, hz lz hz2, hw.keep hk⟩, h4.set D l hl ld, hld, n1, n2, n3⟩
end Go.Proofs.Ythbjcafldbocpaa
namespace Go.Proofs.Ythbjcafldbocpaa
open Go.RowKit
set_option linter.unusedVariables false
set_option linter.unusedSimpArgs false

abbrev mV (r c : Int) (A : Option Addr) (n cap : Nat) : Value := .agg #[.int .i64 r, .int .i64 c, .slice A n cap]
def sideB (n : Int) : Bool := decide (0 ≤ n ∧ n ≤ 64)
def rightB (r c : Int) (n : Nat) : Bool := decide ((0 ≤ r ∧ r ≤ 64) ∧ (0 ≤ c ∧ c ≤ 64) ∧ (n : Int) = r * c)
theorem prod_bd {r c : Int} (h1 : 0 ≤ r) (h2 : r ≤ 64) (h3 : 0 ≤ c) (h4 : c ≤ 64) : 0 ≤ r * c ∧ r * c ≤ 4096 := by
  refine ⟨Int.mul_nonneg h1 h3, ?_⟩
  have := Int.mul_le_mul h2 h4 h3 (by omega)
  omega
end Go.Proofs.Ythbjcafldbocpaa
namespace Go.Proofs.Ythbjcafldbocpaa
open Go.RowKit
set_option linter.unusedVariables false
set_option linter.unusedSimpArgs false

structure Ctx (w0 w : World) (bs : List (Nat × List Value)) (rs : List (Option Addr × Nat × List UInt8)) : Prop where
  below : Below w0.heap.size w0 w
  rows : ∀ b ∈ bs, Row w b.1 37 b.2
  rds : ∀ r ∈ rs, Rd w w.heap.size r.1 r.2.1 (bVs r.2.2)
section
variable {w0 w w' : World} {bs : List (Nat × List Value)} {rs : List (Option Addr × Nat × List UInt8)}
theorem Ctx.start (w : World) : Ctx w w [] [] := ⟨Below.refl _ _, fun b h => absurd h (by simp), fun r h => absurd h (by simp)⟩
theorem Ctx.go (h : Ctx w0 w bs rs) (hb : Below w.heap.size w w') : Ctx w0 w' bs rs :=
  ⟨h.below.trans (hb.mono h.below.size), fun b hm => (h.rows b hm).below hb (h.rows b hm).lt, fun r hm => (h.rds r hm).go hb⟩
theorem Ctx.add {A : Option Addr} {n : Nat} {xs : List UInt8} (h : Ctx w0 w bs rs) (hr : Rd w w.heap.size A n (bVs xs)) : Ctx w0 w bs ((A, n, xs) :: rs) :=
  ⟨h.below, h.rows, fun r hm => by
    rcases List.mem_cons.1 hm with rfl | hm
    · exact hr
    · exact h.rds r hm⟩
theorem Ctx.box (h : Ctx w0 w bs rs) (cs : List Value) : Ctx w0 (w.alloc (.cells cs.toArray 37)) ((w.heap.size, cs) :: bs) rs := by
  have hb : Below w.heap.size w (w.alloc (.cells cs.toArray 37)) := (Below.refl _ _).alloc (Nat.le_refl _) _
  refine ⟨h.below.trans (hb.mono h.below.size), fun b hm => ?_, fun r hm => (h.rds r hm).go hb⟩
  rcases List.mem_cons.1 hm with rfl | hm
  · exact Row.new w cs _
  · exact (h.rows b hm).below hb (h.rows b hm).lt
theorem Ctx.alloc (h : Ctx w0 w bs rs) (o : Obj) : Ctx w0 (w.alloc o) bs rs := h.go ((Below.refl _ _).alloc (Nat.le_refl _) o)
theorem Ctx.drewN (h : Ctx w0 w bs rs) (n : Nat) : Ctx w0 (w.drewN n) bs rs := h.go (below_drewN (Below.refl _ _) n)
theorem Ctx.drew (h : Ctx w0 w bs rs) : Ctx w0 w.drew bs rs := h.go (Below.drew (Below.refl _ _))
theorem Ctx.row (h : Ctx w0 w bs rs) (i : Nat) {g : Nat} {cs : List Value} (e : bs[i]? = some (g, cs)) : Row w g 37 cs := h.rows _ (List.mem_of_getElem? e)
theorem Ctx.rd (h : Ctx w0 w bs rs) (i : Nat) {A : Option Addr} {n : Nat} {xs : List UInt8} (e : rs[i]? = some (A, n, xs)) : Rd w w.heap.size A n (bVs xs) := h.rds _ (List.mem_of_getElem? e)
theorem Ctx.lt (h : Ctx w0 w bs rs) (i : Nat) {g : Nat} {cs : List Value} (e : bs[i]? = some (g, cs)) : g < w.heap.size := (h.row i e).lt
theorem Ctx.cells (h : Ctx w0 w bs rs) (i : Nat) {g : Nat} {a b c : Value} (e : bs[i]? = some (g, [a, b, c])) : w.cell? ⟨g, 0, none⟩ = some a ∧ w.cell? ⟨g, 1, none⟩ = some b ∧ w.cell? ⟨g, 2, none⟩ = some c :=
  ⟨(h.row i e).cell 0, (h.row i e).cell 1, (h.row i e).cell 2⟩
end
end Go.Proofs.Ythbjcafldbocpaa
namespace Go.Proofs.Ythbjcafldbocpaa
open Go.RowKit
set_option linter.unusedVariables false
set_option linter.unusedSimpArgs false

theorem Ctx.set {w0 w : World} {bs : List (Nat × List Value)} (h : Ctx w0 w bs []) {p : Addr} (hp : w0.heap.size ≤ p.block) (hn : ∀ b ∈ bs, b.1 ≠ p.block) (u : Value) : Ctx w0 (w.setCell p u) bs [] :=
  ⟨h.below.setCell hp u, fun b hm => (h.rows b hm).far (hn b hm) u, fun r hm => absurd hm (by simp)⟩
def CurS (w : World) (g q : Nat) (v : UInt8) (new : List UInt8) : Prop := ∃ l : List UInt8, q < l.length ∧ l.set q v = new ∧ Row w g 5 (bVs l)
section
variable {w w' : World} {g q : Nat} {v : UInt8} {new : List UInt8}
theorem CurS.go (h : CurS w g q v new) (hb : Below w.heap.size w w') : CurS w' g q v new := by
  obtain ⟨l, h1, h2, h3⟩ := h
  exact ⟨l, h1, h2, h3.below hb h3.lt⟩
theorem CurS.drew (h : CurS w g q v new) : CurS w.drew g q v new := h
theorem CurS.cell (h : CurS w g q v new) : ∃ old, w.cell? ⟨g, q, none⟩ = some old := by
  obtain ⟨l, h1, h2, h3⟩ := h
  exact h3.has (by rw [bVs_length]; exact h1)
theorem CurS.frozen (h : CurS w g q v new) : w.frozen? ⟨g, q, none⟩ = false := by
  obtain ⟨l, h1, h2, h3⟩ := h
  exact h3.frozen q
theorem CurS.done (h : CurS w g q v new) : Row (w.setCell ⟨g, q, none⟩ (.int .u8 (v.toNat : Int))) g 5 (bVs new) := by
  obtain ⟨l, h1, h2, h3⟩ := h
  have := h3.set q (.int .u8 (v.toNat : Int))
  rwa [bVs_set, h2] at this
theorem CurS.set (h : CurS w g q v new) : CurS (w.setCell ⟨g, q, none⟩ (.int .u8 (v.toNat : Int))) g q v new := by
  have hd := h.done
  obtain ⟨l, h1, h2, h3⟩ := h
  refine ⟨new, by rw [← h2, List.length_set]; exact h1, ?_, hd⟩
  rw [← h2, List.set_set]
theorem CurS.fin (h : CurS (w.setCell ⟨g, q, none⟩ (.int .u8 (v.toNat : Int))) g q v new) : Row (w.setCell ⟨g, q, none⟩ (.int .u8 (v.toNat : Int))) g 5 (bVs new) := by
  obtain ⟨l, h1, h2, h3⟩ := h
  have he : l.set q v = l := by
    have hc : (w.setCell ⟨g, q, none⟩ (.int .u8 (v.toNat : Int))).cell? ⟨g, q, none⟩ = some (.int .u8 ((l[q]).toNat : Int)) := by rw [h3.cell, bVs_get l q h1]
    have h4 := h3
    unfold Row at h4
    simp only [World.setCell, Array.getElem?_modify, if_true] at h4
    have hv : l[q] = v := by
      cases ho : w.heap[g]? with
      | none => rw [ho] at h4; simp at h4
      | some o =>
        rw [ho] at h4
        cases o with
        | cells c e fz =>
          simp at h4
          have h5 : (c.setIfInBounds q (.int .u8 (v.toNat : Int)))[q]? = (bVs l).toArray[q]? := by rw [h4.1]
          rw [show (bVs l).toArray[q]? = (bVs l)[q]? by simp, bVs_get l q h1, Array.getElem?_setIfInBounds] at h5
          by_cases hq : q < c.size
          · simp [hq] at h5
            exact (UInt8.toNat_inj.1 (by omega)).symm
          · simp [hq] at h5
        | _ => simp at h4
    rw [← hv]
    exact List.set_getElem_self h1
  rw [← h2, he]
  exact h3
theorem CurS.lt (h : CurS w g q v new) : g < w.heap.size := by
  obtain ⟨l, h1, h2, h3⟩ := h
  exact h3.lt
end
end Go.Proofs.Ythbjcafldbocpaa
namespace Go.Proofs.Ythbjcafldbocpaa
open Go.RowKit
set_option linter.unusedVariables false
set_option linter.unusedSimpArgs false

section
variable {x y : World} {g : Nat} {t t' : TypeId} {ys : List Value} {o o' : Obj} {a b c : Value}
theorem box_last (h : Below (x.alloc (.cells #[a, b, c] t)).heap.size (x.alloc (.cells #[a, b, c] t)) y) : Row y x.heap.size t [a, b, c] := (Row.new x [a, b, c] t).below h (by simp)
theorem box_prev (h : Below ((x.alloc (.cells #[a, b, c] t)).alloc o).heap.size ((x.alloc (.cells #[a, b, c] t)).alloc o) y) : Row y x.heap.size t [a, b, c] := ((Row.new x [a, b, c] t).alloc o).below h (by simp; omega)
theorem box_lastD (h : Below (x.alloc (.cells #[a, b, c] t)).drew.heap.size (x.alloc (.cells #[a, b, c] t)).drew y) : Row y x.heap.size t [a, b, c] := (show Row (x.alloc (.cells #[a, b, c] t)).drew x.heap.size t [a, b, c] from Row.new x [a, b, c] t).below h (show x.heap.size < (x.alloc (.cells #[a, b, c] t)).heap.size by simp)
theorem box_prevD (h : Below ((x.alloc (.cells #[a, b, c] t)).alloc o).drew.heap.size ((x.alloc (.cells #[a, b, c] t)).alloc o).drew y) : Row y x.heap.size t [a, b, c] := (show Row ((x.alloc (.cells #[a, b, c] t)).alloc o).drew x.heap.size t [a, b, c] from (Row.new x [a, b, c] t).alloc o).below h (show x.heap.size < ((x.alloc (.cells #[a, b, c] t)).alloc o).heap.size by simp; omega)
theorem carry0 (r : Row x g t ys) (h : Below x.heap.size x y) : Row y g t ys := r.below h r.lt
theorem carry1 (r : Row x g t ys) (h : Below (x.alloc o).heap.size (x.alloc o) y) : Row y g t ys := carry0 (r.alloc o) h
theorem carry2 (r : Row x g t ys) (h : Below ((x.alloc o).alloc o').heap.size ((x.alloc o).alloc o') y) : Row y g t ys := carry0 ((r.alloc o).alloc o') h
theorem size_drew (x : World) : x.drew.heap.size = x.heap.size := rfl
theorem Row.newE (x : World) (cs : List Value) (t : TypeId) (e : g = x.heap.size) : Row (x.alloc (.cells cs.toArray t)) g t cs := by rw [e]; exact Row.new x cs t
theorem Row.drew (r : Row x g t ys) : Row x.drew g t ys := r
theorem Ctx.cons {w0 : World} {bs : List (Nat × List Value)} (h : Ctx w0 x bs []) (r : Row x g 37 ys) : Ctx w0 x ((g, ys) :: bs) [] :=
  ⟨h.below, fun b hm => by
    rcases List.mem_cons.1 hm with rfl | hm
    · exact r
    · exact h.rows b hm, fun r hm => absurd hm (by simp)⟩
theorem Row.rd {xs : List UInt8} {n : Nat} (r : Row x g 5 (bVs xs)) (hn : xs.length = n) : Rd x x.heap.size (some ⟨g, 0, none⟩) n (bVs xs) := by
  refine ⟨by rw [bVs_length, hn], fun _ => ⟨g, 0, rfl, r.lt, fun j u hu => ?_⟩⟩
  rw [Nat.zero_add, r.cell, hu]
theorem Row.two (h : Row x g t [a, b, c]) : x.cell? ⟨g, 0, none⟩ = some a ∧ x.cell? ⟨g, 1, none⟩ = some b ∧ x.cell? ⟨g, 2, none⟩ = some c ∧ x.frozen? ⟨g, 0, none⟩ = false ∧ x.frozen? ⟨g, 1, none⟩ = false ∧ x.frozen? ⟨g, 2, none⟩ = false ∧ g < x.heap.size := by
  obtain ⟨h0, h1, h2, h3, h4, h5⟩ := h.three
  exact ⟨h0, h1, h2, h3, h4, h5, h.lt⟩
end
end Go.Proofs.Ythbjcafldbocpaa
namespace Go.Proofs.Ythbjcafldbocpaa
set_option linter.unusedVariables false
set_option linter.unusedSimpArgs false

def gridD (R C : Nat) (f : Nat → Nat → UInt8) : List UInt8 := (List.range (R * C)).map fun p => f (p / C) (p % C)
theorem grid_length (R C : Nat) (f : Nat → Nat → UInt8) : (gridD R C f).length = R * C := by simp [gridD]
theorem place_lt {R C i j : Nat} (hi : i < R) (hj : j < C) : i * C + j < R * C := by
  have h : (i + 1) * C ≤ R * C := Nat.mul_le_mul_right C hi
  rw [Nat.add_mul] at h
  omega
theorem place_div {C i j : Nat} (hj : j < C) : (i * C + j) / C = i := by
  rw [Nat.add_comm, Nat.add_mul_div_right _ _ (by omega), Nat.div_eq_of_lt hj, Nat.zero_add]
theorem place_mod {C i j : Nat} (hj : j < C) : (i * C + j) % C = j := by
  rw [Nat.add_comm, Nat.add_mul_mod_self_right, Nat.mod_eq_of_lt hj]
theorem place_of {R C p : Nat} (hp : p < R * C) : p / C < R ∧ p % C < C ∧ p = p / C * C + p % C := by
  have hC : 0 < C := by
    rcases Nat.eq_zero_or_pos C with h | h
    · subst h; simp at hp
    · exact h
  refine ⟨(Nat.div_lt_iff_lt_mul hC).2 hp, Nat.mod_lt _ hC, ?_⟩
  have := Nat.div_add_mod p C
  rw [Nat.mul_comm] at this
  omega
theorem grid_get {R C i j : Nat} (f : Nat → Nat → UInt8) (hi : i < R) (hj : j < C) : (gridD R C f)[i * C + j]? = some (f i j) := by
  simp only [gridD, List.getElem?_map, List.getElem?_range (place_lt hi hj), Option.map_some, place_div hj, place_mod hj]
theorem grid_getD {R C i j : Nat} (f : Nat → Nat → UInt8) (hi : i < R) (hj : j < C) : (gridD R C f).getD (i * C + j) 0 = f i j := by
  rw [List.getD_eq_getElem?_getD, grid_get f hi hj]; rfl
theorem grid_congr {R C : Nat} {f g : Nat → Nat → UInt8} (h : ∀ i j, i < R → j < C → f i j = g i j) : gridD R C f = gridD R C g := by
  unfold gridD
  apply List.map_congr_left
  intro p hp
  obtain ⟨h1, h2, _⟩ := place_of (List.mem_range.1 hp)
  exact h _ _ h1 h2
theorem grid_ext {R C : Nat} {xs : List UInt8} {f : Nat → Nat → UInt8} (hl : xs.length = R * C) (h : ∀ i j, i < R → j < C → xs[i * C + j]? = some (f i j)) : xs = gridD R C f := by
  apply List.ext_getElem?
  intro p
  rcases Nat.lt_or_ge p (R * C) with hp | hp
  · obtain ⟨h1, h2, h3⟩ := place_of hp
    rw [h3, h _ _ h1 h2, grid_get f h1 h2]
  · rw [List.getElem?_eq_none (by omega), List.getElem?_eq_none (by rw [grid_length]; omega)]
theorem grid_zero (R C : Nat) : List.replicate (R * C) 0 = gridD R C (fun _ _ => 0) := by
  unfold gridD
  rw [List.map_const', List.length_range]
theorem place_inj {C i j a b : Nat} (hj : j < C) (hb : b < C) (h : i * C + j = a * C + b) : i = a ∧ j = b :=
  ⟨by have h1 := congrArg (· / C) h; simpa only [place_div hj, place_div hb] using h1, by have h1 := congrArg (· % C) h; simpa only [place_mod hj, place_mod hb] using h1⟩
theorem grid_set {R C i j : Nat} (f : Nat → Nat → UInt8) (v : UInt8) (hi : i < R) (hj : j < C) : (gridD R C f).set (i * C + j) v = gridD R C (fun a b => if a = i ∧ b = j then v else f a b) := by
  refine grid_ext (by rw [List.length_set, grid_length]) fun a b ha hb => ?_
  rw [List.getElem?_set]
  by_cases h : i * C + j = a * C + b
  · obtain ⟨rfl, rfl⟩ := place_inj hj hb h
    rw [if_pos rfl, if_pos (by rw [grid_length]; exact place_lt hi hj), if_pos ⟨rfl, rfl⟩]
  · rw [if_neg h, grid_get f ha hb, if_neg (by rintro ⟨rfl, rfl⟩; exact h rfl)]
theorem grid_row {R C i : Nat} (f : Nat → Nat → UInt8) (hi : i < R) : ((gridD R C f).drop (i * C)).take C = (List.range C).map (f i) := by
  apply List.ext_getElem?
  intro j
  rw [List.getElem?_take]
  rcases Nat.lt_or_ge j C with hj | hj
  · rw [if_pos hj, List.getElem?_drop, grid_get f hi hj, List.getElem?_map, List.getElem?_range hj]; rfl
  · rw [if_neg (by omega), List.getElem?_eq_none (by simpa using hj)]
def fillT (R C : Nat) (f : Nat → Nat → UInt8) (i j : Nat) : List UInt8 := gridD R C (fun a b => if a < i ∨ (a = i ∧ b < j) then f a b else 0)
theorem fillT_start (R C : Nat) (f : Nat → Nat → UInt8) : List.replicate (R * C) 0 = fillT R C f 0 0 := by
  rw [grid_zero]
  exact grid_congr fun i j _ _ => (if_neg (by omega)).symm
theorem fillT_set {R C i j : Nat} (f : Nat → Nat → UInt8) (hi : i < R) (hj : j < C) : (fillT R C f i j).set (i * C + j) (f i j) = fillT R C f i (j + 1) := by
  unfold fillT
  rw [grid_set _ _ hi hj]
  refine grid_congr fun a b _ _ => ?_
  by_cases h : a = i ∧ b = j
  · rw [if_pos h, if_pos (by omega), h.1, h.2]
  · rw [if_neg h]
    by_cases h2 : a < i ∨ (a = i ∧ b < j)
    · rw [if_pos h2, if_pos (by omega)]
    · rw [if_neg h2, if_neg (by omega)]
theorem fillT_next (R C i : Nat) (f : Nat → Nat → UInt8) : fillT R C f i C = fillT R C f (i + 1) 0 := by
  refine grid_congr fun a b _ hb => ?_
  by_cases h : a < i ∨ (a = i ∧ b < C)
  · rw [if_pos h, if_pos (by omega)]
  · rw [if_neg h, if_neg (by omega)]
theorem fillT_end (R C : Nat) (f : Nat → Nat → UInt8) : fillT R C f R 0 = gridD R C f := grid_congr fun a b ha _ => if_pos (by omega)
theorem fillT_length (R C i j : Nat) (f : Nat → Nat → UInt8) : (fillT R C f i j).length = R * C := grid_length _ _ _
theorem fillT_at {R C i j : Nat} (f : Nat → Nat → UInt8) (hi : i < R) (hj : j < C) : (fillT R C f i j).set (i * C + j) 0 = fillT R C f i j := by
  unfold fillT
  rw [grid_set _ _ hi hj]
  refine grid_congr fun a b _ _ => ?_
  by_cases h : a = i ∧ b = j
  · rw [if_pos h, if_neg (by omega)]
  · rw [if_neg h]
def fillC (R C : Nat) (f : Nat → Nat → UInt8) (j i : Nat) : List UInt8 := gridD R C (fun a b => if b < j ∨ (b = j ∧ a < i) then f a b else 0)
theorem fillC_start (R C : Nat) (f : Nat → Nat → UInt8) : List.replicate (R * C) 0 = fillC R C f 0 0 := by
  rw [grid_zero]
  exact grid_congr fun i j _ _ => (if_neg (by omega)).symm
theorem fillC_set {R C i j : Nat} (f : Nat → Nat → UInt8) (hi : i < R) (hj : j < C) : (fillC R C f j i).set (i * C + j) (f i j) = fillC R C f j (i + 1) := by
  unfold fillC
  rw [grid_set _ _ hi hj]
  refine grid_congr fun a b _ _ => ?_
  by_cases h : a = i ∧ b = j
  · rw [if_pos h, if_pos (by omega), h.1, h.2]
  · rw [if_neg h]
    by_cases h2 : b < j ∨ (b = j ∧ a < i)
    · rw [if_pos h2, if_pos (by omega)]
    · rw [if_neg h2, if_neg (by omega)]
theorem fillC_next (R C j : Nat) (f : Nat → Nat → UInt8) : fillC R C f j R = fillC R C f (j + 1) 0 := by
  refine grid_congr fun a b ha _ => ?_
  by_cases h : b < j ∨ (b = j ∧ a < R)
  · rw [if_pos h, if_pos (by omega)]
  · rw [if_neg h, if_neg (by omega)]
theorem fillC_end (R C : Nat) (f : Nat → Nat → UInt8) : fillC R C f C 0 = gridD R C f := grid_congr fun a b _ hb => if_pos (by omega)
theorem fillC_length (R C i j : Nat) (f : Nat → Nat → UInt8) : (fillC R C f i j).length = R * C := grid_length _ _ _

/-! sums -/
def sumF : Nat → (Nat → UInt8) → UInt8
  | 0, _ => 0
  | n + 1, f => Gf.add (sumF n f) (f n)
theorem sumF_congr {n : Nat} {f g : Nat → UInt8} (h : ∀ i, i < n → f i = g i) : sumF n f = sumF n g := by
  induction n with
  | zero => rfl
  | succ n ih => rw [sumF, sumF, ih (fun i hi => h i (by omega)), h n (by omega)]
theorem sumF_add (n : Nat) (f g : Nat → UInt8) : sumF n (fun i => Gf.add (f i) (g i)) = Gf.add (sumF n f) (sumF n g) := by
  induction n with
  | zero => exact (Gf.zero_add 0).symm
  | succ n ih => simp only [sumF, ih]; rw [Gf.add_assoc, Gf.add_assoc, Gf.add_left_comm (sumF n g)]
theorem sumF_zero (n : Nat) : sumF n (fun _ => 0) = 0 := by
  induction n with
  | zero => rfl
  | succ n ih => rw [sumF, ih]; rfl
theorem sumF_mul (n : Nat) (c : UInt8) (f : Nat → UInt8) : Gf.mul c (sumF n f) = sumF n (fun i => Gf.mul c (f i)) := by
  induction n with
  | zero => exact Gf.mul_zero c
  | succ n ih => rw [sumF, sumF, Gf.mul_add, ih]
theorem sumF_mul_right (n : Nat) (c : UInt8) (f : Nat → UInt8) : Gf.mul (sumF n f) c = sumF n (fun i => Gf.mul (f i) c) := by
  rw [Gf.mul_comm, sumF_mul]
  exact sumF_congr fun i _ => Gf.mul_comm _ _
theorem sumF_swap (m n : Nat) (f : Nat → Nat → UInt8) : sumF m (fun i => sumF n (fun j => f i j)) = sumF n (fun j => sumF m (fun i => f i j)) := by
  induction m with
  | zero => rw [sumF]; exact (sumF_zero n).symm
  | succ m ih => simp only [sumF]; rw [ih, ← sumF_add]
theorem sumF_one {n k : Nat} (hk : k < n) {f : Nat → UInt8} (h : ∀ i, i < n → i ≠ k → f i = 0) : sumF n f = f k := by
  induction n with
  | zero => omega
  | succ n ih =>
    rw [sumF]
    by_cases e : k = n
    · subst e
      rw [sumF_congr (g := fun _ => 0) (fun i hi => h i (by omega) (by omega)), sumF_zero, Gf.zero_add]
    · rw [ih (by omega) (fun i hi hne => h i (by omega) hne), h n (by omega) (fun h => e h.symm), Gf.add_zero]
theorem dotTo_sum (xs ys : List UInt8) : ∀ n, Gf.dotTo xs ys n = sumF n (fun k => Gf.mul (xs.getD k 0) (ys.getD k 0))
  | 0 => rfl
  | n + 1 => by rw [Gf.dotTo, sumF, dotTo_sum xs ys n]
theorem dot_sum {xs ys : List UInt8} {n : Nat} (h : xs.length = n) : Gf.dot xs ys = sumF n (fun k => Gf.mul (xs.getD k 0) (ys.getD k 0)) := by
  unfold Gf.dot; rw [h, dotTo_sum]
end Go.Proofs.Ythbjcafldbocpaa
namespace Go.Proofs.Ythbjcafldbocpaa
open Go.RowKit Go.Proofs.YthbjcafldbocpaaW.PrintWords
set_option linter.unusedVariables false
set_option linter.unusedSimpArgs false

theorem nI_set (xs : List UInt8) (i : Nat) (x : UInt8) : (nI xs).set i (x.toNat : Int) = nI (xs.set i x) := by simp [nI, List.map_set]
theorem nI_rep (n : Nat) : List.replicate n (0 : Int) = nI (List.replicate n 0) := by simp [nI]
theorem rd_nI (xs : List UInt8) (i : Nat) : rd (nI xs) (i : Int) = ((xs.getD i 0).toNat : Int) := by
  unfold rd nI
  rw [Int.toNat_natCast, List.getD_eq_getElem?_getD, List.getElem?_map, List.getD_eq_getElem?_getD]
  cases xs[i]? <;> simp
theorem w64 {e : Int} (h0 : -9223372036854775808 ≤ e) (h1 : e ≤ 9223372036854775807) : wrap64 e = e := by
  unfold wrap64
  omega
theorem w64_succ {i : Nat} (h : i ≤ 9223372036854775806) : wrap64 ((i : Int) + 1) = ((i + 1 : Nat) : Int) := by
  rw [w64 (by omega) (by omega)]; rfl
theorem w64_mul {i c : Nat} (h : i * c ≤ 9223372036854775807) : wrap64 ((i : Int) * (c : Int)) = ((i * c : Nat) : Int) := by
  rw [← Int.natCast_mul, w64 (by omega) (by omega)]
theorem w64_add {i c : Nat} (h : i + c ≤ 9223372036854775807) : wrap64 ((i : Int) + (c : Int)) = ((i + c : Nat) : Int) := by
  rw [← Int.natCast_add, w64 (by omega) (by omega)]
theorem w64_place {i c j : Nat} (h : i * c + j ≤ 9223372036854775807) : wrap64 (wrap64 ((i : Int) * (c : Int)) + (j : Int)) = ((i * c + j : Nat) : Int) := by
  rw [w64_mul (by omega), w64_add h]
theorem getD_set_same (xs : List UInt8) (p : Nat) (x : UInt8) (h : p < xs.length) : (xs.set p x).getD p 0 = x := by
  rw [List.getD_eq_getElem?_getD, List.getElem?_set]
  simp [h]
theorem add_xor (a b : UInt8) : Go.bits .xor .u8 (a.toNat : Int) (b.toNat : Int) = ((Gf.add a b).toNat : Int) := bxor_u8 a b
end Go.Proofs.Ythbjcafldbocpaa
namespace Go.Proofs.Ythbjcafldbocpaa
open Go.RowKit
set_option linter.unusedVariables false
set_option linter.unusedSimpArgs false

theorem blank_row (r c : Nat) (p : Nat) (w : World) (hr : r ≤ 64) (hc : c ≤ 64) (hp : Hid (p = r * c)) :
    Calls Try.prog 54 #[.int .i64 (r : Int), .int .i64 (c : Int)] w fun e w' => ∃ g, e = .returned (mV r c (some ⟨g, 0, none⟩) p p) ∧ Row w' g 5 (bVs (List.replicate p 0)) ∧ w.heap.size ≤ g ∧ Below w.heap.size w w' := by
  have hb : p ≤ 4096 := by
    rw [hp.out]
    exact Nat.le_trans (Nat.mul_le_mul hr hc) (by omega)
  have e1 : IntKind.i64.wrap ((r : Int) * (c : Int)) = (p : Int) := by rw [IntKind.wrap_i64, hp.out, Int.natCast_mul]; have := prod_bd (r := r) (c := c) (by omega) (by omega) (by omega) (by omega); omega
  have hmk := make_bytes p (by omega)
  go_enter Try.func54, Try.ntmps54
  go_wp2_with fail
  have hrow := row_made_bytes (w.alloc (Obj.cells #[Value.int IntKind.i64 (r : Int), Value.int IntKind.i64 (c : Int), Value.slice (some ⟨w.heap.size + 1, 0, none⟩) p p] 37)) p
  rw [World.size_alloc] at hrow
  refine bodyPost_ret (v := mV r c (some ⟨w.heap.size + 1, 0, none⟩) p p) (by simp [results, Try.results54, go_sem]) rfl ⟨_, rfl, hrow, by omega, ((Below.refl _ _).alloc (Nat.le_refl _) _).alloc (by simp) _⟩
end Go.Proofs.Ythbjcafldbocpaa
namespace Go.Proofs.Ythbjcafldbocpaa
open Go.RowKit
set_option linter.unusedVariables false
set_option linter.unusedSimpArgs false

def rowA (A : Option Addr) (c k : Nat) : Option Addr := if c = 0 then A else A.map (·.add k)
theorem rowA_plain {g o c k : Nat} (h : c ≠ 0) : rowA (some ⟨g, o, none⟩) c k = some ⟨g, o + k, none⟩ := by
  unfold rowA
  rw [if_neg h]
  simp [Addr.add]
theorem rd_row {w : World} {B n c k : Nat} {A : Option Addr} {xs : List UInt8} (h : Rd w B A n (bVs xs)) (hk : k + c ≤ n) : Rd w B (rowA A c k) c (bVs ((xs.drop k).take c)) := by
  have hl := h.len
  rw [bVs_length] at hl
  refine ⟨by rw [bVs_length, List.length_take, List.length_drop]; omega, fun hc => ?_⟩
  obtain ⟨g, o, rfl, hg, hcell⟩ := h.2 (by omega)
  refine ⟨g, o + k, rowA_plain (by omega), hg, fun j u hu => ?_⟩
  rw [Nat.add_assoc]
  refine hcell (k + j) u ?_
  rw [← hu]
  have hj : j < c := by
    rcases Nat.lt_or_ge j c with h | h
    · exact h
    · rw [List.getElem?_eq_none (by rw [bVs_length, List.length_take]; omega)] at hu; cases hu
  simp [bVs, List.getElem?_take, hj, List.getElem?_drop]
set_option maxHeartbeats 800000 in
theorem row_calls (r c i : Nat) (A : Option Addr) (n cap k k1 : Nat) (w : World) (hr : r ≤ 64) (hc : c ≤ 64) (hi : i < r) (hk : Hid (k = i * c)) (hk1 : Hid (k1 = (i + 1) * c)) (hn : k1 ≤ n) (hcap : n ≤ cap) :
    Calls Try.prog 57 #[mV r c A n cap, .int .i64 (i : Int)] w fun e w' => e = .returned (.slice (rowA A c k) c c) ∧ Below w.heap.size w w' := by
  have hkc : k + c = k1 := by rw [hk.out, hk1.out, Nat.add_mul]; omega
  have hb : k1 ≤ 4096 := by
    rw [hk1.out]
    exact Nat.le_trans (Nat.mul_le_mul (show i + 1 ≤ 64 by omega) hc) (by omega)
  have e1 : IntKind.i64.wrap ((i : Int) * (c : Int)) = (k : Int) := by rw [← Int.natCast_mul, ← hk.out, IntKind.wrap_i64]; omega
  have e2 : IntKind.i64.wrap (((i : Int) + 1) * (c : Int)) = (k1 : Int) := by
    have : ((i : Int) + 1) * (c : Int) = ((i + 1) * c : Nat) := by simp
    rw [this, ← hk1.out, IntKind.wrap_i64]; omega
  have HKC := Lib.hid hkc
  have e3 : IntKind.i64.wrap ((i : Int) + 1) = (i : Int) + 1 := by rw [IntKind.wrap_i64]; omega
  have hkk : k ≤ k1 := by omega
  by_cases hz : c = 0
  · obtain rfl : k1 = k := by omega
    have HA := Lib.hid (show rowA A c k1 = A by unfold rowA; rw [if_pos hz])
    have HZ := Lib.hid hz
    clear hz hkc
    go_enter Try.func57, Try.ntmps57
    go_wp2_with fail
    go_quiet (fail)
    go_wp2_with fail
    go_ret
    exact ⟨by rw [HA.out, HZ.out]; rfl, below_drewN ((Below.refl _ _).alloc (Nat.le_refl _) _) _⟩
  · have hne : ¬ k1 = k := by omega
    have HA := Lib.hid (show rowA A c k = A.map (·.add k) by unfold rowA; rw [if_neg hz])
    have HE := Lib.hid (show k1 - k = c by omega)
    clear hz hkc
    go_enter Try.func57, Try.ntmps57
    go_wp2_with fail
    go_quiet (fail)
    go_wp2_with fail
    go_ret
    exact ⟨by rw [HA.out]; show Ending.returned (Value.slice _ (k1 - k) (k1 - k)) = _; rw [HE.out], below_drewN ((Below.refl _ _).alloc (Nat.le_refl _) _) _⟩
end Go.Proofs.Ythbjcafldbocpaa
namespace Go.Proofs.Ythbjcafldbocpaa
open Go.RowKit
set_option linter.unusedVariables false
set_option linter.unusedSimpArgs false

def turnF (c : Nat) (xs : List UInt8) (j i : Nat) : UInt8 := xs.getD (i * c + j) 0
def turnD (r c : Nat) (xs : List UInt8) : List UInt8 := gridD c r (turnF c xs)
set_option maxRecDepth 100000 in
set_option maxHeartbeats 3200000 in
theorem turned_calls (r c n : Nat) (A : Option Addr) (cap : Nat) (xs : List UInt8) (w : World) (hr : r ≤ 64) (hc : c ≤ 64) (hn : Hid (n = r * c)) (hrd : Rd w w.heap.size A n (bVs xs)) (hcap : n ≤ cap) :
    Calls Try.prog 55 #[mV r c A n cap] w fun e w' => ∃ g, e = .returned (mV c r (some ⟨g, 0, none⟩) n n) ∧ Row w' g 5 (bVs (turnD r c xs)) ∧ w.heap.size ≤ g ∧ Below w.heap.size w w' := by
  have hn2 : Hid (n = c * r) := Lib.hid (by rw [hn.out, Nat.mul_comm])
  have S := ((Ctx.start w).box [.int .i64 r, .int .i64 c, .slice A n cap]).box [.int .i64 0, .int .i64 0, .slice none 0 0]
  obtain ⟨c0, c1, c2⟩ := S.cells 1 rfl
  go_enter Try.func55, Try.ntmps55
  go_wp2_with fail
  refine (blank_row c r n _ hc hr hn2).mono ?_
  rintro e w1 ⟨gt, rfl, hrow, hgt, hb⟩
  have hs := hb.size
  have hgl := hrow.lt
  simp at hs hgt
  replace S := (S.go hb).box [.int .i64 (c : Int), .int .i64 (r : Int), .slice (some ⟨gt, 0, none⟩) n n]
  replace hrow := hrow.alloc (.cells #[.int .i64 (c : Int), .int .i64 (r : Int), .slice (some ⟨gt, 0, none⟩) n n] 37)
  rw [World.size_alloc] at S
  obtain ⟨BS, hBS⟩ : ∃ BS : List (Nat × List Value), BS = [(w1.heap.size, [.int .i64 (c : Int), .int .i64 (r : Int), .slice (some ⟨gt, 0, none⟩) n n]), (w.heap.size + 1, [.int .i64 0, .int .i64 0, .slice none 0 0]), (w.heap.size, [.int .i64 r, .int .i64 c, .slice A n cap])] := ⟨_, rfl⟩
  rw [← hBS] at S
  have HC := Lib.hid (show ∀ x : World, Ctx w x BS [] → x.cell? ⟨w.heap.size, 0, none⟩ = some (.int .i64 r) ∧ x.cell? ⟨w.heap.size, 1, none⟩ = some (.int .i64 c) ∧ x.cell? ⟨w.heap.size, 2, none⟩ = some (.slice A n cap) ∧ x.cell? ⟨w1.heap.size, 0, none⟩ = some (.int .i64 c) ∧ x.cell? ⟨w1.heap.size, 1, none⟩ = some (.int .i64 r) ∧ x.cell? ⟨w1.heap.size, 2, none⟩ = some (.slice (some ⟨gt, 0, none⟩) n n) by
    rw [hBS]
    exact fun x q => ⟨(q.cells 2 rfl).1, (q.cells 2 rfl).2.1, (q.cells 2 rfl).2.2, (q.cells 0 rfl).1, (q.cells 0 rfl).2.1, (q.cells 0 rfl).2.2⟩)
  have HE := Lib.hid (show ∀ x : World, Ctx w x BS [] → Row x (w.heap.size + 1) 37 [.int .i64 0, .int .i64 0, .slice none 0 0] by rw [hBS]; exact fun x q => q.row 1 rfl)
  have HSET := Lib.hid (show ∀ (x : World) (q : Nat) (v : Value), Ctx w x BS [] → Ctx w (x.setCell ⟨gt, q, none⟩ v) BS [] by
    intro x q v h
    refine h.set (p := ⟨gt, q, none⟩) (by simp; omega) ?_ v
    rw [hBS]
    simp
    omega)
  clear hBS c0 c1 c2 hb
  obtain ⟨c0, c1, c2, d0, d1, d2⟩ := HC.out _ S
  have HF0 := fillC_start c r (turnF c xs)
  rw [← hn2.out] at HF0
  rw [HF0] at hrow
  have HS := Lib.hid S
  have HROW := Lib.hid hrow
  clear S hrow HF0
  go_wp2_with fail
  go_loopw [13] (fun v13 wr => ∃ i : Nat, i ≤ r ∧ v13 = .int .i64 (i : Int) ∧ Row wr gt 5 (bVs (fillC c r (turnF c xs) i 0)) ∧ Ctx w wr BS []) (fun v13 _ => r - (intOf v13).toNat)
  case atStart => exact ⟨0, by omega, rfl, HROW.out, HS.out⟩
  case round =>
    obtain ⟨i, hi, rfl, hrow, S⟩ := hrel
    clear HROW HS c0 c1 c2 d0 d1 d2
    obtain ⟨wo, rfl⟩ : ∃ wo : World, wo = wr := ⟨_, rfl⟩
    obtain ⟨c0, c1, c2, d0, d1, d2⟩ := HC.out _ S
    have HS := Lib.hid S
    have HROW := Lib.hid hrow
    clear S hrow
    by_cases hlt : i < r
    · go_wp2_with fail
      clear c0 c1 c2 d0 d1 d2
      go_loopw [18] (fun v18 wr => ∃ j : Nat, j ≤ c ∧ v18 = .int .i64 (j : Int) ∧ Row wr gt 5 (bVs (fillC c r (turnF c xs) i j)) ∧ Ctx w wr BS []) (fun v18 _ => c - (intOf v18).toNat)
      case atStart => exact ⟨0, by omega, rfl, HROW.out, HS.out⟩
      case round =>
        obtain ⟨j, hj, rfl, hrow, S⟩ := hrel
        clear HROW HS
        obtain ⟨c0, c1, c2, d0, d1, d2⟩ := HC.out _ S
        by_cases hlj : j < c
        · have HF := Lib.hid (fillC_set (R := c) (C := r) (i := j) (j := i) (turnF c xs) hlj hlt)
          obtain ⟨new, hnew⟩ : ∃ new, new = fillC c r (turnF c xs) i (j + 1) := ⟨_, rfl⟩
          rw [← hnew] at HF
          have HNEW := Lib.hid hnew
          have hlen := fillC_length c r i j (turnF c xs)
          have hq := place_lt hlj hlt
          have hp := place_lt hlt hlj
          obtain ⟨v, hv⟩ : ∃ v, v = xs.getD (i * c + j) 0 := ⟨_, rfl⟩
          have HV := Lib.hid hv
          rw [show turnF c xs j i = v from hv.symm] at HF
          have e1 : (i + 1) * c = i * c + c := by rw [Nat.add_mul]; omega
          have e2 : (j + 1) * r = j * r + r := by rw [Nat.add_mul]; omega
          have hk1 : i * c + c ≤ n := by rw [hn.out, ← e1]; exact Nat.mul_le_mul_right c hlt
          have hk2 : j * r + r ≤ n := by rw [hn2.out, ← e2]; exact Nat.mul_le_mul_right r hlj
          rw [← hn.out] at hp
          rw [← hn2.out] at hq hlen
          obtain ⟨kr, hkr⟩ : ∃ k, k = i * c := ⟨_, rfl⟩
          obtain ⟨kt, hkt⟩ : ∃ k, k = j * r := ⟨_, rfl⟩
          have HR1 := Lib.hid (fun w => row_calls c r j (some ⟨gt, 0, none⟩) n n kt (kt + r) w hc hr hlj hkt (Lib.hid (by rw [hkt]; exact e2.symm)) (by rw [hkt]; exact hk2) (Nat.le_refl _))
          have HR2 := Lib.hid (fun w => row_calls r c i A n cap kr (kr + c) w hr hc hlt hkr (Lib.hid (by rw [hkr]; exact e1.symm)) (by rw [hkr]; exact hk1) hcap)
          rw [rowA_plain (by omega), Nat.zero_add] at HR1
          rw [← hkr] at hp hv hk1
          rw [← hkt] at hq hk2 HF
          clear hkr hkt e1 e2 hnew HV
          obtain ⟨g, o, rfl, hg, hcell⟩ := rd_get hrd hp
          rw [← hv, ← Nat.add_assoc] at hcell
          rw [rowA_plain (by omega)] at HR2
          clear hv
          obtain ⟨P, hP⟩ : ∃ P : World → Prop, P = fun x => Ctx w x BS [] ∧ CurS x gt (kt + i) v new := ⟨_, rfl⟩
          have hp0 : P wr := by rw [hP]; exact ⟨S, _, by rw [hlen]; exact hq, HF.out, hrow⟩
          obtain ⟨cur, hcur⟩ : ∃ cur : World → Value, ∀ x, P x → x.cell? ⟨gt, kt + i, none⟩ = some (cur x) := by
            refine ⟨fun x => (x.cell? ⟨gt, kt + i, none⟩).getD (.bool false), fun x hx => ?_⟩
            rw [hP] at hx
            obtain ⟨old, h⟩ := hx.2.cell
            simp [h]
          have HG := Lib.hid (show ∀ x y : World, P x → Below x.heap.size x y → P y by rw [hP]; exact fun x y q hb => ⟨q.1.go hb, q.2.go hb⟩)
          have HD := Lib.hid (show ∀ x : World, P x → P x.drew by rw [hP]; exact fun x q => ⟨q.1.drew, q.2.drew⟩)
          have HST := Lib.hid (show ∀ x : World, P x → P (x.setCell ⟨gt, kt + i, none⟩ (.int .u8 (v.toNat : Int))) by rw [hP]; exact fun x q => ⟨HSET.out _ _ _ q.1, q.2.set⟩)
          have HCC := Lib.hid (show ∀ x : World, P x → x.cell? ⟨w.heap.size, 0, none⟩ = some (.int .i64 r) ∧ x.cell? ⟨w.heap.size, 1, none⟩ = some (.int .i64 c) ∧ x.cell? ⟨w.heap.size, 2, none⟩ = some (.slice (some ⟨g, o, none⟩) n cap) ∧ x.cell? ⟨w1.heap.size, 0, none⟩ = some (.int .i64 c) ∧ x.cell? ⟨w1.heap.size, 1, none⟩ = some (.int .i64 r) ∧ x.cell? ⟨w1.heap.size, 2, none⟩ = some (.slice (some ⟨gt, 0, none⟩) n n) ∧ x.cell? ⟨g, o + kr + j, none⟩ = some (.int .u8 (v.toNat : Int)) ∧ x.cell? ⟨gt, kt + i, none⟩ = some (cur x) ∧ x.frozen? ⟨gt, kt + i, none⟩ = false by
            intro x q
            have h := hcur x q
            rw [hP] at q
            obtain ⟨q1, q2, q3, q4, q5, q6⟩ := HC.out x q.1
            exact ⟨q1, q2, q3, q4, q5, q6, (q.1.below.cell (p := ⟨g, o + kr + j, none⟩) hg).trans hcell, h, q.2.frozen⟩)
          have HALL := Lib.hid (show ∀ x : World, P (x.setCell ⟨gt, kt + i, none⟩ (.int .u8 (v.toNat : Int))) → Ctx w (x.setCell ⟨gt, kt + i, none⟩ (.int .u8 (v.toNat : Int))) BS [] ∧ Row (x.setCell ⟨gt, kt + i, none⟩ (.int .u8 (v.toNat : Int))) gt 5 (bVs new) by rw [hP]; exact fun x q => ⟨q.1, q.2.fin⟩)
          clear hP hcur S hrow hcell
          go_wp2_with fail
          have hc := HCC.out _ hp0
          go_region_held3 (fun x => P x ∧ x.cell? ⟨w.heap.size, 0, none⟩ = some (.int .i64 r) ∧ x.cell? ⟨w.heap.size, 1, none⟩ = some (.int .i64 c) ∧ x.cell? ⟨w.heap.size, 2, none⟩ = some (.slice (some ⟨g, o, none⟩) n cap) ∧ x.cell? ⟨w1.heap.size, 0, none⟩ = some (.int .i64 c) ∧ x.cell? ⟨w1.heap.size, 1, none⟩ = some (.int .i64 r) ∧ x.cell? ⟨w1.heap.size, 2, none⟩ = some (.slice (some ⟨gt, 0, none⟩) n n) ∧ x.cell? ⟨g, o + kr + j, none⟩ = some (.int .u8 (v.toNat : Int)) ∧ x.cell? ⟨gt, kt + i, none⟩ = some (cur x) ∧ x.frozen? ⟨gt, kt + i, none⟩ = false)
            (first | (go_split_ands; have q := HG.out _ _ (by assumption) hbk; exact ⟨q, HCC.out _ q⟩) | (go_split_ands; have q := HST.out _ (by assumption); exact ⟨q, HCC.out _ q⟩) | (go_split_ands; have q := HD.out _ (by assumption); exact ⟨q, HCC.out _ q⟩))
            (first | (go_at_call 57; (first | (with_reducible refine (HR1.out _).mono ?_) | (with_reducible refine (HR2.out _).mono ?_)); rintro e wk ⟨rfl, hbk⟩))
          go_wp2_with fail
          go_split_ands
          go_roundw
          case rel => exact ⟨j + 1, by omega, by go_num, by rw [← HNEW.out]; exact (HALL.out _ (by assumption)).2, (HALL.out _ (by assumption)).1⟩
          case measure => simp [intOf]; omega
        · obtain rfl : j = c := by omega
          have HN := Lib.hid (fillC_next j r i (turnF j xs))
          go_wp2_with fail
          go_roundw
          case rel => exact ⟨i + 1, by omega, by go_num, by rw [← HN.out]; exact hrow, S⟩
          case measure => simp [intOf]; omega
    · obtain rfl : i = r := by omega
      obtain ⟨e0, e1, e2, f0, f1, f2⟩ := (HE.out _ HS.out).three
      have HN := Lib.hid (fillC_end c i (turnF c xs))
      go_wp2_with fail
      refine bodyPost_ret (v := mV c i (some ⟨gt, 0, none⟩) n n) (by simp [results, Try.results55, go_sem, e0, e1, e2]) rfl ⟨gt, rfl, ?_, by omega, below_set3 HS.out.below (by omega) _ _ _⟩
      have h := HROW.out
      rw [HN.out] at h
      exact h.far3 (by omega) _ _ _
end Go.Proofs.Ythbjcafldbocpaa
namespace Go.Proofs.Ythbjcafldbocpaa
open Go.RowKit
set_option linter.unusedVariables false
set_option linter.unusedSimpArgs false

def mulF (ca cb : Nat) (xs ys : List UInt8) (i j : Nat) : UInt8 := sumF ca fun k => Gf.mul (xs.getD (i * ca + k) 0) (ys.getD (k * cb + j) 0)
def mulG (ra ca cb : Nat) (xs ys : List UInt8) : List UInt8 := gridD ra cb (mulF ca cb xs ys)
theorem dot_rows {ra ca cb i j : Nat} {xs ys : List UInt8} (hx : xs.length = ra * ca) (hi : i < ra) (hj : j < cb) :
    Gf.dot ((xs.drop (i * ca)).take ca) (((turnD ca cb ys).drop (j * ca)).take ca) = mulF ca cb xs ys i j := by
  have hl : ((xs.drop (i * ca)).take ca).length = ca := by
    rw [List.length_take, List.length_drop, hx]
    have h : (i + 1) * ca ≤ ra * ca := Nat.mul_le_mul_right ca hi
    rw [Nat.add_mul] at h
    omega
  rw [dot_sum hl]
  unfold mulF turnD
  rw [grid_row _ hj]
  refine sumF_congr fun k hk => ?_
  congr 1
  · rw [List.getD_eq_getElem?_getD, List.getElem?_take, if_pos hk, List.getElem?_drop, List.getD_eq_getElem?_getD]
  · rw [List.getD_eq_getElem?_getD, List.getElem?_map, List.getElem?_range hk]
    rfl
theorem turnD_length (r c : Nat) (xs : List UInt8) : (turnD r c xs).length = c * r := grid_length _ _ _
def mulB (ra ca : Int) (n : Nat) (rb cb : Int) (m : Nat) : Bool := rightB ra ca n && rightB rb cb m && (ca == rb)
theorem right_natW {r c : Int} {n : Nat} (h : rightB r c n = true) : ∃ a b : Nat, r = a ∧ c = b ∧ a ≤ 64 ∧ b ≤ 64 ∧ n = a * b := by
  simp [rightB] at h
  refine ⟨r.toNat, c.toNat, by omega, by omega, by omega, by omega, ?_⟩
  apply Int.ofNat_inj.1
  rw [Int.natCast_mul, Int.toNat_of_nonneg h.1.1, Int.toNat_of_nonneg h.2.1.1]
  exact h.2.2
theorem mulB_natW {ra ca rb cb : Int} {na nb : Nat} (h : mulB ra ca na rb cb nb = true) : ∃ a b c : Nat, ra = a ∧ ca = b ∧ rb = b ∧ cb = c ∧ a ≤ 64 ∧ b ≤ 64 ∧ c ≤ 64 ∧ na = a * b ∧ nb = b * c := by
  simp [mulB] at h
  obtain ⟨a, b, h1, h2, h3, h4, h5⟩ := right_natW h.1.1
  obtain ⟨b', c, h6, h7, h8, h9, h10⟩ := right_natW h.1.2
  have := h.2
  obtain rfl : b = b' := by omega
  exact ⟨a, b, c, h1, h2, h6, h7, h3, h4, h9, h5, h10⟩
end Go.Proofs.Ythbjcafldbocpaa
namespace Go.Proofs.Ythbjcafldbocpaa
open Go.RowKit
set_option linter.unusedVariables false
set_option linter.unusedSimpArgs false
def LookMid (w : World) (AS : Option Addr) (cS nS regs outs reads n : Nat) (v : Value) (x : World) : Prop :=
  ∃ gk gr gs go gd : Nat, v = .pointer (some ⟨gk, 0, none⟩) ∧ LkG w.heap.size gk gr gs go gd regs outs reads n ∧ LkW x gk gr gs go gd regs outs reads n AS nS cS 0 ⟨List.replicate regs none, List.replicate outs none, 0⟩ ∧ Below w.heap.size w x
def LookPost (w : World) (AS : Option Addr) (l : List PS) (cS regs outs reads n : Nat) (e : Ending) (w' : World) : Prop :=
  ∃ gk gr gs go gd : Nat, LkG w.heap.size gk gr gs go gd regs outs reads n ∧ Below w.heap.size w w' ∧
    (∀ st, (vAll regs outs reads n l).2 = some st → e = .returned (.tuple #[.pointer (some ⟨gk, 0, none⟩), .int .i64 0]) ∧ LkW w' gk gr gs go gd regs outs reads n AS l.length cS (vAll regs outs reads n l).1 st) ∧
    ((vAll regs outs reads n l).2 = none → e = .returned (.tuple #[.pointer (some ⟨gk, 0, none⟩), .int .i64 250]) ∧ ∃ ld, Row w' gk 82 (lkV AS l.length cS regs outs reads n (vAll regs outs reads n l).1 gr gs go gd ld))
theorem st0_ok (nr no n : Nat) : VS.Ok ⟨List.replicate nr none, List.replicate no none, 0⟩ nr no n := by
  refine ⟨by simp, by simp, fun i l h => ?_, fun i l h => ?_⟩ <;> (rw [List.getD_eq_getElem?_getD, List.getElem?_replicate] at h; split at h <;> cases h)
theorem mid_of {w x : World} {AS : Option Addr} {cS nS regs outs reads n gk gr gs go gd : Nat} {v : Value} {L1 L2 L3 L4 : List Value} (e1 : L1 = bVs (flatR (List.replicate regs none))) (e2 : L2 = bolVs (somes (List.replicate regs none))) (e3 : L3 = bVs (flatR (List.replicate outs none))) (e4 : L4 = bolVs (somes (List.replicate outs none)))
    (hv : v = .pointer (some ⟨gk, 0, none⟩)) (hk : Row x gk 82 (lkV AS nS cS regs outs reads n 0 gr gs go gd 0)) (hs : Row x gs 4 L2) (hr : Row x gr 87 L1) (hd : Row x gd 4 L4) (ho : Row x go 87 L3)
    (hb : Below w.heap.size w x) (lo : w.heap.size ≤ gk ∧ w.heap.size ≤ gr ∧ w.heap.size ≤ gs ∧ w.heap.size ≤ go ∧ w.heap.size ≤ gd) (ne : gs ≠ gk ∧ gr ≠ gk ∧ gr ≠ gs ∧ gd ≠ gk ∧ go ≠ gk ∧ go ≠ gd ∧ gs ≠ go ∧ gr ≠ go ∧ gs ≠ gd ∧ gr ≠ gd) (hn : n ≤ 64) (hrd : reads < 2 ^ 64) : LookMid w AS cS nS regs outs reads n v x := by
  subst e1 e2 e3 e4
  obtain ⟨a1, a2, a3, a4, a5⟩ := lo
  obtain ⟨b1, b2, b3, b4, b5, b6, b7, b8, b9, b10⟩ := ne
  exact ⟨gk, gr, gs, go, gd, hv, ⟨a1, a2, a3, a4, a5, b1, b2, b3, b4, b5, b6, b7, b8, b9, b10, hn, hrd⟩, ⟨hk, hs, hr, hd, ho, st0_ok _ _ _, show (0 : Nat) < 2 ^ 64 by decide⟩, hb⟩
theorem below_al {w x : World} (h : Below w.heap.size w x) (o : Obj) : Below w.heap.size w (x.alloc o) := h.alloc h.size o
theorem below_dr {w x : World} (h : Below w.heap.size w x) : Below w.heap.size w x.drew := ⟨h.os, h.tape, h.output, h.size, h.block⟩
theorem cs_alloc4 {x : World} {a b c d : Addr} {p q r s : Value} (h : x.cell? a = some p ∧ x.cell? b = some q ∧ x.cell? c = some r ∧ x.cell? d = some s) (o : Obj) : (x.alloc o).cell? a = some p ∧ (x.alloc o).cell? b = some q ∧ (x.alloc o).cell? c = some r ∧ (x.alloc o).cell? d = some s := by
  have hc : ∀ {a : Addr} {p : Value}, x.cell? a = some p → (x.alloc o).cell? a = some p := fun h => (World.cell?_alloc_some x _ o (by rw [h]; rfl)).trans h
  exact ⟨hc h.1, hc h.2.1, hc h.2.2.1, hc h.2.2.2⟩
set_option maxRecDepth 100000 in
set_option maxHeartbeats 4000000 in
theorem look_yes (AS : Option Addr) (l : List PS) (cS regs outs reads n : Nat) (w : World) (hl : StepsAt w w.heap.size AS l) (hr : regs ≤ 256) (ho : outs ≤ 64) (hlen : l.length ≤ 65536) (hn : n ≤ 64) (hrd : reads < 2 ^ 64) (hok : ∀ s ∈ l, s.Ok)
    (hwr : ∀ w1, Below w.heap.size w w1 → Calls Try.prog 48 #[.agg #[.slice AS l.length cS, .int .i64 (regs : Int), .int .i64 (outs : Int), .int .u64 (reads : Int)]] w1 fun e w' => ∃ v, e = .returned (.tuple #[v, .int .i64 0]) ∧ Below w1.heap.size w1 w') :
    Calls Try.prog 30 #[.agg #[.slice AS l.length cS, .int .i64 (regs : Int), .int .i64 (outs : Int), .int .u64 (reads : Int)], .int .i64 (n : Int)] w fun e w' => LookPost w AS l cS regs outs reads n e w' := by
  have h0 : decide ((n : Int) < 0) = false := decide_eq_false (by omega)
  have h1 : decide ((64 : Int) < (n : Int)) = false := decide_eq_false (by omega)
  go_enter Try.func30, Try.ntmps30
  go_wp2_with fail
  have q : Below w.heap.size w (w.alloc (.cells #[.slice AS l.length cS, .int .i64 (regs : Int), .int .i64 (outs : Int), .int .u64 (reads : Int)] 26)) := (Below.refl _ _).alloc (Nat.le_refl _) _
  have hp0 := Row.new w [.slice AS l.length cS, .int .i64 (regs : Int), .int .i64 (outs : Int), .int .u64 (reads : Int)] 26
  refine (hwr _ q).mono ?_
  rintro e w1 ⟨v, rfl, hb⟩
  have hp1 := hp0.below hb hp0.lt
  have q1 : Below w.heap.size w w1 := q.trans (hb.mono (by simp))
  have p0 : w1.cell? ⟨w.heap.size, 0, none⟩ = some (.slice AS l.length cS) := hp1.cell 0
  have p1 : w1.cell? ⟨w.heap.size, 1, none⟩ = some (.int .i64 (regs : Int)) := hp1.cell 1
  have p2 : w1.cell? ⟨w.heap.size, 2, none⟩ = some (.int .i64 (outs : Int)) := hp1.cell 2
  have p3 : w1.cell? ⟨w.heap.size, 3, none⟩ = some (.int .u64 (reads : Int)) := hp1.cell 3
  clear hp0 hb
  have hm1 := fun w => make_content regs hr w
  have hm2 := fun w => make_bools regs hr w
  have hm3 := fun w => make_content outs (by omega) w
  have hm4 := fun w => make_bools outs (by omega) w
  obtain ⟨L1, hL1⟩ : ∃ L1, L1 = bVs (flatR (List.replicate regs none)) := ⟨_, rfl⟩
  obtain ⟨L2, hL2⟩ : ∃ L2, L2 = bolVs (somes (List.replicate regs none)) := ⟨_, rfl⟩
  obtain ⟨L3, hL3⟩ : ∃ L3, L3 = bVs (flatR (List.replicate outs none)) := ⟨_, rfl⟩
  obtain ⟨L4, hL4⟩ : ∃ L4, L4 = bolVs (somes (List.replicate outs none)) := ⟨_, rfl⟩
  rw [← hL1] at hm1
  rw [← hL2] at hm2
  rw [← hL3] at hm3
  rw [← hL4] at hm4
  have HL1 := Lib.hid hL1
  have HL2 := Lib.hid hL2
  have HL3 := Lib.hid hL3
  have HL4 := Lib.hid hL4
  have HP1 := Lib.hid hp1
  have HQ1 := Lib.hid q1
  have LT1 := Lib.hid (show w.heap.size < w1.heap.size from hp1.lt)
  clear hL1 hL2 hL3 hL4 hp1 q1 hwr q
  go_wp2_with fail
  go_cut [8] from 22 to 37 (fun s8 wx => LookMid w AS cS l.length regs outs reads n s8 wx)
  case first =>
    refine wp_region_held_drew (S := (fun x => x.cell? ⟨w.heap.size, 0, none⟩ = some (.slice AS l.length cS) ∧ x.cell? ⟨w.heap.size, 1, none⟩ = some (.int .i64 (regs : Int)) ∧ x.cell? ⟨w.heap.size, 2, none⟩ = some (.int .i64 (outs : Int)) ∧ x.cell? ⟨w.heap.size, 3, none⟩ = some (.int .u64 (reads : Int)))) (by kernel_rfl) ⟨p0, p1, p2, p3⟩ (fun hHeld => ?_)
    refine wpAnyH_take (i := 0) (v := ?_) rfl (by kernel_rfl) (by kernel_rfl) (by kernel_rfl) (fun _ _ _ h => h) (Or.inl ⟨by kernel_rfl, ?_⟩) (by assumption) ?_
    rotate_left
    · (intro w hSw; (try dsimp only at hSw); go_simp; (try with_reducible rfl))
    try simp only [List.getElem_toArray, List.getElem_cons_succ, List.getElem_cons_zero, Act.put, List.setIfInBounds_toArray, List.set_cons_zero, List.set_cons_succ]
    refine wpAnyH_take (i := 1) (v := ?_) rfl (by kernel_rfl) (by kernel_rfl) (by kernel_rfl) (fun _ _ _ h => h) (Or.inl ⟨by kernel_rfl, ?_⟩) (by assumption) ?_
    rotate_left
    · (intro w hSw; (try dsimp only at hSw); go_simp; (try with_reducible rfl))
    try simp only [List.getElem_toArray, List.getElem_cons_succ, List.getElem_cons_zero, Act.put, List.setIfInBounds_toArray, List.set_cons_zero, List.set_cons_succ]
    refine wpAnyH_take (i := 2) (v := ?_) rfl (by kernel_rfl) (by kernel_rfl) (by kernel_rfl) (fun _ _ _ h => h) (Or.inl ⟨by kernel_rfl, ?_⟩) (by assumption) ?_
    rotate_left
    · (intro w hSw; (try dsimp only at hSw); go_simp; (try with_reducible rfl))
    try simp only [List.getElem_toArray, List.getElem_cons_succ, List.getElem_cons_zero, Act.put, List.setIfInBounds_toArray, List.set_cons_zero, List.set_cons_succ]
    refine wpAnyH_take (i := 3) (v := ?_) rfl (by kernel_rfl) (by kernel_rfl) (by kernel_rfl) (fun _ _ _ h => h) (Or.inl ⟨by kernel_rfl, ?_⟩) (by assumption) ?_
    rotate_left
    · (intro w hSw; (try dsimp only at hSw); go_simp; (try with_reducible rfl))
    try simp only [List.getElem_toArray, List.getElem_cons_succ, List.getElem_cons_zero, Act.put, List.setIfInBounds_toArray, List.set_cons_zero, List.set_cons_succ]
    refine wpAnyH_take (i := 5) (v := ?_) rfl (by kernel_rfl) (by kernel_rfl) (by kernel_rfl) (fun _ _ _ h => h) (Or.inl ⟨by kernel_rfl, ?_⟩) (by assumption) ?_
    rotate_left
    · (intro w hSw; (try dsimp only at hSw); go_simp; (try with_reducible rfl))
    try simp only [List.getElem_toArray, List.getElem_cons_succ, List.getElem_cons_zero, Act.put, List.setIfInBounds_toArray, List.set_cons_zero, List.set_cons_succ]
    refine wpAnyH_take (i := 6) (v := ?_) rfl (by kernel_rfl) (by kernel_rfl) (by kernel_rfl) (fun _ _ _ h => h) (Or.inl ⟨by kernel_rfl, ?_⟩) (by assumption) ?_
    rotate_left
    · (intro w hSw; (try dsimp only at hSw); go_simp; (try with_reducible rfl))
    try simp only [List.getElem_toArray, List.getElem_cons_succ, List.getElem_cons_zero, Act.put, List.setIfInBounds_toArray, List.set_cons_zero, List.set_cons_succ]
    refine wpAnyH_take (i := 8) (v := ?_) rfl (by kernel_rfl) (by kernel_rfl) (by kernel_rfl) (fun _ _ _ h => h) (Or.inl ⟨by kernel_rfl, ?_⟩) (by assumption) ?_
    rotate_left
    · (intro w hSw; (try dsimp only at hSw); go_simp; (try with_reducible rfl))
    try simp only [List.getElem_toArray, List.getElem_cons_succ, List.getElem_cons_zero, Act.put, List.setIfInBounds_toArray, List.set_cons_zero, List.set_cons_succ]
    refine wpAnyH_take (i := 9) (v := ?_) rfl (by kernel_rfl) (by kernel_rfl) (by kernel_rfl) (fun _ _ _ h => h) (Or.inl ⟨by kernel_rfl, ?_⟩) (by assumption) ?_
    rotate_left
    · (intro w hSw; (try dsimp only at hSw); go_simp; (try with_reducible rfl))
    try simp only [List.getElem_toArray, List.getElem_cons_succ, List.getElem_cons_zero, Act.put, List.setIfInBounds_toArray, List.set_cons_zero, List.set_cons_succ]
    refine wpAnyH_take (i := 11) (v := ?_) rfl (by kernel_rfl) (by kernel_rfl) (by kernel_rfl) (fun _ _ _ h => h) (Or.inl ⟨by kernel_rfl, ?_⟩) (by assumption) ?_
    rotate_left
    · (intro w hSw; (try dsimp only at hSw); go_simp; (try with_reducible rfl))
    try simp only [List.getElem_toArray, List.getElem_cons_succ, List.getElem_cons_zero, Act.put, List.setIfInBounds_toArray, List.set_cons_zero, List.set_cons_succ]
    refine wpAnyH_take (i := 12) (v := ?_) rfl (by kernel_rfl) (by kernel_rfl) (by kernel_rfl) (fun _ _ _ h => h) (Or.inl ⟨by kernel_rfl, ?_⟩) (by assumption) ?_
    rotate_left
    · (intro w hSw; (try dsimp only at hSw); go_simp; (try with_reducible rfl))
    try simp only [List.getElem_toArray, List.getElem_cons_succ, List.getElem_cons_zero, Act.put, List.setIfInBounds_toArray, List.set_cons_zero, List.set_cons_succ]
    --NODES
    refine wpAnyH_ready (rs := [4, 7, 10, 13]) (by kernel_rfl) (by simp) ?_
    refine AllReadyH.cons rfl (fun K hK => ?_) (AllReadyH.cons rfl (fun K hK => ?_) (AllReadyH.cons rfl (fun K hK => ?_) (AllReadyH.cons rfl (fun K hK => ?_) (AllReadyH.nil))))
    · go_simp
      refine hK.out _ _ (cs_alloc4 hHeld _) (fun hHeld => ?_)
      clear hK K
      try simp only [List.getElem_toArray, List.getElem_cons_succ, List.getElem_cons_zero, Act.put, List.setIfInBounds_toArray, List.set_cons_zero, List.set_cons_succ]
      refine wpAnyH_ready (rs := [7, 10, 13]) (by kernel_rfl) (by simp) ?_
      refine AllReadyH.cons rfl (fun K hK => ?_) (AllReadyH.cons rfl (fun K hK => ?_) (AllReadyH.cons rfl (fun K hK => ?_) (AllReadyH.nil)))
      · go_simp
        refine hK.out _ _ (cs_alloc4 hHeld _) (fun hHeld => ?_)
        clear hK K
        try simp only [List.getElem_toArray, List.getElem_cons_succ, List.getElem_cons_zero, Act.put, List.setIfInBounds_toArray, List.set_cons_zero, List.set_cons_succ]
        refine wpAnyH_ready (rs := [10, 13]) (by kernel_rfl) (by simp) ?_
        refine AllReadyH.cons rfl (fun K hK => ?_) (AllReadyH.cons rfl (fun K hK => ?_) (AllReadyH.nil))
        · go_simp
          refine hK.out _ _ (cs_alloc4 hHeld _) (fun hHeld => ?_)
          clear hK K
          try simp only [List.getElem_toArray, List.getElem_cons_succ, List.getElem_cons_zero, Act.put, List.setIfInBounds_toArray, List.set_cons_zero, List.set_cons_succ]
          refine wpAnyH_ready (rs := [13]) (by kernel_rfl) (by simp) ?_
          refine AllReadyH.cons rfl (fun K hK => ?_) (AllReadyH.nil)
          · go_simp
            refine hK.out _ _ (cs_alloc4 hHeld _) (fun hHeld => ?_)
            clear hK K
            try simp only [List.getElem_toArray, List.getElem_cons_succ, List.getElem_cons_zero, Act.put, List.setIfInBounds_toArray, List.set_cons_zero, List.set_cons_succ]
            refine wpAnyH_ready (rs := [14]) (by kernel_rfl) (by simp) ?_
            refine AllReadyH.cons rfl (fun K hK => ?_) AllReadyH.nil
            go_simp
            refine hK.out _ _ hHeld (fun hHeld => ?_)
            clear hK K
            try simp only [List.getElem_toArray, List.getElem_cons_succ, List.getElem_cons_zero, Act.put, List.setIfInBounds_toArray, List.set_cons_zero, List.set_cons_succ]
            refine wpAnyH_ready (rs := [15]) (by kernel_rfl) (by simp) ?_
            refine AllReadyH.cons rfl (fun K hK => ?_) AllReadyH.nil
            go_simp
            refine hK.out _ _ (cs_alloc4 hHeld _) (fun hHeld => ?_)
            clear hK K
            try simp only [List.getElem_toArray, List.getElem_cons_succ, List.getElem_cons_zero, Act.put, List.setIfInBounds_toArray, List.set_cons_zero, List.set_cons_succ]
            refine wpAnyH_ready (rs := [16]) (by kernel_rfl) (by simp) ?_
            refine AllReadyH.cons rfl (fun K hK => ?_) AllReadyH.nil
            go_simp
            refine hK.out _ _ hHeld (fun hHeld => ?_)
            clear hK K
            try simp only [List.getElem_toArray, List.getElem_cons_succ, List.getElem_cons_zero, Act.put, List.setIfInBounds_toArray, List.set_cons_zero, List.set_cons_succ]
            refine wpAnyH_done (by kernel_rfl) ?_ _
            go_wp2_with fail
            go_meet
            exact mid_of HL1.out HL2.out HL3.out HL4.out rfl (by repeat' (first | with_reducible refine Row.drew ?_ | with_reducible refine Row.newE _ _ _ (by simp) | exact Row.newE _ _ _ (by simp) | with_reducible refine Row.alloc ?_ _)) (by repeat' (first | with_reducible refine Row.drew ?_ | with_reducible refine Row.newE _ _ _ (by simp) | exact Row.newE _ _ _ (by simp) | with_reducible refine Row.alloc ?_ _)) (by repeat' (first | with_reducible refine Row.drew ?_ | with_reducible refine Row.newE _ _ _ (by simp) | exact Row.newE _ _ _ (by simp) | with_reducible refine Row.alloc ?_ _)) (by repeat' (first | with_reducible refine Row.drew ?_ | with_reducible refine Row.newE _ _ _ (by simp) | exact Row.newE _ _ _ (by simp) | with_reducible refine Row.alloc ?_ _)) (by repeat' (first | with_reducible refine Row.drew ?_ | with_reducible refine Row.newE _ _ _ (by simp) | exact Row.newE _ _ _ (by simp) | with_reducible refine Row.alloc ?_ _)) (by repeat' (first | with_reducible exact HQ1.out | with_reducible refine below_dr ?_ | with_reducible refine below_al ?_ _)) (by have := LT1.out; refine ⟨?_, ?_, ?_, ?_, ?_⟩ <;> omega) (by refine ⟨?_, ?_, ?_, ?_, ?_, ?_, ?_, ?_, ?_, ?_⟩ <;> omega) hn hrd
        · go_simp
          refine hK.out _ _ (cs_alloc4 hHeld _) (fun hHeld => ?_)
          clear hK K
          try simp only [List.getElem_toArray, List.getElem_cons_succ, List.getElem_cons_zero, Act.put, List.setIfInBounds_toArray, List.set_cons_zero, List.set_cons_succ]
          refine wpAnyH_ready (rs := [10]) (by kernel_rfl) (by simp) ?_
          refine AllReadyH.cons rfl (fun K hK => ?_) (AllReadyH.nil)
          · go_simp
            refine hK.out _ _ (cs_alloc4 hHeld _) (fun hHeld => ?_)
            clear hK K
            try simp only [List.getElem_toArray, List.getElem_cons_succ, List.getElem_cons_zero, Act.put, List.setIfInBounds_toArray, List.set_cons_zero, List.set_cons_succ]
            refine wpAnyH_ready (rs := [14]) (by kernel_rfl) (by simp) ?_
            refine AllReadyH.cons rfl (fun K hK => ?_) AllReadyH.nil
            go_simp
            refine hK.out _ _ hHeld (fun hHeld => ?_)
            clear hK K
            try simp only [List.getElem_toArray, List.getElem_cons_succ, List.getElem_cons_zero, Act.put, List.setIfInBounds_toArray, List.set_cons_zero, List.set_cons_succ]
            refine wpAnyH_ready (rs := [15]) (by kernel_rfl) (by simp) ?_
            refine AllReadyH.cons rfl (fun K hK => ?_) AllReadyH.nil
            go_simp
            refine hK.out _ _ (cs_alloc4 hHeld _) (fun hHeld => ?_)
            clear hK K
            try simp only [List.getElem_toArray, List.getElem_cons_succ, List.getElem_cons_zero, Act.put, List.setIfInBounds_toArray, List.set_cons_zero, List.set_cons_succ]
            refine wpAnyH_ready (rs := [16]) (by kernel_rfl) (by simp) ?_
            refine AllReadyH.cons rfl (fun K hK => ?_) AllReadyH.nil
            go_simp
            refine hK.out _ _ hHeld (fun hHeld => ?_)
            clear hK K
            try simp only [List.getElem_toArray, List.getElem_cons_succ, List.getElem_cons_zero, Act.put, List.setIfInBounds_toArray, List.set_cons_zero, List.set_cons_succ]
            refine wpAnyH_done (by kernel_rfl) ?_ _
            go_wp2_with fail
            go_meet
            exact mid_of HL1.out HL2.out HL3.out HL4.out rfl (by repeat' (first | with_reducible refine Row.drew ?_ | with_reducible refine Row.newE _ _ _ (by simp) | exact Row.newE _ _ _ (by simp) | with_reducible refine Row.alloc ?_ _)) (by repeat' (first | with_reducible refine Row.drew ?_ | with_reducible refine Row.newE _ _ _ (by simp) | exact Row.newE _ _ _ (by simp) | with_reducible refine Row.alloc ?_ _)) (by repeat' (first | with_reducible refine Row.drew ?_ | with_reducible refine Row.newE _ _ _ (by simp) | exact Row.newE _ _ _ (by simp) | with_reducible refine Row.alloc ?_ _)) (by repeat' (first | with_reducible refine Row.drew ?_ | with_reducible refine Row.newE _ _ _ (by simp) | exact Row.newE _ _ _ (by simp) | with_reducible refine Row.alloc ?_ _)) (by repeat' (first | with_reducible refine Row.drew ?_ | with_reducible refine Row.newE _ _ _ (by simp) | exact Row.newE _ _ _ (by simp) | with_reducible refine Row.alloc ?_ _)) (by repeat' (first | with_reducible exact HQ1.out | with_reducible refine below_dr ?_ | with_reducible refine below_al ?_ _)) (by have := LT1.out; refine ⟨?_, ?_, ?_, ?_, ?_⟩ <;> omega) (by refine ⟨?_, ?_, ?_, ?_, ?_, ?_, ?_, ?_, ?_, ?_⟩ <;> omega) hn hrd
      · go_simp
        refine hK.out _ _ (cs_alloc4 hHeld _) (fun hHeld => ?_)
        clear hK K
        try simp only [List.getElem_toArray, List.getElem_cons_succ, List.getElem_cons_zero, Act.put, List.setIfInBounds_toArray, List.set_cons_zero, List.set_cons_succ]
        refine wpAnyH_ready (rs := [7, 13]) (by kernel_rfl) (by simp) ?_
        refine AllReadyH.cons rfl (fun K hK => ?_) (AllReadyH.cons rfl (fun K hK => ?_) (AllReadyH.nil))
        · go_simp
          refine hK.out _ _ (cs_alloc4 hHeld _) (fun hHeld => ?_)
          clear hK K
          try simp only [List.getElem_toArray, List.getElem_cons_succ, List.getElem_cons_zero, Act.put, List.setIfInBounds_toArray, List.set_cons_zero, List.set_cons_succ]
          refine wpAnyH_ready (rs := [13]) (by kernel_rfl) (by simp) ?_
          refine AllReadyH.cons rfl (fun K hK => ?_) (AllReadyH.nil)
          · go_simp
            refine hK.out _ _ (cs_alloc4 hHeld _) (fun hHeld => ?_)
            clear hK K
            try simp only [List.getElem_toArray, List.getElem_cons_succ, List.getElem_cons_zero, Act.put, List.setIfInBounds_toArray, List.set_cons_zero, List.set_cons_succ]
            refine wpAnyH_ready (rs := [14]) (by kernel_rfl) (by simp) ?_
            refine AllReadyH.cons rfl (fun K hK => ?_) AllReadyH.nil
            go_simp
            refine hK.out _ _ hHeld (fun hHeld => ?_)
            clear hK K
            try simp only [List.getElem_toArray, List.getElem_cons_succ, List.getElem_cons_zero, Act.put, List.setIfInBounds_toArray, List.set_cons_zero, List.set_cons_succ]
            refine wpAnyH_ready (rs := [15]) (by kernel_rfl) (by simp) ?_
            refine AllReadyH.cons rfl (fun K hK => ?_) AllReadyH.nil
            go_simp
            refine hK.out _ _ (cs_alloc4 hHeld _) (fun hHeld => ?_)
            clear hK K
            try simp only [List.getElem_toArray, List.getElem_cons_succ, List.getElem_cons_zero, Act.put, List.setIfInBounds_toArray, List.set_cons_zero, List.set_cons_succ]
            refine wpAnyH_ready (rs := [16]) (by kernel_rfl) (by simp) ?_
            refine AllReadyH.cons rfl (fun K hK => ?_) AllReadyH.nil
            go_simp
            refine hK.out _ _ hHeld (fun hHeld => ?_)
            clear hK K
            try simp only [List.getElem_toArray, List.getElem_cons_succ, List.getElem_cons_zero, Act.put, List.setIfInBounds_toArray, List.set_cons_zero, List.set_cons_succ]
            refine wpAnyH_done (by kernel_rfl) ?_ _
            go_wp2_with fail
            go_meet
            exact mid_of HL1.out HL2.out HL3.out HL4.out rfl (by repeat' (first | with_reducible refine Row.drew ?_ | with_reducible refine Row.newE _ _ _ (by simp) | exact Row.newE _ _ _ (by simp) | with_reducible refine Row.alloc ?_ _)) (by repeat' (first | with_reducible refine Row.drew ?_ | with_reducible refine Row.newE _ _ _ (by simp) | exact Row.newE _ _ _ (by simp) | with_reducible refine Row.alloc ?_ _)) (by repeat' (first | with_reducible refine Row.drew ?_ | with_reducible refine Row.newE _ _ _ (by simp) | exact Row.newE _ _ _ (by simp) | with_reducible refine Row.alloc ?_ _)) (by repeat' (first | with_reducible refine Row.drew ?_ | with_reducible refine Row.newE _ _ _ (by simp) | exact Row.newE _ _ _ (by simp) | with_reducible refine Row.alloc ?_ _)) (by repeat' (first | with_reducible refine Row.drew ?_ | with_reducible refine Row.newE _ _ _ (by simp) | exact Row.newE _ _ _ (by simp) | with_reducible refine Row.alloc ?_ _)) (by repeat' (first | with_reducible exact HQ1.out | with_reducible refine below_dr ?_ | with_reducible refine below_al ?_ _)) (by have := LT1.out; refine ⟨?_, ?_, ?_, ?_, ?_⟩ <;> omega) (by refine ⟨?_, ?_, ?_, ?_, ?_, ?_, ?_, ?_, ?_, ?_⟩ <;> omega) hn hrd
        · go_simp
          refine hK.out _ _ (cs_alloc4 hHeld _) (fun hHeld => ?_)
          clear hK K
          try simp only [List.getElem_toArray, List.getElem_cons_succ, List.getElem_cons_zero, Act.put, List.setIfInBounds_toArray, List.set_cons_zero, List.set_cons_succ]
          refine wpAnyH_ready (rs := [7]) (by kernel_rfl) (by simp) ?_
          refine AllReadyH.cons rfl (fun K hK => ?_) (AllReadyH.nil)
          · go_simp
            refine hK.out _ _ (cs_alloc4 hHeld _) (fun hHeld => ?_)
            clear hK K
            try simp only [List.getElem_toArray, List.getElem_cons_succ, List.getElem_cons_zero, Act.put, List.setIfInBounds_toArray, List.set_cons_zero, List.set_cons_succ]
            refine wpAnyH_ready (rs := [14]) (by kernel_rfl) (by simp) ?_
            refine AllReadyH.cons rfl (fun K hK => ?_) AllReadyH.nil
            go_simp
            refine hK.out _ _ hHeld (fun hHeld => ?_)
            clear hK K
            try simp only [List.getElem_toArray, List.getElem_cons_succ, List.getElem_cons_zero, Act.put, List.setIfInBounds_toArray, List.set_cons_zero, List.set_cons_succ]
            refine wpAnyH_ready (rs := [15]) (by kernel_rfl) (by simp) ?_
            refine AllReadyH.cons rfl (fun K hK => ?_) AllReadyH.nil
            go_simp
            refine hK.out _ _ (cs_alloc4 hHeld _) (fun hHeld => ?_)
            clear hK K
            try simp only [List.getElem_toArray, List.getElem_cons_succ, List.getElem_cons_zero, Act.put, List.setIfInBounds_toArray, List.set_cons_zero, List.set_cons_succ]
            refine wpAnyH_ready (rs := [16]) (by kernel_rfl) (by simp) ?_
            refine AllReadyH.cons rfl (fun K hK => ?_) AllReadyH.nil
            go_simp
            refine hK.out _ _ hHeld (fun hHeld => ?_)
            clear hK K
            try simp only [List.getElem_toArray, List.getElem_cons_succ, List.getElem_cons_zero, Act.put, List.setIfInBounds_toArray, List.set_cons_zero, List.set_cons_succ]
            refine wpAnyH_done (by kernel_rfl) ?_ _
            go_wp2_with fail
            go_meet
            exact mid_of HL1.out HL2.out HL3.out HL4.out rfl (by repeat' (first | with_reducible refine Row.drew ?_ | with_reducible refine Row.newE _ _ _ (by simp) | exact Row.newE _ _ _ (by simp) | with_reducible refine Row.alloc ?_ _)) (by repeat' (first | with_reducible refine Row.drew ?_ | with_reducible refine Row.newE _ _ _ (by simp) | exact Row.newE _ _ _ (by simp) | with_reducible refine Row.alloc ?_ _)) (by repeat' (first | with_reducible refine Row.drew ?_ | with_reducible refine Row.newE _ _ _ (by simp) | exact Row.newE _ _ _ (by simp) | with_reducible refine Row.alloc ?_ _)) (by repeat' (first | with_reducible refine Row.drew ?_ | with_reducible refine Row.newE _ _ _ (by simp) | exact Row.newE _ _ _ (by simp) | with_reducible refine Row.alloc ?_ _)) (by repeat' (first | with_reducible refine Row.drew ?_ | with_reducible refine Row.newE _ _ _ (by simp) | exact Row.newE _ _ _ (by simp) | with_reducible refine Row.alloc ?_ _)) (by repeat' (first | with_reducible exact HQ1.out | with_reducible refine below_dr ?_ | with_reducible refine below_al ?_ _)) (by have := LT1.out; refine ⟨?_, ?_, ?_, ?_, ?_⟩ <;> omega) (by refine ⟨?_, ?_, ?_, ?_, ?_, ?_, ?_, ?_, ?_, ?_⟩ <;> omega) hn hrd
      · go_simp
        refine hK.out _ _ (cs_alloc4 hHeld _) (fun hHeld => ?_)
        clear hK K
        try simp only [List.getElem_toArray, List.getElem_cons_succ, List.getElem_cons_zero, Act.put, List.setIfInBounds_toArray, List.set_cons_zero, List.set_cons_succ]
        refine wpAnyH_ready (rs := [7, 10]) (by kernel_rfl) (by simp) ?_
        refine AllReadyH.cons rfl (fun K hK => ?_) (AllReadyH.cons rfl (fun K hK => ?_) (AllReadyH.nil))
        · go_simp
          refine hK.out _ _ (cs_alloc4 hHeld _) (fun hHeld => ?_)
          clear hK K
          try simp only [List.getElem_toArray, List.getElem_cons_succ, List.getElem_cons_zero, Act.put, List.setIfInBounds_toArray, List.set_cons_zero, List.set_cons_succ]
          refine wpAnyH_ready (rs := [10]) (by kernel_rfl) (by simp) ?_
          refine AllReadyH.cons rfl (fun K hK => ?_) (AllReadyH.nil)
          · go_simp
            refine hK.out _ _ (cs_alloc4 hHeld _) (fun hHeld => ?_)
            clear hK K
            try simp only [List.getElem_toArray, List.getElem_cons_succ, List.getElem_cons_zero, Act.put, List.setIfInBounds_toArray, List.set_cons_zero, List.set_cons_succ]
            refine wpAnyH_ready (rs := [14]) (by kernel_rfl) (by simp) ?_
            refine AllReadyH.cons rfl (fun K hK => ?_) AllReadyH.nil
            go_simp
            refine hK.out _ _ hHeld (fun hHeld => ?_)
            clear hK K
            try simp only [List.getElem_toArray, List.getElem_cons_succ, List.getElem_cons_zero, Act.put, List.setIfInBounds_toArray, List.set_cons_zero, List.set_cons_succ]
            refine wpAnyH_ready (rs := [15]) (by kernel_rfl) (by simp) ?_
            refine AllReadyH.cons rfl (fun K hK => ?_) AllReadyH.nil
            go_simp
            refine hK.out _ _ (cs_alloc4 hHeld _) (fun hHeld => ?_)
            clear hK K
            try simp only [List.getElem_toArray, List.getElem_cons_succ, List.getElem_cons_zero, Act.put, List.setIfInBounds_toArray, List.set_cons_zero, List.set_cons_succ]
            refine wpAnyH_ready (rs := [16]) (by kernel_rfl) (by simp) ?_
            refine AllReadyH.cons rfl (fun K hK => ?_) AllReadyH.nil
            go_simp
            refine hK.out _ _ hHeld (fun hHeld => ?_)
            clear hK K
            try simp only [List.getElem_toArray, List.getElem_cons_succ, List.getElem_cons_zero, Act.put, List.setIfInBounds_toArray, List.set_cons_zero, List.set_cons_succ]
            refine wpAnyH_done (by kernel_rfl) ?_ _
            go_wp2_with fail
            go_meet
            exact mid_of HL1.out HL2.out HL3.out HL4.out rfl (by repeat' (first | with_reducible refine Row.drew ?_ | with_reducible refine Row.newE _ _ _ (by simp) | exact Row.newE _ _ _ (by simp) | with_reducible refine Row.alloc ?_ _)) (by repeat' (first | with_reducible refine Row.drew ?_ | with_reducible refine Row.newE _ _ _ (by simp) | exact Row.newE _ _ _ (by simp) | with_reducible refine Row.alloc ?_ _)) (by repeat' (first | with_reducible refine Row.drew ?_ | with_reducible refine Row.newE _ _ _ (by simp) | exact Row.newE _ _ _ (by simp) | with_reducible refine Row.alloc ?_ _)) (by repeat' (first | with_reducible refine Row.drew ?_ | with_reducible refine Row.newE _ _ _ (by simp) | exact Row.newE _ _ _ (by simp) | with_reducible refine Row.alloc ?_ _)) (by repeat' (first | with_reducible refine Row.drew ?_ | with_reducible refine Row.newE _ _ _ (by simp) | exact Row.newE _ _ _ (by simp) | with_reducible refine Row.alloc ?_ _)) (by repeat' (first | with_reducible exact HQ1.out | with_reducible refine below_dr ?_ | with_reducible refine below_al ?_ _)) (by have := LT1.out; refine ⟨?_, ?_, ?_, ?_, ?_⟩ <;> omega) (by refine ⟨?_, ?_, ?_, ?_, ?_, ?_, ?_, ?_, ?_, ?_⟩ <;> omega) hn hrd
        · go_simp
          refine hK.out _ _ (cs_alloc4 hHeld _) (fun hHeld => ?_)
          clear hK K
          try simp only [List.getElem_toArray, List.getElem_cons_succ, List.getElem_cons_zero, Act.put, List.setIfInBounds_toArray, List.set_cons_zero, List.set_cons_succ]
          refine wpAnyH_ready (rs := [7]) (by kernel_rfl) (by simp) ?_
          refine AllReadyH.cons rfl (fun K hK => ?_) (AllReadyH.nil)
          · go_simp
            refine hK.out _ _ (cs_alloc4 hHeld _) (fun hHeld => ?_)
            clear hK K
            try simp only [List.getElem_toArray, List.getElem_cons_succ, List.getElem_cons_zero, Act.put, List.setIfInBounds_toArray, List.set_cons_zero, List.set_cons_succ]
            refine wpAnyH_ready (rs := [14]) (by kernel_rfl) (by simp) ?_
            refine AllReadyH.cons rfl (fun K hK => ?_) AllReadyH.nil
            go_simp
            refine hK.out _ _ hHeld (fun hHeld => ?_)
            clear hK K
            try simp only [List.getElem_toArray, List.getElem_cons_succ, List.getElem_cons_zero, Act.put, List.setIfInBounds_toArray, List.set_cons_zero, List.set_cons_succ]
            refine wpAnyH_ready (rs := [15]) (by kernel_rfl) (by simp) ?_
            refine AllReadyH.cons rfl (fun K hK => ?_) AllReadyH.nil
            go_simp
            refine hK.out _ _ (cs_alloc4 hHeld _) (fun hHeld => ?_)
            clear hK K
            try simp only [List.getElem_toArray, List.getElem_cons_succ, List.getElem_cons_zero, Act.put, List.setIfInBounds_toArray, List.set_cons_zero, List.set_cons_succ]
            refine wpAnyH_ready (rs := [16]) (by kernel_rfl) (by simp) ?_
            refine AllReadyH.cons rfl (fun K hK => ?_) AllReadyH.nil
            go_simp
            refine hK.out _ _ hHeld (fun hHeld => ?_)
            clear hK K
            try simp only [List.getElem_toArray, List.getElem_cons_succ, List.getElem_cons_zero, Act.put, List.setIfInBounds_toArray, List.set_cons_zero, List.set_cons_succ]
            refine wpAnyH_done (by kernel_rfl) ?_ _
            go_wp2_with fail
            go_meet
            exact mid_of HL1.out HL2.out HL3.out HL4.out rfl (by repeat' (first | with_reducible refine Row.drew ?_ | with_reducible refine Row.newE _ _ _ (by simp) | exact Row.newE _ _ _ (by simp) | with_reducible refine Row.alloc ?_ _)) (by repeat' (first | with_reducible refine Row.drew ?_ | with_reducible refine Row.newE _ _ _ (by simp) | exact Row.newE _ _ _ (by simp) | with_reducible refine Row.alloc ?_ _)) (by repeat' (first | with_reducible refine Row.drew ?_ | with_reducible refine Row.newE _ _ _ (by simp) | exact Row.newE _ _ _ (by simp) | with_reducible refine Row.alloc ?_ _)) (by repeat' (first | with_reducible refine Row.drew ?_ | with_reducible refine Row.newE _ _ _ (by simp) | exact Row.newE _ _ _ (by simp) | with_reducible refine Row.alloc ?_ _)) (by repeat' (first | with_reducible refine Row.drew ?_ | with_reducible refine Row.newE _ _ _ (by simp) | exact Row.newE _ _ _ (by simp) | with_reducible refine Row.alloc ?_ _)) (by repeat' (first | with_reducible exact HQ1.out | with_reducible refine below_dr ?_ | with_reducible refine below_al ?_ _)) (by have := LT1.out; refine ⟨?_, ?_, ?_, ?_, ?_⟩ <;> omega) (by refine ⟨?_, ?_, ?_, ?_, ?_, ?_, ?_, ?_, ?_, ?_⟩ <;> omega) hn hrd
    · go_simp
      refine hK.out _ _ (cs_alloc4 hHeld _) (fun hHeld => ?_)
      clear hK K
      try simp only [List.getElem_toArray, List.getElem_cons_succ, List.getElem_cons_zero, Act.put, List.setIfInBounds_toArray, List.set_cons_zero, List.set_cons_succ]
      refine wpAnyH_ready (rs := [4, 10, 13]) (by kernel_rfl) (by simp) ?_
      refine AllReadyH.cons rfl (fun K hK => ?_) (AllReadyH.cons rfl (fun K hK => ?_) (AllReadyH.cons rfl (fun K hK => ?_) (AllReadyH.nil)))
      · go_simp
        refine hK.out _ _ (cs_alloc4 hHeld _) (fun hHeld => ?_)
        clear hK K
        try simp only [List.getElem_toArray, List.getElem_cons_succ, List.getElem_cons_zero, Act.put, List.setIfInBounds_toArray, List.set_cons_zero, List.set_cons_succ]
        refine wpAnyH_ready (rs := [10, 13]) (by kernel_rfl) (by simp) ?_
        refine AllReadyH.cons rfl (fun K hK => ?_) (AllReadyH.cons rfl (fun K hK => ?_) (AllReadyH.nil))
        · go_simp
          refine hK.out _ _ (cs_alloc4 hHeld _) (fun hHeld => ?_)
          clear hK K
          try simp only [List.getElem_toArray, List.getElem_cons_succ, List.getElem_cons_zero, Act.put, List.setIfInBounds_toArray, List.set_cons_zero, List.set_cons_succ]
          refine wpAnyH_ready (rs := [13]) (by kernel_rfl) (by simp) ?_
          refine AllReadyH.cons rfl (fun K hK => ?_) (AllReadyH.nil)
          · go_simp
            refine hK.out _ _ (cs_alloc4 hHeld _) (fun hHeld => ?_)
            clear hK K
            try simp only [List.getElem_toArray, List.getElem_cons_succ, List.getElem_cons_zero, Act.put, List.setIfInBounds_toArray, List.set_cons_zero, List.set_cons_succ]
            refine wpAnyH_ready (rs := [14]) (by kernel_rfl) (by simp) ?_
            refine AllReadyH.cons rfl (fun K hK => ?_) AllReadyH.nil
            go_simp
            refine hK.out _ _ hHeld (fun hHeld => ?_)
            clear hK K
            try simp only [List.getElem_toArray, List.getElem_cons_succ, List.getElem_cons_zero, Act.put, List.setIfInBounds_toArray, List.set_cons_zero, List.set_cons_succ]
            refine wpAnyH_ready (rs := [15]) (by kernel_rfl) (by simp) ?_
            refine AllReadyH.cons rfl (fun K hK => ?_) AllReadyH.nil
            go_simp
            refine hK.out _ _ (cs_alloc4 hHeld _) (fun hHeld => ?_)
            clear hK K
            try simp only [List.getElem_toArray, List.getElem_cons_succ, List.getElem_cons_zero, Act.put, List.setIfInBounds_toArray, List.set_cons_zero, List.set_cons_succ]
            refine wpAnyH_ready (rs := [16]) (by kernel_rfl) (by simp) ?_
            refine AllReadyH.cons rfl (fun K hK => ?_) AllReadyH.nil
            go_simp
            refine hK.out _ _ hHeld (fun hHeld => ?_)
            clear hK K
            try simp only [List.getElem_toArray, List.getElem_cons_succ, List.getElem_cons_zero, Act.put, List.setIfInBounds_toArray, List.set_cons_zero, List.set_cons_succ]
            refine wpAnyH_done (by kernel_rfl) ?_ _
            go_wp2_with fail
            go_meet
            exact mid_of HL1.out HL2.out HL3.out HL4.out rfl (by repeat' (first | with_reducible refine Row.drew ?_ | with_reducible refine Row.newE _ _ _ (by simp) | exact Row.newE _ _ _ (by simp) | with_reducible refine Row.alloc ?_ _)) (by repeat' (first | with_reducible refine Row.drew ?_ | with_reducible refine Row.newE _ _ _ (by simp) | exact Row.newE _ _ _ (by simp) | with_reducible refine Row.alloc ?_ _)) (by repeat' (first | with_reducible refine Row.drew ?_ | with_reducible refine Row.newE _ _ _ (by simp) | exact Row.newE _ _ _ (by simp) | with_reducible refine Row.alloc ?_ _)) (by repeat' (first | with_reducible refine Row.drew ?_ | with_reducible refine Row.newE _ _ _ (by simp) | exact Row.newE _ _ _ (by simp) | with_reducible refine Row.alloc ?_ _)) (by repeat' (first | with_reducible refine Row.drew ?_ | with_reducible refine Row.newE _ _ _ (by simp) | exact Row.newE _ _ _ (by simp) | with_reducible refine Row.alloc ?_ _)) (by repeat' (first | with_reducible exact HQ1.out | with_reducible refine below_dr ?_ | with_reducible refine below_al ?_ _)) (by have := LT1.out; refine ⟨?_, ?_, ?_, ?_, ?_⟩ <;> omega) (by refine ⟨?_, ?_, ?_, ?_, ?_, ?_, ?_, ?_, ?_, ?_⟩ <;> omega) hn hrd
        · go_simp
          refine hK.out _ _ (cs_alloc4 hHeld _) (fun hHeld => ?_)
          clear hK K
          try simp only [List.getElem_toArray, List.getElem_cons_succ, List.getElem_cons_zero, Act.put, List.setIfInBounds_toArray, List.set_cons_zero, List.set_cons_succ]
          refine wpAnyH_ready (rs := [10]) (by kernel_rfl) (by simp) ?_
          refine AllReadyH.cons rfl (fun K hK => ?_) (AllReadyH.nil)
          · go_simp
            refine hK.out _ _ (cs_alloc4 hHeld _) (fun hHeld => ?_)
            clear hK K
            try simp only [List.getElem_toArray, List.getElem_cons_succ, List.getElem_cons_zero, Act.put, List.setIfInBounds_toArray, List.set_cons_zero, List.set_cons_succ]
            refine wpAnyH_ready (rs := [14]) (by kernel_rfl) (by simp) ?_
            refine AllReadyH.cons rfl (fun K hK => ?_) AllReadyH.nil
            go_simp
            refine hK.out _ _ hHeld (fun hHeld => ?_)
            clear hK K
            try simp only [List.getElem_toArray, List.getElem_cons_succ, List.getElem_cons_zero, Act.put, List.setIfInBounds_toArray, List.set_cons_zero, List.set_cons_succ]
            refine wpAnyH_ready (rs := [15]) (by kernel_rfl) (by simp) ?_
            refine AllReadyH.cons rfl (fun K hK => ?_) AllReadyH.nil
            go_simp
            refine hK.out _ _ (cs_alloc4 hHeld _) (fun hHeld => ?_)
            clear hK K
            try simp only [List.getElem_toArray, List.getElem_cons_succ, List.getElem_cons_zero, Act.put, List.setIfInBounds_toArray, List.set_cons_zero, List.set_cons_succ]
            refine wpAnyH_ready (rs := [16]) (by kernel_rfl) (by simp) ?_
            refine AllReadyH.cons rfl (fun K hK => ?_) AllReadyH.nil
            go_simp
            refine hK.out _ _ hHeld (fun hHeld => ?_)
            clear hK K
            try simp only [List.getElem_toArray, List.getElem_cons_succ, List.getElem_cons_zero, Act.put, List.setIfInBounds_toArray, List.set_cons_zero, List.set_cons_succ]
            refine wpAnyH_done (by kernel_rfl) ?_ _
            go_wp2_with fail
            go_meet
            exact mid_of HL1.out HL2.out HL3.out HL4.out rfl (by repeat' (first | with_reducible refine Row.drew ?_ | with_reducible refine Row.newE _ _ _ (by simp) | exact Row.newE _ _ _ (by simp) | with_reducible refine Row.alloc ?_ _)) (by repeat' (first | with_reducible refine Row.drew ?_ | with_reducible refine Row.newE _ _ _ (by simp) | exact Row.newE _ _ _ (by simp) | with_reducible refine Row.alloc ?_ _)) (by repeat' (first | with_reducible refine Row.drew ?_ | with_reducible refine Row.newE _ _ _ (by simp) | exact Row.newE _ _ _ (by simp) | with_reducible refine Row.alloc ?_ _)) (by repeat' (first | with_reducible refine Row.drew ?_ | with_reducible refine Row.newE _ _ _ (by simp) | exact Row.newE _ _ _ (by simp) | with_reducible refine Row.alloc ?_ _)) (by repeat' (first | with_reducible refine Row.drew ?_ | with_reducible refine Row.newE _ _ _ (by simp) | exact Row.newE _ _ _ (by simp) | with_reducible refine Row.alloc ?_ _)) (by repeat' (first | with_reducible exact HQ1.out | with_reducible refine below_dr ?_ | with_reducible refine below_al ?_ _)) (by have := LT1.out; refine ⟨?_, ?_, ?_, ?_, ?_⟩ <;> omega) (by refine ⟨?_, ?_, ?_, ?_, ?_, ?_, ?_, ?_, ?_, ?_⟩ <;> omega) hn hrd
      · go_simp
        refine hK.out _ _ (cs_alloc4 hHeld _) (fun hHeld => ?_)
        clear hK K
        try simp only [List.getElem_toArray, List.getElem_cons_succ, List.getElem_cons_zero, Act.put, List.setIfInBounds_toArray, List.set_cons_zero, List.set_cons_succ]
        refine wpAnyH_ready (rs := [4, 13]) (by kernel_rfl) (by simp) ?_
        refine AllReadyH.cons rfl (fun K hK => ?_) (AllReadyH.cons rfl (fun K hK => ?_) (AllReadyH.nil))
        · go_simp
          refine hK.out _ _ (cs_alloc4 hHeld _) (fun hHeld => ?_)
          clear hK K
          try simp only [List.getElem_toArray, List.getElem_cons_succ, List.getElem_cons_zero, Act.put, List.setIfInBounds_toArray, List.set_cons_zero, List.set_cons_succ]
          refine wpAnyH_ready (rs := [13]) (by kernel_rfl) (by simp) ?_
          refine AllReadyH.cons rfl (fun K hK => ?_) (AllReadyH.nil)
          · go_simp
            refine hK.out _ _ (cs_alloc4 hHeld _) (fun hHeld => ?_)
            clear hK K
            try simp only [List.getElem_toArray, List.getElem_cons_succ, List.getElem_cons_zero, Act.put, List.setIfInBounds_toArray, List.set_cons_zero, List.set_cons_succ]
            refine wpAnyH_ready (rs := [14]) (by kernel_rfl) (by simp) ?_
            refine AllReadyH.cons rfl (fun K hK => ?_) AllReadyH.nil
            go_simp
            refine hK.out _ _ hHeld (fun hHeld => ?_)
            clear hK K
            try simp only [List.getElem_toArray, List.getElem_cons_succ, List.getElem_cons_zero, Act.put, List.setIfInBounds_toArray, List.set_cons_zero, List.set_cons_succ]
            refine wpAnyH_ready (rs := [15]) (by kernel_rfl) (by simp) ?_
            refine AllReadyH.cons rfl (fun K hK => ?_) AllReadyH.nil
            go_simp
            refine hK.out _ _ (cs_alloc4 hHeld _) (fun hHeld => ?_)
            clear hK K
            try simp only [List.getElem_toArray, List.getElem_cons_succ, List.getElem_cons_zero, Act.put, List.setIfInBounds_toArray, List.set_cons_zero, List.set_cons_succ]
            refine wpAnyH_ready (rs := [16]) (by kernel_rfl) (by simp) ?_
            refine AllReadyH.cons rfl (fun K hK => ?_) AllReadyH.nil
            go_simp
            refine hK.out _ _ hHeld (fun hHeld => ?_)
            clear hK K
            try simp only [List.getElem_toArray, List.getElem_cons_succ, List.getElem_cons_zero, Act.put, List.setIfInBounds_toArray, List.set_cons_zero, List.set_cons_succ]
            refine wpAnyH_done (by kernel_rfl) ?_ _
            go_wp2_with fail
            go_meet
            exact mid_of HL1.out HL2.out HL3.out HL4.out rfl (by repeat' (first | with_reducible refine Row.drew ?_ | with_reducible refine Row.newE _ _ _ (by simp) | exact Row.newE _ _ _ (by simp) | with_reducible refine Row.alloc ?_ _)) (by repeat' (first | with_reducible refine Row.drew ?_ | with_reducible refine Row.newE _ _ _ (by simp) | exact Row.newE _ _ _ (by simp) | with_reducible refine Row.alloc ?_ _)) (by repeat' (first | with_reducible refine Row.drew ?_ | with_reducible refine Row.newE _ _ _ (by simp) | exact Row.newE _ _ _ (by simp) | with_reducible refine Row.alloc ?_ _)) (by repeat' (first | with_reducible refine Row.drew ?_ | with_reducible refine Row.newE _ _ _ (by simp) | exact Row.newE _ _ _ (by simp) | with_reducible refine Row.alloc ?_ _)) (by repeat' (first | with_reducible refine Row.drew ?_ | with_reducible refine Row.newE _ _ _ (by simp) | exact Row.newE _ _ _ (by simp) | with_reducible refine Row.alloc ?_ _)) (by repeat' (first | with_reducible exact HQ1.out | with_reducible refine below_dr ?_ | with_reducible refine below_al ?_ _)) (by have := LT1.out; refine ⟨?_, ?_, ?_, ?_, ?_⟩ <;> omega) (by refine ⟨?_, ?_, ?_, ?_, ?_, ?_, ?_, ?_, ?_, ?_⟩ <;> omega) hn hrd
        · go_simp
          refine hK.out _ _ (cs_alloc4 hHeld _) (fun hHeld => ?_)
          clear hK K
          try simp only [List.getElem_toArray, List.getElem_cons_succ, List.getElem_cons_zero, Act.put, List.setIfInBounds_toArray, List.set_cons_zero, List.set_cons_succ]
          refine wpAnyH_ready (rs := [4]) (by kernel_rfl) (by simp) ?_
          refine AllReadyH.cons rfl (fun K hK => ?_) (AllReadyH.nil)
          · go_simp
            refine hK.out _ _ (cs_alloc4 hHeld _) (fun hHeld => ?_)
            clear hK K
            try simp only [List.getElem_toArray, List.getElem_cons_succ, List.getElem_cons_zero, Act.put, List.setIfInBounds_toArray, List.set_cons_zero, List.set_cons_succ]
            refine wpAnyH_ready (rs := [14]) (by kernel_rfl) (by simp) ?_
            refine AllReadyH.cons rfl (fun K hK => ?_) AllReadyH.nil
            go_simp
            refine hK.out _ _ hHeld (fun hHeld => ?_)
            clear hK K
            try simp only [List.getElem_toArray, List.getElem_cons_succ, List.getElem_cons_zero, Act.put, List.setIfInBounds_toArray, List.set_cons_zero, List.set_cons_succ]
            refine wpAnyH_ready (rs := [15]) (by kernel_rfl) (by simp) ?_
            refine AllReadyH.cons rfl (fun K hK => ?_) AllReadyH.nil
            go_simp
            refine hK.out _ _ (cs_alloc4 hHeld _) (fun hHeld => ?_)
            clear hK K
            try simp only [List.getElem_toArray, List.getElem_cons_succ, List.getElem_cons_zero, Act.put, List.setIfInBounds_toArray, List.set_cons_zero, List.set_cons_succ]
            refine wpAnyH_ready (rs := [16]) (by kernel_rfl) (by simp) ?_
            refine AllReadyH.cons rfl (fun K hK => ?_) AllReadyH.nil
            go_simp
            refine hK.out _ _ hHeld (fun hHeld => ?_)
            clear hK K
            try simp only [List.getElem_toArray, List.getElem_cons_succ, List.getElem_cons_zero, Act.put, List.setIfInBounds_toArray, List.set_cons_zero, List.set_cons_succ]
            refine wpAnyH_done (by kernel_rfl) ?_ _
            go_wp2_with fail
            go_meet
            exact mid_of HL1.out HL2.out HL3.out HL4.out rfl (by repeat' (first | with_reducible refine Row.drew ?_ | with_reducible refine Row.newE _ _ _ (by simp) | exact Row.newE _ _ _ (by simp) | with_reducible refine Row.alloc ?_ _)) (by repeat' (first | with_reducible refine Row.drew ?_ | with_reducible refine Row.newE _ _ _ (by simp) | exact Row.newE _ _ _ (by simp) | with_reducible refine Row.alloc ?_ _)) (by repeat' (first | with_reducible refine Row.drew ?_ | with_reducible refine Row.newE _ _ _ (by simp) | exact Row.newE _ _ _ (by simp) | with_reducible refine Row.alloc ?_ _)) (by repeat' (first | with_reducible refine Row.drew ?_ | with_reducible refine Row.newE _ _ _ (by simp) | exact Row.newE _ _ _ (by simp) | with_reducible refine Row.alloc ?_ _)) (by repeat' (first | with_reducible refine Row.drew ?_ | with_reducible refine Row.newE _ _ _ (by simp) | exact Row.newE _ _ _ (by simp) | with_reducible refine Row.alloc ?_ _)) (by repeat' (first | with_reducible exact HQ1.out | with_reducible refine below_dr ?_ | with_reducible refine below_al ?_ _)) (by have := LT1.out; refine ⟨?_, ?_, ?_, ?_, ?_⟩ <;> omega) (by refine ⟨?_, ?_, ?_, ?_, ?_, ?_, ?_, ?_, ?_, ?_⟩ <;> omega) hn hrd
      · go_simp
        refine hK.out _ _ (cs_alloc4 hHeld _) (fun hHeld => ?_)
        clear hK K
        try simp only [List.getElem_toArray, List.getElem_cons_succ, List.getElem_cons_zero, Act.put, List.setIfInBounds_toArray, List.set_cons_zero, List.set_cons_succ]
        refine wpAnyH_ready (rs := [4, 10]) (by kernel_rfl) (by simp) ?_
        refine AllReadyH.cons rfl (fun K hK => ?_) (AllReadyH.cons rfl (fun K hK => ?_) (AllReadyH.nil))
        · go_simp
          refine hK.out _ _ (cs_alloc4 hHeld _) (fun hHeld => ?_)
          clear hK K
          try simp only [List.getElem_toArray, List.getElem_cons_succ, List.getElem_cons_zero, Act.put, List.setIfInBounds_toArray, List.set_cons_zero, List.set_cons_succ]
          refine wpAnyH_ready (rs := [10]) (by kernel_rfl) (by simp) ?_
          refine AllReadyH.cons rfl (fun K hK => ?_) (AllReadyH.nil)
          · go_simp
            refine hK.out _ _ (cs_alloc4 hHeld _) (fun hHeld => ?_)
            clear hK K
            try simp only [List.getElem_toArray, List.getElem_cons_succ, List.getElem_cons_zero, Act.put, List.setIfInBounds_toArray, List.set_cons_zero, List.set_cons_succ]
            refine wpAnyH_ready (rs := [14]) (by kernel_rfl) (by simp) ?_
            refine AllReadyH.cons rfl (fun K hK => ?_) AllReadyH.nil
            go_simp
            refine hK.out _ _ hHeld (fun hHeld => ?_)
            clear hK K
            try simp only [List.getElem_toArray, List.getElem_cons_succ, List.getElem_cons_zero, Act.put, List.setIfInBounds_toArray, List.set_cons_zero, List.set_cons_succ]
            refine wpAnyH_ready (rs := [15]) (by kernel_rfl) (by simp) ?_
            refine AllReadyH.cons rfl (fun K hK => ?_) AllReadyH.nil
            go_simp
            refine hK.out _ _ (cs_alloc4 hHeld _) (fun hHeld => ?_)
            clear hK K
            try simp only [List.getElem_toArray, List.getElem_cons_succ, List.getElem_cons_zero, Act.put, List.setIfInBounds_toArray, List.set_cons_zero, List.set_cons_succ]
            refine wpAnyH_ready (rs := [16]) (by kernel_rfl) (by simp) ?_
            refine AllReadyH.cons rfl (fun K hK => ?_) AllReadyH.nil
            go_simp
            refine hK.out _ _ hHeld (fun hHeld => ?_)
            clear hK K
            try simp only [List.getElem_toArray, List.getElem_cons_succ, List.getElem_cons_zero, Act.put, List.setIfInBounds_toArray, List.set_cons_zero, List.set_cons_succ]
            refine wpAnyH_done (by kernel_rfl) ?_ _
            go_wp2_with fail
            go_meet
            exact mid_of HL1.out HL2.out HL3.out HL4.out rfl (by repeat' (first | with_reducible refine Row.drew ?_ | with_reducible refine Row.newE _ _ _ (by simp) | exact Row.newE _ _ _ (by simp) | with_reducible refine Row.alloc ?_ _)) (by repeat' (first | with_reducible refine Row.drew ?_ | with_reducible refine Row.newE _ _ _ (by simp) | exact Row.newE _ _ _ (by simp) | with_reducible refine Row.alloc ?_ _)) (by repeat' (first | with_reducible refine Row.drew ?_ | with_reducible refine Row.newE _ _ _ (by simp) | exact Row.newE _ _ _ (by simp) | with_reducible refine Row.alloc ?_ _)) (by repeat' (first | with_reducible refine Row.drew ?_ | with_reducible refine Row.newE _ _ _ (by simp) | exact Row.newE _ _ _ (by simp) | with_reducible refine Row.alloc ?_ _)) (by repeat' (first | with_reducible refine Row.drew ?_ | with_reducible refine Row.newE _ _ _ (by simp) | exact Row.newE _ _ _ (by simp) | with_reducible refine Row.alloc ?_ _)) (by repeat' (first | with_reducible exact HQ1.out | with_reducible refine below_dr ?_ | with_reducible refine below_al ?_ _)) (by have := LT1.out; refine ⟨?_, ?_, ?_, ?_, ?_⟩ <;> omega) (by refine ⟨?_, ?_, ?_, ?_, ?_, ?_, ?_, ?_, ?_, ?_⟩ <;> omega) hn hrd
        · go_simp
          refine hK.out _ _ (cs_alloc4 hHeld _) (fun hHeld => ?_)
          clear hK K
          try simp only [List.getElem_toArray, List.getElem_cons_succ, List.getElem_cons_zero, Act.put, List.setIfInBounds_toArray, List.set_cons_zero, List.set_cons_succ]
          refine wpAnyH_ready (rs := [4]) (by kernel_rfl) (by simp) ?_
          refine AllReadyH.cons rfl (fun K hK => ?_) (AllReadyH.nil)
          · go_simp
            refine hK.out _ _ (cs_alloc4 hHeld _) (fun hHeld => ?_)
            clear hK K
            try simp only [List.getElem_toArray, List.getElem_cons_succ, List.getElem_cons_zero, Act.put, List.setIfInBounds_toArray, List.set_cons_zero, List.set_cons_succ]
            refine wpAnyH_ready (rs := [14]) (by kernel_rfl) (by simp) ?_
            refine AllReadyH.cons rfl (fun K hK => ?_) AllReadyH.nil
            go_simp
            refine hK.out _ _ hHeld (fun hHeld => ?_)
            clear hK K
            try simp only [List.getElem_toArray, List.getElem_cons_succ, List.getElem_cons_zero, Act.put, List.setIfInBounds_toArray, List.set_cons_zero, List.set_cons_succ]
            refine wpAnyH_ready (rs := [15]) (by kernel_rfl) (by simp) ?_
            refine AllReadyH.cons rfl (fun K hK => ?_) AllReadyH.nil
            go_simp
            refine hK.out _ _ (cs_alloc4 hHeld _) (fun hHeld => ?_)
            clear hK K
            try simp only [List.getElem_toArray, List.getElem_cons_succ, List.getElem_cons_zero, Act.put, List.setIfInBounds_toArray, List.set_cons_zero, List.set_cons_succ]
            refine wpAnyH_ready (rs := [16]) (by kernel_rfl) (by simp) ?_
            refine AllReadyH.cons rfl (fun K hK => ?_) AllReadyH.nil
            go_simp
            refine hK.out _ _ hHeld (fun hHeld => ?_)
            clear hK K
            try simp only [List.getElem_toArray, List.getElem_cons_succ, List.getElem_cons_zero, Act.put, List.setIfInBounds_toArray, List.set_cons_zero, List.set_cons_succ]
            refine wpAnyH_done (by kernel_rfl) ?_ _
            go_wp2_with fail
            go_meet
            exact mid_of HL1.out HL2.out HL3.out HL4.out rfl (by repeat' (first | with_reducible refine Row.drew ?_ | with_reducible refine Row.newE _ _ _ (by simp) | exact Row.newE _ _ _ (by simp) | with_reducible refine Row.alloc ?_ _)) (by repeat' (first | with_reducible refine Row.drew ?_ | with_reducible refine Row.newE _ _ _ (by simp) | exact Row.newE _ _ _ (by simp) | with_reducible refine Row.alloc ?_ _)) (by repeat' (first | with_reducible refine Row.drew ?_ | with_reducible refine Row.newE _ _ _ (by simp) | exact Row.newE _ _ _ (by simp) | with_reducible refine Row.alloc ?_ _)) (by repeat' (first | with_reducible refine Row.drew ?_ | with_reducible refine Row.newE _ _ _ (by simp) | exact Row.newE _ _ _ (by simp) | with_reducible refine Row.alloc ?_ _)) (by repeat' (first | with_reducible refine Row.drew ?_ | with_reducible refine Row.newE _ _ _ (by simp) | exact Row.newE _ _ _ (by simp) | with_reducible refine Row.alloc ?_ _)) (by repeat' (first | with_reducible exact HQ1.out | with_reducible refine below_dr ?_ | with_reducible refine below_al ?_ _)) (by have := LT1.out; refine ⟨?_, ?_, ?_, ?_, ?_⟩ <;> omega) (by refine ⟨?_, ?_, ?_, ?_, ?_, ?_, ?_, ?_, ?_, ?_⟩ <;> omega) hn hrd
    · go_simp
      refine hK.out _ _ (cs_alloc4 hHeld _) (fun hHeld => ?_)
      clear hK K
      try simp only [List.getElem_toArray, List.getElem_cons_succ, List.getElem_cons_zero, Act.put, List.setIfInBounds_toArray, List.set_cons_zero, List.set_cons_succ]
      refine wpAnyH_ready (rs := [4, 7, 13]) (by kernel_rfl) (by simp) ?_
      refine AllReadyH.cons rfl (fun K hK => ?_) (AllReadyH.cons rfl (fun K hK => ?_) (AllReadyH.cons rfl (fun K hK => ?_) (AllReadyH.nil)))
      · go_simp
        refine hK.out _ _ (cs_alloc4 hHeld _) (fun hHeld => ?_)
        clear hK K
        try simp only [List.getElem_toArray, List.getElem_cons_succ, List.getElem_cons_zero, Act.put, List.setIfInBounds_toArray, List.set_cons_zero, List.set_cons_succ]
        refine wpAnyH_ready (rs := [7, 13]) (by kernel_rfl) (by simp) ?_
        refine AllReadyH.cons rfl (fun K hK => ?_) (AllReadyH.cons rfl (fun K hK => ?_) (AllReadyH.nil))
        · go_simp
          refine hK.out _ _ (cs_alloc4 hHeld _) (fun hHeld => ?_)
          clear hK K
          try simp only [List.getElem_toArray, List.getElem_cons_succ, List.getElem_cons_zero, Act.put, List.setIfInBounds_toArray, List.set_cons_zero, List.set_cons_succ]
          refine wpAnyH_ready (rs := [13]) (by kernel_rfl) (by simp) ?_
          refine AllReadyH.cons rfl (fun K hK => ?_) (AllReadyH.nil)
          · go_simp
            refine hK.out _ _ (cs_alloc4 hHeld _) (fun hHeld => ?_)
            clear hK K
            try simp only [List.getElem_toArray, List.getElem_cons_succ, List.getElem_cons_zero, Act.put, List.setIfInBounds_toArray, List.set_cons_zero, List.set_cons_succ]
            refine wpAnyH_ready (rs := [14]) (by kernel_rfl) (by simp) ?_
            refine AllReadyH.cons rfl (fun K hK => ?_) AllReadyH.nil
            go_simp
            refine hK.out _ _ hHeld (fun hHeld => ?_)
            clear hK K
            try simp only [List.getElem_toArray, List.getElem_cons_succ, List.getElem_cons_zero, Act.put, List.setIfInBounds_toArray, List.set_cons_zero, List.set_cons_succ]
            refine wpAnyH_ready (rs := [15]) (by kernel_rfl) (by simp) ?_
            refine AllReadyH.cons rfl (fun K hK => ?_) AllReadyH.nil
            go_simp
            refine hK.out _ _ (cs_alloc4 hHeld _) (fun hHeld => ?_)
            clear hK K
            try simp only [List.getElem_toArray, List.getElem_cons_succ, List.getElem_cons_zero, Act.put, List.setIfInBounds_toArray, List.set_cons_zero, List.set_cons_succ]
            refine wpAnyH_ready (rs := [16]) (by kernel_rfl) (by simp) ?_
            refine AllReadyH.cons rfl (fun K hK => ?_) AllReadyH.nil
            go_simp
            refine hK.out _ _ hHeld (fun hHeld => ?_)
            clear hK K
            try simp only [List.getElem_toArray, List.getElem_cons_succ, List.getElem_cons_zero, Act.put, List.setIfInBounds_toArray, List.set_cons_zero, List.set_cons_succ]
            refine wpAnyH_done (by kernel_rfl) ?_ _
            go_wp2_with fail
            go_meet
            exact mid_of HL1.out HL2.out HL3.out HL4.out rfl (by repeat' (first | with_reducible refine Row.drew ?_ | with_reducible refine Row.newE _ _ _ (by simp) | exact Row.newE _ _ _ (by simp) | with_reducible refine Row.alloc ?_ _)) (by repeat' (first | with_reducible refine Row.drew ?_ | with_reducible refine Row.newE _ _ _ (by simp) | exact Row.newE _ _ _ (by simp) | with_reducible refine Row.alloc ?_ _)) (by repeat' (first | with_reducible refine Row.drew ?_ | with_reducible refine Row.newE _ _ _ (by simp) | exact Row.newE _ _ _ (by simp) | with_reducible refine Row.alloc ?_ _)) (by repeat' (first | with_reducible refine Row.drew ?_ | with_reducible refine Row.newE _ _ _ (by simp) | exact Row.newE _ _ _ (by simp) | with_reducible refine Row.alloc ?_ _)) (by repeat' (first | with_reducible refine Row.drew ?_ | with_reducible refine Row.newE _ _ _ (by simp) | exact Row.newE _ _ _ (by simp) | with_reducible refine Row.alloc ?_ _)) (by repeat' (first | with_reducible exact HQ1.out | with_reducible refine below_dr ?_ | with_reducible refine below_al ?_ _)) (by have := LT1.out; refine ⟨?_, ?_, ?_, ?_, ?_⟩ <;> omega) (by refine ⟨?_, ?_, ?_, ?_, ?_, ?_, ?_, ?_, ?_, ?_⟩ <;> omega) hn hrd
        · go_simp
          refine hK.out _ _ (cs_alloc4 hHeld _) (fun hHeld => ?_)
          clear hK K
          try simp only [List.getElem_toArray, List.getElem_cons_succ, List.getElem_cons_zero, Act.put, List.setIfInBounds_toArray, List.set_cons_zero, List.set_cons_succ]
          refine wpAnyH_ready (rs := [7]) (by kernel_rfl) (by simp) ?_
          refine AllReadyH.cons rfl (fun K hK => ?_) (AllReadyH.nil)
          · go_simp
            refine hK.out _ _ (cs_alloc4 hHeld _) (fun hHeld => ?_)
            clear hK K
            try simp only [List.getElem_toArray, List.getElem_cons_succ, List.getElem_cons_zero, Act.put, List.setIfInBounds_toArray, List.set_cons_zero, List.set_cons_succ]
            refine wpAnyH_ready (rs := [14]) (by kernel_rfl) (by simp) ?_
            refine AllReadyH.cons rfl (fun K hK => ?_) AllReadyH.nil
            go_simp
            refine hK.out _ _ hHeld (fun hHeld => ?_)
            clear hK K
            try simp only [List.getElem_toArray, List.getElem_cons_succ, List.getElem_cons_zero, Act.put, List.setIfInBounds_toArray, List.set_cons_zero, List.set_cons_succ]
            refine wpAnyH_ready (rs := [15]) (by kernel_rfl) (by simp) ?_
            refine AllReadyH.cons rfl (fun K hK => ?_) AllReadyH.nil
            go_simp
            refine hK.out _ _ (cs_alloc4 hHeld _) (fun hHeld => ?_)
            clear hK K
            try simp only [List.getElem_toArray, List.getElem_cons_succ, List.getElem_cons_zero, Act.put, List.setIfInBounds_toArray, List.set_cons_zero, List.set_cons_succ]
            refine wpAnyH_ready (rs := [16]) (by kernel_rfl) (by simp) ?_
            refine AllReadyH.cons rfl (fun K hK => ?_) AllReadyH.nil
            go_simp
            refine hK.out _ _ hHeld (fun hHeld => ?_)
            clear hK K
            try simp only [List.getElem_toArray, List.getElem_cons_succ, List.getElem_cons_zero, Act.put, List.setIfInBounds_toArray, List.set_cons_zero, List.set_cons_succ]
            refine wpAnyH_done (by kernel_rfl) ?_ _
            go_wp2_with fail
            go_meet
            exact mid_of HL1.out HL2.out HL3.out HL4.out rfl (by repeat' (first | with_reducible refine Row.drew ?_ | with_reducible refine Row.newE _ _ _ (by simp) | exact Row.newE _ _ _ (by simp) | with_reducible refine Row.alloc ?_ _)) (by repeat' (first | with_reducible refine Row.drew ?_ | with_reducible refine Row.newE _ _ _ (by simp) | exact Row.newE _ _ _ (by simp) | with_reducible refine Row.alloc ?_ _)) (by repeat' (first | with_reducible refine Row.drew ?_ | with_reducible refine Row.newE _ _ _ (by simp) | exact Row.newE _ _ _ (by simp) | with_reducible refine Row.alloc ?_ _)) (by repeat' (first | with_reducible refine Row.drew ?_ | with_reducible refine Row.newE _ _ _ (by simp) | exact Row.newE _ _ _ (by simp) | with_reducible refine Row.alloc ?_ _)) (by repeat' (first | with_reducible refine Row.drew ?_ | with_reducible refine Row.newE _ _ _ (by simp) | exact Row.newE _ _ _ (by simp) | with_reducible refine Row.alloc ?_ _)) (by repeat' (first | with_reducible exact HQ1.out | with_reducible refine below_dr ?_ | with_reducible refine below_al ?_ _)) (by have := LT1.out; refine ⟨?_, ?_, ?_, ?_, ?_⟩ <;> omega) (by refine ⟨?_, ?_, ?_, ?_, ?_, ?_, ?_, ?_, ?_, ?_⟩ <;> omega) hn hrd
      · go_simp
        refine hK.out _ _ (cs_alloc4 hHeld _) (fun hHeld => ?_)
        clear hK K
        try simp only [List.getElem_toArray, List.getElem_cons_succ, List.getElem_cons_zero, Act.put, List.setIfInBounds_toArray, List.set_cons_zero, List.set_cons_succ]
        refine wpAnyH_ready (rs := [4, 13]) (by kernel_rfl) (by simp) ?_
        refine AllReadyH.cons rfl (fun K hK => ?_) (AllReadyH.cons rfl (fun K hK => ?_) (AllReadyH.nil))
        · go_simp
          refine hK.out _ _ (cs_alloc4 hHeld _) (fun hHeld => ?_)
          clear hK K
          try simp only [List.getElem_toArray, List.getElem_cons_succ, List.getElem_cons_zero, Act.put, List.setIfInBounds_toArray, List.set_cons_zero, List.set_cons_succ]
          refine wpAnyH_ready (rs := [13]) (by kernel_rfl) (by simp) ?_
          refine AllReadyH.cons rfl (fun K hK => ?_) (AllReadyH.nil)
          · go_simp
            refine hK.out _ _ (cs_alloc4 hHeld _) (fun hHeld => ?_)
            clear hK K
            try simp only [List.getElem_toArray, List.getElem_cons_succ, List.getElem_cons_zero, Act.put, List.setIfInBounds_toArray, List.set_cons_zero, List.set_cons_succ]
            refine wpAnyH_ready (rs := [14]) (by kernel_rfl) (by simp) ?_
            refine AllReadyH.cons rfl (fun K hK => ?_) AllReadyH.nil
            go_simp
            refine hK.out _ _ hHeld (fun hHeld => ?_)
            clear hK K
            try simp only [List.getElem_toArray, List.getElem_cons_succ, List.getElem_cons_zero, Act.put, List.setIfInBounds_toArray, List.set_cons_zero, List.set_cons_succ]
            refine wpAnyH_ready (rs := [15]) (by kernel_rfl) (by simp) ?_
            refine AllReadyH.cons rfl (fun K hK => ?_) AllReadyH.nil
            go_simp
            refine hK.out _ _ (cs_alloc4 hHeld _) (fun hHeld => ?_)
            clear hK K
            try simp only [List.getElem_toArray, List.getElem_cons_succ, List.getElem_cons_zero, Act.put, List.setIfInBounds_toArray, List.set_cons_zero, List.set_cons_succ]
            refine wpAnyH_ready (rs := [16]) (by kernel_rfl) (by simp) ?_
            refine AllReadyH.cons rfl (fun K hK => ?_) AllReadyH.nil
            go_simp
            refine hK.out _ _ hHeld (fun hHeld => ?_)
            clear hK K
            try simp only [List.getElem_toArray, List.getElem_cons_succ, List.getElem_cons_zero, Act.put, List.setIfInBounds_toArray, List.set_cons_zero, List.set_cons_succ]
            refine wpAnyH_done (by kernel_rfl) ?_ _
            go_wp2_with fail
            go_meet
            exact mid_of HL1.out HL2.out HL3.out HL4.out rfl (by repeat' (first | with_reducible refine Row.drew ?_ | with_reducible refine Row.newE _ _ _ (by simp) | exact Row.newE _ _ _ (by simp) | with_reducible refine Row.alloc ?_ _)) (by repeat' (first | with_reducible refine Row.drew ?_ | with_reducible refine Row.newE _ _ _ (by simp) | exact Row.newE _ _ _ (by simp) | with_reducible refine Row.alloc ?_ _)) (by repeat' (first | with_reducible refine Row.drew ?_ | with_reducible refine Row.newE _ _ _ (by simp) | exact Row.newE _ _ _ (by simp) | with_reducible refine Row.alloc ?_ _)) (by repeat' (first | with_reducible refine Row.drew ?_ | with_reducible refine Row.newE _ _ _ (by simp) | exact Row.newE _ _ _ (by simp) | with_reducible refine Row.alloc ?_ _)) (by repeat' (first | with_reducible refine Row.drew ?_ | with_reducible refine Row.newE _ _ _ (by simp) | exact Row.newE _ _ _ (by simp) | with_reducible refine Row.alloc ?_ _)) (by repeat' (first | with_reducible exact HQ1.out | with_reducible refine below_dr ?_ | with_reducible refine below_al ?_ _)) (by have := LT1.out; refine ⟨?_, ?_, ?_, ?_, ?_⟩ <;> omega) (by refine ⟨?_, ?_, ?_, ?_, ?_, ?_, ?_, ?_, ?_, ?_⟩ <;> omega) hn hrd
        · go_simp
          refine hK.out _ _ (cs_alloc4 hHeld _) (fun hHeld => ?_)
          clear hK K
          try simp only [List.getElem_toArray, List.getElem_cons_succ, List.getElem_cons_zero, Act.put, List.setIfInBounds_toArray, List.set_cons_zero, List.set_cons_succ]
          refine wpAnyH_ready (rs := [4]) (by kernel_rfl) (by simp) ?_
          refine AllReadyH.cons rfl (fun K hK => ?_) (AllReadyH.nil)
          · go_simp
            refine hK.out _ _ (cs_alloc4 hHeld _) (fun hHeld => ?_)
            clear hK K
            try simp only [List.getElem_toArray, List.getElem_cons_succ, List.getElem_cons_zero, Act.put, List.setIfInBounds_toArray, List.set_cons_zero, List.set_cons_succ]
            refine wpAnyH_ready (rs := [14]) (by kernel_rfl) (by simp) ?_
            refine AllReadyH.cons rfl (fun K hK => ?_) AllReadyH.nil
            go_simp
            refine hK.out _ _ hHeld (fun hHeld => ?_)
            clear hK K
            try simp only [List.getElem_toArray, List.getElem_cons_succ, List.getElem_cons_zero, Act.put, List.setIfInBounds_toArray, List.set_cons_zero, List.set_cons_succ]
            refine wpAnyH_ready (rs := [15]) (by kernel_rfl) (by simp) ?_
            refine AllReadyH.cons rfl (fun K hK => ?_) AllReadyH.nil
            go_simp
            refine hK.out _ _ (cs_alloc4 hHeld _) (fun hHeld => ?_)
            clear hK K
            try simp only [List.getElem_toArray, List.getElem_cons_succ, List.getElem_cons_zero, Act.put, List.setIfInBounds_toArray, List.set_cons_zero, List.set_cons_succ]
            refine wpAnyH_ready (rs := [16]) (by kernel_rfl) (by simp) ?_
            refine AllReadyH.cons rfl (fun K hK => ?_) AllReadyH.nil
            go_simp
            refine hK.out _ _ hHeld (fun hHeld => ?_)
            clear hK K
            try simp only [List.getElem_toArray, List.getElem_cons_succ, List.getElem_cons_zero, Act.put, List.setIfInBounds_toArray, List.set_cons_zero, List.set_cons_succ]
            refine wpAnyH_done (by kernel_rfl) ?_ _
            go_wp2_with fail
            go_meet
            exact mid_of HL1.out HL2.out HL3.out HL4.out rfl (by repeat' (first | with_reducible refine Row.drew ?_ | with_reducible refine Row.newE _ _ _ (by simp) | exact Row.newE _ _ _ (by simp) | with_reducible refine Row.alloc ?_ _)) (by repeat' (first | with_reducible refine Row.drew ?_ | with_reducible refine Row.newE _ _ _ (by simp) | exact Row.newE _ _ _ (by simp) | with_reducible refine Row.alloc ?_ _)) (by repeat' (first | with_reducible refine Row.drew ?_ | with_reducible refine Row.newE _ _ _ (by simp) | exact Row.newE _ _ _ (by simp) | with_reducible refine Row.alloc ?_ _)) (by repeat' (first | with_reducible refine Row.drew ?_ | with_reducible refine Row.newE _ _ _ (by simp) | exact Row.newE _ _ _ (by simp) | with_reducible refine Row.alloc ?_ _)) (by repeat' (first | with_reducible refine Row.drew ?_ | with_reducible refine Row.newE _ _ _ (by simp) | exact Row.newE _ _ _ (by simp) | with_reducible refine Row.alloc ?_ _)) (by repeat' (first | with_reducible exact HQ1.out | with_reducible refine below_dr ?_ | with_reducible refine below_al ?_ _)) (by have := LT1.out; refine ⟨?_, ?_, ?_, ?_, ?_⟩ <;> omega) (by refine ⟨?_, ?_, ?_, ?_, ?_, ?_, ?_, ?_, ?_, ?_⟩ <;> omega) hn hrd
      · go_simp
        refine hK.out _ _ (cs_alloc4 hHeld _) (fun hHeld => ?_)
        clear hK K
        try simp only [List.getElem_toArray, List.getElem_cons_succ, List.getElem_cons_zero, Act.put, List.setIfInBounds_toArray, List.set_cons_zero, List.set_cons_succ]
        refine wpAnyH_ready (rs := [4, 7]) (by kernel_rfl) (by simp) ?_
        refine AllReadyH.cons rfl (fun K hK => ?_) (AllReadyH.cons rfl (fun K hK => ?_) (AllReadyH.nil))
        · go_simp
          refine hK.out _ _ (cs_alloc4 hHeld _) (fun hHeld => ?_)
          clear hK K
          try simp only [List.getElem_toArray, List.getElem_cons_succ, List.getElem_cons_zero, Act.put, List.setIfInBounds_toArray, List.set_cons_zero, List.set_cons_succ]
          refine wpAnyH_ready (rs := [7]) (by kernel_rfl) (by simp) ?_
          refine AllReadyH.cons rfl (fun K hK => ?_) (AllReadyH.nil)
          · go_simp
            refine hK.out _ _ (cs_alloc4 hHeld _) (fun hHeld => ?_)
            clear hK K
            try simp only [List.getElem_toArray, List.getElem_cons_succ, List.getElem_cons_zero, Act.put, List.setIfInBounds_toArray, List.set_cons_zero, List.set_cons_succ]
            refine wpAnyH_ready (rs := [14]) (by kernel_rfl) (by simp) ?_
            refine AllReadyH.cons rfl (fun K hK => ?_) AllReadyH.nil
            go_simp
            refine hK.out _ _ hHeld (fun hHeld => ?_)
            clear hK K
            try simp only [List.getElem_toArray, List.getElem_cons_succ, List.getElem_cons_zero, Act.put, List.setIfInBounds_toArray, List.set_cons_zero, List.set_cons_succ]
            refine wpAnyH_ready (rs := [15]) (by kernel_rfl) (by simp) ?_
            refine AllReadyH.cons rfl (fun K hK => ?_) AllReadyH.nil
            go_simp
            refine hK.out _ _ (cs_alloc4 hHeld _) (fun hHeld => ?_)
            clear hK K
            try simp only [List.getElem_toArray, List.getElem_cons_succ, List.getElem_cons_zero, Act.put, List.setIfInBounds_toArray, List.set_cons_zero, List.set_cons_succ]
            refine wpAnyH_ready (rs := [16]) (by kernel_rfl) (by simp) ?_
            refine AllReadyH.cons rfl (fun K hK => ?_) AllReadyH.nil
            go_simp
            refine hK.out _ _ hHeld (fun hHeld => ?_)
            clear hK K
            try simp only [List.getElem_toArray, List.getElem_cons_succ, List.getElem_cons_zero, Act.put, List.setIfInBounds_toArray, List.set_cons_zero, List.set_cons_succ]
            refine wpAnyH_done (by kernel_rfl) ?_ _
            go_wp2_with fail
            go_meet
            exact mid_of HL1.out HL2.out HL3.out HL4.out rfl (by repeat' (first | with_reducible refine Row.drew ?_ | with_reducible refine Row.newE _ _ _ (by simp) | exact Row.newE _ _ _ (by simp) | with_reducible refine Row.alloc ?_ _)) (by repeat' (first | with_reducible refine Row.drew ?_ | with_reducible refine Row.newE _ _ _ (by simp) | exact Row.newE _ _ _ (by simp) | with_reducible refine Row.alloc ?_ _)) (by repeat' (first | with_reducible refine Row.drew ?_ | with_reducible refine Row.newE _ _ _ (by simp) | exact Row.newE _ _ _ (by simp) | with_reducible refine Row.alloc ?_ _)) (by repeat' (first | with_reducible refine Row.drew ?_ | with_reducible refine Row.newE _ _ _ (by simp) | exact Row.newE _ _ _ (by simp) | with_reducible refine Row.alloc ?_ _)) (by repeat' (first | with_reducible refine Row.drew ?_ | with_reducible refine Row.newE _ _ _ (by simp) | exact Row.newE _ _ _ (by simp) | with_reducible refine Row.alloc ?_ _)) (by repeat' (first | with_reducible exact HQ1.out | with_reducible refine below_dr ?_ | with_reducible refine below_al ?_ _)) (by have := LT1.out; refine ⟨?_, ?_, ?_, ?_, ?_⟩ <;> omega) (by refine ⟨?_, ?_, ?_, ?_, ?_, ?_, ?_, ?_, ?_, ?_⟩ <;> omega) hn hrd
        · go_simp
          refine hK.out _ _ (cs_alloc4 hHeld _) (fun hHeld => ?_)
          clear hK K
          try simp only [List.getElem_toArray, List.getElem_cons_succ, List.getElem_cons_zero, Act.put, List.setIfInBounds_toArray, List.set_cons_zero, List.set_cons_succ]
          refine wpAnyH_ready (rs := [4]) (by kernel_rfl) (by simp) ?_
          refine AllReadyH.cons rfl (fun K hK => ?_) (AllReadyH.nil)
          · go_simp
            refine hK.out _ _ (cs_alloc4 hHeld _) (fun hHeld => ?_)
            clear hK K
            try simp only [List.getElem_toArray, List.getElem_cons_succ, List.getElem_cons_zero, Act.put, List.setIfInBounds_toArray, List.set_cons_zero, List.set_cons_succ]
            refine wpAnyH_ready (rs := [14]) (by kernel_rfl) (by simp) ?_
            refine AllReadyH.cons rfl (fun K hK => ?_) AllReadyH.nil
            go_simp
            refine hK.out _ _ hHeld (fun hHeld => ?_)
            clear hK K
            try simp only [List.getElem_toArray, List.getElem_cons_succ, List.getElem_cons_zero, Act.put, List.setIfInBounds_toArray, List.set_cons_zero, List.set_cons_succ]
            refine wpAnyH_ready (rs := [15]) (by kernel_rfl) (by simp) ?_
            refine AllReadyH.cons rfl (fun K hK => ?_) AllReadyH.nil
            go_simp
            refine hK.out _ _ (cs_alloc4 hHeld _) (fun hHeld => ?_)
            clear hK K
            try simp only [List.getElem_toArray, List.getElem_cons_succ, List.getElem_cons_zero, Act.put, List.setIfInBounds_toArray, List.set_cons_zero, List.set_cons_succ]
            refine wpAnyH_ready (rs := [16]) (by kernel_rfl) (by simp) ?_
            refine AllReadyH.cons rfl (fun K hK => ?_) AllReadyH.nil
            go_simp
            refine hK.out _ _ hHeld (fun hHeld => ?_)
            clear hK K
            try simp only [List.getElem_toArray, List.getElem_cons_succ, List.getElem_cons_zero, Act.put, List.setIfInBounds_toArray, List.set_cons_zero, List.set_cons_succ]
            refine wpAnyH_done (by kernel_rfl) ?_ _
            go_wp2_with fail
            go_meet
            exact mid_of HL1.out HL2.out HL3.out HL4.out rfl (by repeat' (first | with_reducible refine Row.drew ?_ | with_reducible refine Row.newE _ _ _ (by simp) | exact Row.newE _ _ _ (by simp) | with_reducible refine Row.alloc ?_ _)) (by repeat' (first | with_reducible refine Row.drew ?_ | with_reducible refine Row.newE _ _ _ (by simp) | exact Row.newE _ _ _ (by simp) | with_reducible refine Row.alloc ?_ _)) (by repeat' (first | with_reducible refine Row.drew ?_ | with_reducible refine Row.newE _ _ _ (by simp) | exact Row.newE _ _ _ (by simp) | with_reducible refine Row.alloc ?_ _)) (by repeat' (first | with_reducible refine Row.drew ?_ | with_reducible refine Row.newE _ _ _ (by simp) | exact Row.newE _ _ _ (by simp) | with_reducible refine Row.alloc ?_ _)) (by repeat' (first | with_reducible refine Row.drew ?_ | with_reducible refine Row.newE _ _ _ (by simp) | exact Row.newE _ _ _ (by simp) | with_reducible refine Row.alloc ?_ _)) (by repeat' (first | with_reducible exact HQ1.out | with_reducible refine below_dr ?_ | with_reducible refine below_al ?_ _)) (by have := LT1.out; refine ⟨?_, ?_, ?_, ?_, ?_⟩ <;> omega) (by refine ⟨?_, ?_, ?_, ?_, ?_, ?_, ?_, ?_, ?_, ?_⟩ <;> omega) hn hrd
    · go_simp
      refine hK.out _ _ (cs_alloc4 hHeld _) (fun hHeld => ?_)
      clear hK K
      try simp only [List.getElem_toArray, List.getElem_cons_succ, List.getElem_cons_zero, Act.put, List.setIfInBounds_toArray, List.set_cons_zero, List.set_cons_succ]
      refine wpAnyH_ready (rs := [4, 7, 10]) (by kernel_rfl) (by simp) ?_
      refine AllReadyH.cons rfl (fun K hK => ?_) (AllReadyH.cons rfl (fun K hK => ?_) (AllReadyH.cons rfl (fun K hK => ?_) (AllReadyH.nil)))
      · go_simp
        refine hK.out _ _ (cs_alloc4 hHeld _) (fun hHeld => ?_)
        clear hK K
        try simp only [List.getElem_toArray, List.getElem_cons_succ, List.getElem_cons_zero, Act.put, List.setIfInBounds_toArray, List.set_cons_zero, List.set_cons_succ]
        refine wpAnyH_ready (rs := [7, 10]) (by kernel_rfl) (by simp) ?_
        refine AllReadyH.cons rfl (fun K hK => ?_) (AllReadyH.cons rfl (fun K hK => ?_) (AllReadyH.nil))
        · go_simp
          refine hK.out _ _ (cs_alloc4 hHeld _) (fun hHeld => ?_)
          clear hK K
          try simp only [List.getElem_toArray, List.getElem_cons_succ, List.getElem_cons_zero, Act.put, List.setIfInBounds_toArray, List.set_cons_zero, List.set_cons_succ]
          refine wpAnyH_ready (rs := [10]) (by kernel_rfl) (by simp) ?_
          refine AllReadyH.cons rfl (fun K hK => ?_) (AllReadyH.nil)
          · go_simp
            refine hK.out _ _ (cs_alloc4 hHeld _) (fun hHeld => ?_)
            clear hK K
            try simp only [List.getElem_toArray, List.getElem_cons_succ, List.getElem_cons_zero, Act.put, List.setIfInBounds_toArray, List.set_cons_zero, List.set_cons_succ]
            refine wpAnyH_ready (rs := [14]) (by kernel_rfl) (by simp) ?_
            refine AllReadyH.cons rfl (fun K hK => ?_) AllReadyH.nil
            go_simp
            refine hK.out _ _ hHeld (fun hHeld => ?_)
            clear hK K
            try simp only [List.getElem_toArray, List.getElem_cons_succ, List.getElem_cons_zero, Act.put, List.setIfInBounds_toArray, List.set_cons_zero, List.set_cons_succ]
            refine wpAnyH_ready (rs := [15]) (by kernel_rfl) (by simp) ?_
            refine AllReadyH.cons rfl (fun K hK => ?_) AllReadyH.nil
            go_simp
            refine hK.out _ _ (cs_alloc4 hHeld _) (fun hHeld => ?_)
            clear hK K
            try simp only [List.getElem_toArray, List.getElem_cons_succ, List.getElem_cons_zero, Act.put, List.setIfInBounds_toArray, List.set_cons_zero, List.set_cons_succ]
            refine wpAnyH_ready (rs := [16]) (by kernel_rfl) (by simp) ?_
            refine AllReadyH.cons rfl (fun K hK => ?_) AllReadyH.nil
            go_simp
            refine hK.out _ _ hHeld (fun hHeld => ?_)
            clear hK K
            try simp only [List.getElem_toArray, List.getElem_cons_succ, List.getElem_cons_zero, Act.put, List.setIfInBounds_toArray, List.set_cons_zero, List.set_cons_succ]
            refine wpAnyH_done (by kernel_rfl) ?_ _
            go_wp2_with fail
            go_meet
            exact mid_of HL1.out HL2.out HL3.out HL4.out rfl (by repeat' (first | with_reducible refine Row.drew ?_ | with_reducible refine Row.newE _ _ _ (by simp) | exact Row.newE _ _ _ (by simp) | with_reducible refine Row.alloc ?_ _)) (by repeat' (first | with_reducible refine Row.drew ?_ | with_reducible refine Row.newE _ _ _ (by simp) | exact Row.newE _ _ _ (by simp) | with_reducible refine Row.alloc ?_ _)) (by repeat' (first | with_reducible refine Row.drew ?_ | with_reducible refine Row.newE _ _ _ (by simp) | exact Row.newE _ _ _ (by simp) | with_reducible refine Row.alloc ?_ _)) (by repeat' (first | with_reducible refine Row.drew ?_ | with_reducible refine Row.newE _ _ _ (by simp) | exact Row.newE _ _ _ (by simp) | with_reducible refine Row.alloc ?_ _)) (by repeat' (first | with_reducible refine Row.drew ?_ | with_reducible refine Row.newE _ _ _ (by simp) | exact Row.newE _ _ _ (by simp) | with_reducible refine Row.alloc ?_ _)) (by repeat' (first | with_reducible exact HQ1.out | with_reducible refine below_dr ?_ | with_reducible refine below_al ?_ _)) (by have := LT1.out; refine ⟨?_, ?_, ?_, ?_, ?_⟩ <;> omega) (by refine ⟨?_, ?_, ?_, ?_, ?_, ?_, ?_, ?_, ?_, ?_⟩ <;> omega) hn hrd
        · go_simp
          refine hK.out _ _ (cs_alloc4 hHeld _) (fun hHeld => ?_)
          clear hK K
          try simp only [List.getElem_toArray, List.getElem_cons_succ, List.getElem_cons_zero, Act.put, List.setIfInBounds_toArray, List.set_cons_zero, List.set_cons_succ]
          refine wpAnyH_ready (rs := [7]) (by kernel_rfl) (by simp) ?_
          refine AllReadyH.cons rfl (fun K hK => ?_) (AllReadyH.nil)
          · go_simp
            refine hK.out _ _ (cs_alloc4 hHeld _) (fun hHeld => ?_)
            clear hK K
            try simp only [List.getElem_toArray, List.getElem_cons_succ, List.getElem_cons_zero, Act.put, List.setIfInBounds_toArray, List.set_cons_zero, List.set_cons_succ]
            refine wpAnyH_ready (rs := [14]) (by kernel_rfl) (by simp) ?_
            refine AllReadyH.cons rfl (fun K hK => ?_) AllReadyH.nil
            go_simp
            refine hK.out _ _ hHeld (fun hHeld => ?_)
            clear hK K
            try simp only [List.getElem_toArray, List.getElem_cons_succ, List.getElem_cons_zero, Act.put, List.setIfInBounds_toArray, List.set_cons_zero, List.set_cons_succ]
            refine wpAnyH_ready (rs := [15]) (by kernel_rfl) (by simp) ?_
            refine AllReadyH.cons rfl (fun K hK => ?_) AllReadyH.nil
            go_simp
            refine hK.out _ _ (cs_alloc4 hHeld _) (fun hHeld => ?_)
            clear hK K
            try simp only [List.getElem_toArray, List.getElem_cons_succ, List.getElem_cons_zero, Act.put, List.setIfInBounds_toArray, List.set_cons_zero, List.set_cons_succ]
            refine wpAnyH_ready (rs := [16]) (by kernel_rfl) (by simp) ?_
            refine AllReadyH.cons rfl (fun K hK => ?_) AllReadyH.nil
            go_simp
            refine hK.out _ _ hHeld (fun hHeld => ?_)
            clear hK K
            try simp only [List.getElem_toArray, List.getElem_cons_succ, List.getElem_cons_zero, Act.put, List.setIfInBounds_toArray, List.set_cons_zero, List.set_cons_succ]
            refine wpAnyH_done (by kernel_rfl) ?_ _
            go_wp2_with fail
            go_meet
            exact mid_of HL1.out HL2.out HL3.out HL4.out rfl (by repeat' (first | with_reducible refine Row.drew ?_ | with_reducible refine Row.newE _ _ _ (by simp) | exact Row.newE _ _ _ (by simp) | with_reducible refine Row.alloc ?_ _)) (by repeat' (first | with_reducible refine Row.drew ?_ | with_reducible refine Row.newE _ _ _ (by simp) | exact Row.newE _ _ _ (by simp) | with_reducible refine Row.alloc ?_ _)) (by repeat' (first | with_reducible refine Row.drew ?_ | with_reducible refine Row.newE _ _ _ (by simp) | exact Row.newE _ _ _ (by simp) | with_reducible refine Row.alloc ?_ _)) (by repeat' (first | with_reducible refine Row.drew ?_ | with_reducible refine Row.newE _ _ _ (by simp) | exact Row.newE _ _ _ (by simp) | with_reducible refine Row.alloc ?_ _)) (by repeat' (first | with_reducible refine Row.drew ?_ | with_reducible refine Row.newE _ _ _ (by simp) | exact Row.newE _ _ _ (by simp) | with_reducible refine Row.alloc ?_ _)) (by repeat' (first | with_reducible exact HQ1.out | with_reducible refine below_dr ?_ | with_reducible refine below_al ?_ _)) (by have := LT1.out; refine ⟨?_, ?_, ?_, ?_, ?_⟩ <;> omega) (by refine ⟨?_, ?_, ?_, ?_, ?_, ?_, ?_, ?_, ?_, ?_⟩ <;> omega) hn hrd
      · go_simp
        refine hK.out _ _ (cs_alloc4 hHeld _) (fun hHeld => ?_)
        clear hK K
        try simp only [List.getElem_toArray, List.getElem_cons_succ, List.getElem_cons_zero, Act.put, List.setIfInBounds_toArray, List.set_cons_zero, List.set_cons_succ]
        refine wpAnyH_ready (rs := [4, 10]) (by kernel_rfl) (by simp) ?_
        refine AllReadyH.cons rfl (fun K hK => ?_) (AllReadyH.cons rfl (fun K hK => ?_) (AllReadyH.nil))
        · go_simp
          refine hK.out _ _ (cs_alloc4 hHeld _) (fun hHeld => ?_)
          clear hK K
          try simp only [List.getElem_toArray, List.getElem_cons_succ, List.getElem_cons_zero, Act.put, List.setIfInBounds_toArray, List.set_cons_zero, List.set_cons_succ]
          refine wpAnyH_ready (rs := [10]) (by kernel_rfl) (by simp) ?_
          refine AllReadyH.cons rfl (fun K hK => ?_) (AllReadyH.nil)
          · go_simp
            refine hK.out _ _ (cs_alloc4 hHeld _) (fun hHeld => ?_)
            clear hK K
            try simp only [List.getElem_toArray, List.getElem_cons_succ, List.getElem_cons_zero, Act.put, List.setIfInBounds_toArray, List.set_cons_zero, List.set_cons_succ]
            refine wpAnyH_ready (rs := [14]) (by kernel_rfl) (by simp) ?_
            refine AllReadyH.cons rfl (fun K hK => ?_) AllReadyH.nil
            go_simp
            refine hK.out _ _ hHeld (fun hHeld => ?_)
            clear hK K
            try simp only [List.getElem_toArray, List.getElem_cons_succ, List.getElem_cons_zero, Act.put, List.setIfInBounds_toArray, List.set_cons_zero, List.set_cons_succ]
            refine wpAnyH_ready (rs := [15]) (by kernel_rfl) (by simp) ?_
            refine AllReadyH.cons rfl (fun K hK => ?_) AllReadyH.nil
            go_simp
            refine hK.out _ _ (cs_alloc4 hHeld _) (fun hHeld => ?_)
            clear hK K
            try simp only [List.getElem_toArray, List.getElem_cons_succ, List.getElem_cons_zero, Act.put, List.setIfInBounds_toArray, List.set_cons_zero, List.set_cons_succ]
            refine wpAnyH_ready (rs := [16]) (by kernel_rfl) (by simp) ?_
            refine AllReadyH.cons rfl (fun K hK => ?_) AllReadyH.nil
            go_simp
            refine hK.out _ _ hHeld (fun hHeld => ?_)
            clear hK K
            try simp only [List.getElem_toArray, List.getElem_cons_succ, List.getElem_cons_zero, Act.put, List.setIfInBounds_toArray, List.set_cons_zero, List.set_cons_succ]
            refine wpAnyH_done (by kernel_rfl) ?_ _
            go_wp2_with fail
            go_meet
            exact mid_of HL1.out HL2.out HL3.out HL4.out rfl (by repeat' (first | with_reducible refine Row.drew ?_ | with_reducible refine Row.newE _ _ _ (by simp) | exact Row.newE _ _ _ (by simp) | with_reducible refine Row.alloc ?_ _)) (by repeat' (first | with_reducible refine Row.drew ?_ | with_reducible refine Row.newE _ _ _ (by simp) | exact Row.newE _ _ _ (by simp) | with_reducible refine Row.alloc ?_ _)) (by repeat' (first | with_reducible refine Row.drew ?_ | with_reducible refine Row.newE _ _ _ (by simp) | exact Row.newE _ _ _ (by simp) | with_reducible refine Row.alloc ?_ _)) (by repeat' (first | with_reducible refine Row.drew ?_ | with_reducible refine Row.newE _ _ _ (by simp) | exact Row.newE _ _ _ (by simp) | with_reducible refine Row.alloc ?_ _)) (by repeat' (first | with_reducible refine Row.drew ?_ | with_reducible refine Row.newE _ _ _ (by simp) | exact Row.newE _ _ _ (by simp) | with_reducible refine Row.alloc ?_ _)) (by repeat' (first | with_reducible exact HQ1.out | with_reducible refine below_dr ?_ | with_reducible refine below_al ?_ _)) (by have := LT1.out; refine ⟨?_, ?_, ?_, ?_, ?_⟩ <;> omega) (by refine ⟨?_, ?_, ?_, ?_, ?_, ?_, ?_, ?_, ?_, ?_⟩ <;> omega) hn hrd
        · go_simp
          refine hK.out _ _ (cs_alloc4 hHeld _) (fun hHeld => ?_)
          clear hK K
          try simp only [List.getElem_toArray, List.getElem_cons_succ, List.getElem_cons_zero, Act.put, List.setIfInBounds_toArray, List.set_cons_zero, List.set_cons_succ]
          refine wpAnyH_ready (rs := [4]) (by kernel_rfl) (by simp) ?_
          refine AllReadyH.cons rfl (fun K hK => ?_) (AllReadyH.nil)
          · go_simp
            refine hK.out _ _ (cs_alloc4 hHeld _) (fun hHeld => ?_)
            clear hK K
            try simp only [List.getElem_toArray, List.getElem_cons_succ, List.getElem_cons_zero, Act.put, List.setIfInBounds_toArray, List.set_cons_zero, List.set_cons_succ]
            refine wpAnyH_ready (rs := [14]) (by kernel_rfl) (by simp) ?_
            refine AllReadyH.cons rfl (fun K hK => ?_) AllReadyH.nil
            go_simp
            refine hK.out _ _ hHeld (fun hHeld => ?_)
            clear hK K
            try simp only [List.getElem_toArray, List.getElem_cons_succ, List.getElem_cons_zero, Act.put, List.setIfInBounds_toArray, List.set_cons_zero, List.set_cons_succ]
            refine wpAnyH_ready (rs := [15]) (by kernel_rfl) (by simp) ?_
            refine AllReadyH.cons rfl (fun K hK => ?_) AllReadyH.nil
            go_simp
            refine hK.out _ _ (cs_alloc4 hHeld _) (fun hHeld => ?_)
            clear hK K
            try simp only [List.getElem_toArray, List.getElem_cons_succ, List.getElem_cons_zero, Act.put, List.setIfInBounds_toArray, List.set_cons_zero, List.set_cons_succ]
            refine wpAnyH_ready (rs := [16]) (by kernel_rfl) (by simp) ?_
            refine AllReadyH.cons rfl (fun K hK => ?_) AllReadyH.nil
            go_simp
            refine hK.out _ _ hHeld (fun hHeld => ?_)
            clear hK K
            try simp only [List.getElem_toArray, List.getElem_cons_succ, List.getElem_cons_zero, Act.put, List.setIfInBounds_toArray, List.set_cons_zero, List.set_cons_succ]
            refine wpAnyH_done (by kernel_rfl) ?_ _
            go_wp2_with fail
            go_meet
            exact mid_of HL1.out HL2.out HL3.out HL4.out rfl (by repeat' (first | with_reducible refine Row.drew ?_ | with_reducible refine Row.newE _ _ _ (by simp) | exact Row.newE _ _ _ (by simp) | with_reducible refine Row.alloc ?_ _)) (by repeat' (first | with_reducible refine Row.drew ?_ | with_reducible refine Row.newE _ _ _ (by simp) | exact Row.newE _ _ _ (by simp) | with_reducible refine Row.alloc ?_ _)) (by repeat' (first | with_reducible refine Row.drew ?_ | with_reducible refine Row.newE _ _ _ (by simp) | exact Row.newE _ _ _ (by simp) | with_reducible refine Row.alloc ?_ _)) (by repeat' (first | with_reducible refine Row.drew ?_ | with_reducible refine Row.newE _ _ _ (by simp) | exact Row.newE _ _ _ (by simp) | with_reducible refine Row.alloc ?_ _)) (by repeat' (first | with_reducible refine Row.drew ?_ | with_reducible refine Row.newE _ _ _ (by simp) | exact Row.newE _ _ _ (by simp) | with_reducible refine Row.alloc ?_ _)) (by repeat' (first | with_reducible exact HQ1.out | with_reducible refine below_dr ?_ | with_reducible refine below_al ?_ _)) (by have := LT1.out; refine ⟨?_, ?_, ?_, ?_, ?_⟩ <;> omega) (by refine ⟨?_, ?_, ?_, ?_, ?_, ?_, ?_, ?_, ?_, ?_⟩ <;> omega) hn hrd
      · go_simp
        refine hK.out _ _ (cs_alloc4 hHeld _) (fun hHeld => ?_)
        clear hK K
        try simp only [List.getElem_toArray, List.getElem_cons_succ, List.getElem_cons_zero, Act.put, List.setIfInBounds_toArray, List.set_cons_zero, List.set_cons_succ]
        refine wpAnyH_ready (rs := [4, 7]) (by kernel_rfl) (by simp) ?_
        refine AllReadyH.cons rfl (fun K hK => ?_) (AllReadyH.cons rfl (fun K hK => ?_) (AllReadyH.nil))
        · go_simp
          refine hK.out _ _ (cs_alloc4 hHeld _) (fun hHeld => ?_)
          clear hK K
          try simp only [List.getElem_toArray, List.getElem_cons_succ, List.getElem_cons_zero, Act.put, List.setIfInBounds_toArray, List.set_cons_zero, List.set_cons_succ]
          refine wpAnyH_ready (rs := [7]) (by kernel_rfl) (by simp) ?_
          refine AllReadyH.cons rfl (fun K hK => ?_) (AllReadyH.nil)
          · go_simp
            refine hK.out _ _ (cs_alloc4 hHeld _) (fun hHeld => ?_)
            clear hK K
            try simp only [List.getElem_toArray, List.getElem_cons_succ, List.getElem_cons_zero, Act.put, List.setIfInBounds_toArray, List.set_cons_zero, List.set_cons_succ]
            refine wpAnyH_ready (rs := [14]) (by kernel_rfl) (by simp) ?_
            refine AllReadyH.cons rfl (fun K hK => ?_) AllReadyH.nil
            go_simp
            refine hK.out _ _ hHeld (fun hHeld => ?_)
            clear hK K
            try simp only [List.getElem_toArray, List.getElem_cons_succ, List.getElem_cons_zero, Act.put, List.setIfInBounds_toArray, List.set_cons_zero, List.set_cons_succ]
            refine wpAnyH_ready (rs := [15]) (by kernel_rfl) (by simp) ?_
            refine AllReadyH.cons rfl (fun K hK => ?_) AllReadyH.nil
            go_simp
            refine hK.out _ _ (cs_alloc4 hHeld _) (fun hHeld => ?_)
            clear hK K
            try simp only [List.getElem_toArray, List.getElem_cons_succ, List.getElem_cons_zero, Act.put, List.setIfInBounds_toArray, List.set_cons_zero, List.set_cons_succ]
            refine wpAnyH_ready (rs := [16]) (by kernel_rfl) (by simp) ?_
            refine AllReadyH.cons rfl (fun K hK => ?_) AllReadyH.nil
            go_simp
            refine hK.out _ _ hHeld (fun hHeld => ?_)
            clear hK K
            try simp only [List.getElem_toArray, List.getElem_cons_succ, List.getElem_cons_zero, Act.put, List.setIfInBounds_toArray, List.set_cons_zero, List.set_cons_succ]
            refine wpAnyH_done (by kernel_rfl) ?_ _
            go_wp2_with fail
            go_meet
            exact mid_of HL1.out HL2.out HL3.out HL4.out rfl (by repeat' (first | with_reducible refine Row.drew ?_ | with_reducible refine Row.newE _ _ _ (by simp) | exact Row.newE _ _ _ (by simp) | with_reducible refine Row.alloc ?_ _)) (by repeat' (first | with_reducible refine Row.drew ?_ | with_reducible refine Row.newE _ _ _ (by simp) | exact Row.newE _ _ _ (by simp) | with_reducible refine Row.alloc ?_ _)) (by repeat' (first | with_reducible refine Row.drew ?_ | with_reducible refine Row.newE _ _ _ (by simp) | exact Row.newE _ _ _ (by simp) | with_reducible refine Row.alloc ?_ _)) (by repeat' (first | with_reducible refine Row.drew ?_ | with_reducible refine Row.newE _ _ _ (by simp) | exact Row.newE _ _ _ (by simp) | with_reducible refine Row.alloc ?_ _)) (by repeat' (first | with_reducible refine Row.drew ?_ | with_reducible refine Row.newE _ _ _ (by simp) | exact Row.newE _ _ _ (by simp) | with_reducible refine Row.alloc ?_ _)) (by repeat' (first | with_reducible exact HQ1.out | with_reducible refine below_dr ?_ | with_reducible refine below_al ?_ _)) (by have := LT1.out; refine ⟨?_, ?_, ?_, ?_, ?_⟩ <;> omega) (by refine ⟨?_, ?_, ?_, ?_, ?_, ?_, ?_, ?_, ?_, ?_⟩ <;> omega) hn hrd
        · go_simp
          refine hK.out _ _ (cs_alloc4 hHeld _) (fun hHeld => ?_)
          clear hK K
          try simp only [List.getElem_toArray, List.getElem_cons_succ, List.getElem_cons_zero, Act.put, List.setIfInBounds_toArray, List.set_cons_zero, List.set_cons_succ]
          refine wpAnyH_ready (rs := [4]) (by kernel_rfl) (by simp) ?_
          refine AllReadyH.cons rfl (fun K hK => ?_) (AllReadyH.nil)
          · go_simp
            refine hK.out _ _ (cs_alloc4 hHeld _) (fun hHeld => ?_)
            clear hK K
            try simp only [List.getElem_toArray, List.getElem_cons_succ, List.getElem_cons_zero, Act.put, List.setIfInBounds_toArray, List.set_cons_zero, List.set_cons_succ]
            refine wpAnyH_ready (rs := [14]) (by kernel_rfl) (by simp) ?_
            refine AllReadyH.cons rfl (fun K hK => ?_) AllReadyH.nil
            go_simp
            refine hK.out _ _ hHeld (fun hHeld => ?_)
            clear hK K
            try simp only [List.getElem_toArray, List.getElem_cons_succ, List.getElem_cons_zero, Act.put, List.setIfInBounds_toArray, List.set_cons_zero, List.set_cons_succ]
            refine wpAnyH_ready (rs := [15]) (by kernel_rfl) (by simp) ?_
            refine AllReadyH.cons rfl (fun K hK => ?_) AllReadyH.nil
            go_simp
            refine hK.out _ _ (cs_alloc4 hHeld _) (fun hHeld => ?_)
            clear hK K
            try simp only [List.getElem_toArray, List.getElem_cons_succ, List.getElem_cons_zero, Act.put, List.setIfInBounds_toArray, List.set_cons_zero, List.set_cons_succ]
            refine wpAnyH_ready (rs := [16]) (by kernel_rfl) (by simp) ?_
            refine AllReadyH.cons rfl (fun K hK => ?_) AllReadyH.nil
            go_simp
            refine hK.out _ _ hHeld (fun hHeld => ?_)
            clear hK K
            try simp only [List.getElem_toArray, List.getElem_cons_succ, List.getElem_cons_zero, Act.put, List.setIfInBounds_toArray, List.set_cons_zero, List.set_cons_succ]
            refine wpAnyH_done (by kernel_rfl) ?_ _
            go_wp2_with fail
            go_meet
            exact mid_of HL1.out HL2.out HL3.out HL4.out rfl (by repeat' (first | with_reducible refine Row.drew ?_ | with_reducible refine Row.newE _ _ _ (by simp) | exact Row.newE _ _ _ (by simp) | with_reducible refine Row.alloc ?_ _)) (by repeat' (first | with_reducible refine Row.drew ?_ | with_reducible refine Row.newE _ _ _ (by simp) | exact Row.newE _ _ _ (by simp) | with_reducible refine Row.alloc ?_ _)) (by repeat' (first | with_reducible refine Row.drew ?_ | with_reducible refine Row.newE _ _ _ (by simp) | exact Row.newE _ _ _ (by simp) | with_reducible refine Row.alloc ?_ _)) (by repeat' (first | with_reducible refine Row.drew ?_ | with_reducible refine Row.newE _ _ _ (by simp) | exact Row.newE _ _ _ (by simp) | with_reducible refine Row.alloc ?_ _)) (by repeat' (first | with_reducible refine Row.drew ?_ | with_reducible refine Row.newE _ _ _ (by simp) | exact Row.newE _ _ _ (by simp) | with_reducible refine Row.alloc ?_ _)) (by repeat' (first | with_reducible exact HQ1.out | with_reducible refine below_dr ?_ | with_reducible refine below_al ?_ _)) (by have := LT1.out; refine ⟨?_, ?_, ?_, ?_, ?_⟩ <;> omega) (by refine ⟨?_, ?_, ?_, ?_, ?_, ?_, ?_, ?_, ?_, ?_⟩ <;> omega) hn hrd
    --END
  case rest =>
    obtain ⟨gk, gr, gs, go, gd, rfl, G, hW, hbl⟩ := hcut
    have HALL := Lib.hid (all_calls G hW (hl.below hbl) hok hlen ho)
    have HBL := Lib.hid hbl
    clear hm1 hm2 hm3 hm4 HL1 HL2 HL3 HL4 HP1 HQ1 LT1 p0 p1 p2 p3 hW hbl
    go_wp2_with fail
    refine HALL.out.mono ?_
    rintro e w' ⟨hy, hno⟩
    cases hv : (vAll regs outs reads n l).2 with
    | some st =>
      obtain ⟨rfl, hb', hW'⟩ := hy st hv
      clear hno hy
      go_wp2_with fail
      go_ret2
      exact ⟨gk, gr, gs, go, gd, G, HBL.out.trans hb', fun st2 h2 => ⟨rfl, by rw [hv] at h2; injection h2 with h2; subst h2; exact hW'⟩, fun h2 => some_none hv h2⟩
    | none =>
      obtain ⟨rfl, hb', hF⟩ := hno hv
      clear hno hy
      go_wp2_with fail
      go_ret2
      exact ⟨gk, gr, gs, go, gd, G, HBL.out.trans hb', fun st2 h2 => some_none h2 hv, fun _ => ⟨rfl, hF⟩⟩
end Go.Proofs.Ythbjcafldbocpaa
namespace Go.Proofs.Ythbjcafldbocpaa
open Go.RowKit
set_option linter.unusedVariables false
set_option linter.unusedSimpArgs false

def sameB (xs ys : List UInt8) : Bool := xs == ys
theorem sameB_self (xs : List UInt8) : sameB xs xs = true := by simp [sameB]
theorem to_string {w : World} {B : Nat} {A : Option Addr} {n cap : Nat} {xs : List UInt8} (h : Rd w B A n (bVs xs)) :
    (convert 35 9 (.slice A n cap)).run Try.prog w = .ok (.string ⟨xs.toArray⟩) w := by
  rcases Nat.eq_zero_or_pos n with h0 | hp
  · subst h0
    have hx : xs = [] := List.eq_nil_of_length_eq_zero (by have := h.len; rw [bVs_length] at this; exact this)
    subst hx
    cases A with
    | none => 
      have h1 := run_convert_bytes_string (P := Try.prog) w 35 9 5 none 0 cap Try.underlying35 Try.underlying5 Try.underlying9
      rw [h1]
      simp [Conv.bytesToString]
      rfl
    | some a => exact run_convert_bytes_back (P := Try.prog) w 35 9 5 a cap [] Try.underlying35 Try.underlying5 Try.underlying9 (fun j hj => absurd hj (by simp))
  · obtain ⟨g, o, rfl, hg, hc⟩ := h.2 hp
    have hl := h.len
    rw [bVs_length] at hl
    subst hl
    refine run_convert_bytes_back (P := Try.prog) w 35 9 5 ⟨g, o, none⟩ cap xs Try.underlying35 Try.underlying5 Try.underlying9 (fun j hj => ?_)
    have h1 := hc j _ (bVs_get xs j hj)
    unfold Addr.add
    split
    · next h0 => subst h0; simpa using h1
    · exact h1

set_option maxHeartbeats 400000 in
theorem same_calls (A : Option Addr) (n ac : Nat) (B : Option Addr) (m bc : Nat) (xs ys : List UInt8) (w : World) (ha : Rd w w.heap.size A n (bVs xs)) (hb : Rd w w.heap.size B m (bVs ys)) :
    Calls Try.prog 35 #[.slice A n ac, .slice B m bc] w fun e w' => e = .returned (.bool (sameB xs ys)) ∧ w = w' := by
  have h1 := to_string (cap := ac) ha
  have h2 := to_string (cap := bc) hb
  go_enter Try.func35, Try.ntmps35
  go_wp2_with fail
  go_ret
  exact ⟨rfl, rfl⟩
end Go.Proofs.Ythbjcafldbocpaa
namespace Go.Proofs.Ythbjcafldbocpaa
open Go.RowKit
set_option linter.unusedVariables false
set_option linter.unusedSimpArgs false

theorem same_self (A : Option Addr) (n ac : Nat) (B : Option Addr) (m bc : Nat) (xs : List UInt8) (w : World) (ha : Rd w w.heap.size A n (bVs xs)) (hb : Rd w w.heap.size B m (bVs xs)) :
    Calls Try.prog 35 #[.slice A n ac, .slice B m bc] w fun e w' => e = .returned (.bool true) ∧ w = w' := by
  have h := same_calls A n ac B m bc xs xs w ha hb
  rw [sameB_self] at h
  exact h
set_option maxHeartbeats 800000 in
theorem like_self (r c : Int) (A : Option Addr) (n ac : Nat) (B : Option Addr) (m bc : Nat) (xs : List UInt8) (w : World) (ha : Rd w w.heap.size A n (bVs xs)) (hb : Rd w w.heap.size B m (bVs xs)) :
    Calls Try.prog 20 #[mV r c A n ac, mV r c B m bc] w fun e w' => e = .returned (.bool true) ∧ Below w.heap.size w w' := by
  have hB : Below w.heap.size w ((w.alloc (Obj.cells #[.int .i64 r, .int .i64 c, .slice A n ac] 37)).alloc (Obj.cells #[.int .i64 r, .int .i64 c, .slice B m bc] 37)) := ((Below.refl _ _).alloc (Nat.le_refl _) _).alloc (by simp) _
  have ra := ha.go hB
  have rb := hb.go hB
  have HB := Lib.hid hB
  clear hB ha hb
  go_enter Try.func20, Try.ntmps20
  go_wp2_with (go_at_call 35; refine (same_self _ _ _ _ _ _ _ _ ra rb).mono ?_; rintro e w' ⟨rfl, rfl⟩)
  go_ret
  exact ⟨rfl, HB.out⟩
end Go.Proofs.Ythbjcafldbocpaa
namespace Go.Proofs.Ythbjcafldbocpaa
open Go.RowKit
set_option linter.unusedVariables false
set_option linter.unusedSimpArgs false
def likeB (r c : Int) (xs : List UInt8) (r' c' : Int) (ys : List UInt8) : Bool := decide (r = r') && (decide (c = c') && sameB xs ys)
end Go.Proofs.Ythbjcafldbocpaa
namespace Go.Proofs.Ythbjcafldbocpaa
open Go.RowKit
set_option linter.unusedVariables false
set_option linter.unusedSimpArgs false

set_option maxHeartbeats 400000 in
theorem side_calls (n : Int) (w : World) : Calls Try.prog 53 #[.int .i64 n] w fun e w' => e = .returned (.bool (sideB n)) ∧ w = w' := by
  by_cases h1 : 0 ≤ n
  · by_cases h2 : n ≤ 64
    · have H := Lib.hid (show sideB n = true by simp [sideB, h1, h2])
      have d1 : decide (0 ≤ n) = true := by simpa using h1
      have d2 : decide (n ≤ 64) = true := by simpa using h2
      go_enter Try.func53, Try.ntmps53
      go_wp2_with fail
      go_ret
      exact ⟨by rw [H.out]; rfl, rfl⟩
    · have H := Lib.hid (show sideB n = false by simp [sideB, h1, h2])
      have d1 : decide (0 ≤ n) = true := by simpa using h1
      have d2 : decide (n ≤ 64) = false := by simpa using h2
      go_enter Try.func53, Try.ntmps53
      go_wp2_with fail
      go_ret
      exact ⟨by rw [H.out]; rfl, rfl⟩
  · have H := Lib.hid (show sideB n = false by simp [sideB, h1])
    have d1 : decide (0 ≤ n) = false := by simpa using h1
    go_enter Try.func53, Try.ntmps53
    go_wp2_with fail
    go_ret
    exact ⟨by rw [H.out]; rfl, rfl⟩
set_option maxRecDepth 100000 in
set_option maxHeartbeats 800000 in
theorem right_calls (r c : Int) (A : Option Addr) (n cap : Nat) (w : World) : Calls Try.prog 43 #[mV r c A n cap] w fun e w' => e = .returned (.bool (rightB r c n)) ∧ Below w.heap.size w w' := by
  by_cases hr : sideB r = true
  · by_cases hc : sideB c = true
    · have h1 : 0 ≤ r ∧ r ≤ 64 := by simpa [sideB] using hr
      have h2 : 0 ≤ c ∧ c ≤ 64 := by simpa [sideB] using hc
      obtain ⟨p, hp⟩ : ∃ p, p = r * c := ⟨_, rfl⟩
      have hb := prod_bd h1.1 h1.2 h2.1 h2.2
      have e1 : IntKind.i64.wrap (r * c) = p := by rw [IntKind.wrap_i64, hp]; omega
      have H := Lib.hid (show rightB r c n = decide ((n : Int) = p) by rw [hp]; simp [rightB, h1, h2])
      clear h1 h2 hb hp
      by_cases hn : (n : Int) = p
      · have q : ((n : Int) == p) = true := by simpa using hn
        have HN := Lib.hid (show decide ((n : Int) = p) = true by simpa using hn)
        clear hn
        go_enter Try.func43, Try.ntmps43
        go_wp2_with (go_at_call 53; refine (side_calls _ _).mono ?_; rintro e w' ⟨rfl, rfl⟩)
        go_ret
        exact ⟨by rw [H.out, HN.out]; rfl, (Below.refl _ _).alloc (Nat.le_refl _) _⟩
      · have q : ((n : Int) == p) = false := by simpa using hn
        have HN := Lib.hid (show decide ((n : Int) = p) = false by simpa using hn)
        clear hn
        go_enter Try.func43, Try.ntmps43
        go_wp2_with (go_at_call 53; refine (side_calls _ _).mono ?_; rintro e w' ⟨rfl, rfl⟩)
        go_ret
        exact ⟨by rw [H.out, HN.out]; rfl, (Below.refl _ _).alloc (Nat.le_refl _) _⟩
    · have hc : sideB c = false := by simpa using hc
      have H := Lib.hid (show rightB r c n = false by simp [rightB, sideB] at hc ⊢; intro h1 h2 h3 h4; omega)
      go_enter Try.func43, Try.ntmps43
      go_wp2_with (go_at_call 53; refine (side_calls _ _).mono ?_; rintro e w' ⟨rfl, rfl⟩)
      go_ret
      exact ⟨by rw [H.out]; rfl, (Below.refl _ _).alloc (Nat.le_refl _) _⟩
  · have hr : sideB r = false := by simpa using hr
    have H := Lib.hid (show rightB r c n = false by simp [rightB, sideB] at hr ⊢; intro h1 h2; omega)
    go_enter Try.func43, Try.ntmps43
    go_wp2_with (go_at_call 53; refine (side_calls _ _).mono ?_; rintro e w' ⟨rfl, rfl⟩)
    go_ret
    exact ⟨by rw [H.out]; rfl, (Below.refl _ _).alloc (Nat.le_refl _) _⟩
end Go.Proofs.Ythbjcafldbocpaa
namespace Go.Proofs.Ythbjcafldbocpaa
open Go.RowKit
set_option linter.unusedVariables false
set_option linter.unusedSimpArgs false
set_option maxHeartbeats 400000 in
theorem bequal_calls (A : Option Addr) (n ac : Nat) (B : Option Addr) (m bc : Nat) (xs ys : List UInt8) (w : World) (ha : Rd w w.heap.size A n (bVs xs)) (hb : Rd w w.heap.size B m (bVs ys)) :
    Calls Try.prog 58 #[.slice A n ac, .slice B m bc] w fun e w' => e = .returned (.bool (sameB xs ys)) ∧ w = w' := by
  have h1 := to_string (cap := ac) ha
  have h2 := to_string (cap := bc) hb
  go_enter Try.func58, Try.ntmps58
  go_wp2_with fail
  go_ret
  exact ⟨rfl, rfl⟩
set_option maxRecDepth 100000 in
set_option maxHeartbeats 1600000 in
theorem msame_calls (r c : Int) (A : Option Addr) (n ac : Nat) (r' c' : Int) (B : Option Addr) (m bc : Nat) (xs ys : List UInt8) (w : World) (ha : Rd w w.heap.size A n (bVs xs)) (hb : Rd w w.heap.size B m (bVs ys)) (hra : rightB r c n = true) (hrb : rightB r' c' m = true) :
    Calls Try.prog 45 #[mV r c A n ac, mV r' c' B m bc] w fun e w' => e = .returned (.bool (likeB r c xs r' c' ys)) ∧ Below w.heap.size w w' := by
  have HR1 := Lib.hid (fun w => right_calls r c A n ac w)
  have HR2 := Lib.hid (fun w => right_calls r' c' B m bc w)
  have S := (((((Ctx.start w).add ha).add hb).box [.int .i64 r, .int .i64 c, .slice A n ac]).box [.int .i64 r', .int .i64 c', .slice B m bc])
  simp only [World.size_alloc] at S
  obtain ⟨d0, d1, d2⟩ := S.cells 1 rfl
  obtain ⟨e0, e1, e2⟩ := S.cells 0 rfl
  rw [hra] at HR1
  rw [hrb] at HR2
  clear hra hrb ha hb
  by_cases h1 : r = r'
  · have t1 : (r == r') = true := by simpa using h1
    by_cases h2 : c = c'
    · have t2 : (c == c') = true := by simpa using h2
      have el : likeB r c xs r' c' ys = sameB xs ys := by simp [likeB, h1, h2]
      rw [el]
      clear el h1 h2
      go_enter Try.func45, Try.ntmps45
      go_wp2_with (first | (go_at_call 43; (first | (with_reducible refine (HR1.out _).mono ?_) | (with_reducible refine (HR2.out _).mono ?_)); rintro e w1 ⟨rfl, hb⟩; replace S := S.go hb; clear hb d0 d1 d2 e0 e1 e2; obtain ⟨d0, d1, d2⟩ := S.cells 1 rfl; obtain ⟨e0, e1, e2⟩ := S.cells 0 rfl) | (go_at_call 58; refine (bequal_calls _ _ _ _ _ _ _ _ _ (S.rd 1 rfl) (S.rd 0 rfl)).mono ?_; rintro e w1 ⟨rfl, rfl⟩))
      go_ret
      exact ⟨rfl, S.below⟩
    · have t2 : (c == c') = false := by simpa using h2
      have el : likeB r c xs r' c' ys = false := by simp [likeB, h1, h2]
      rw [el]
      clear el h1 h2
      go_enter Try.func45, Try.ntmps45
      go_wp2_with (go_at_call 43; (first | (with_reducible refine (HR1.out _).mono ?_) | (with_reducible refine (HR2.out _).mono ?_)); rintro e w1 ⟨rfl, hb⟩; replace S := S.go hb; clear hb d0 d1 d2 e0 e1 e2; obtain ⟨d0, d1, d2⟩ := S.cells 1 rfl; obtain ⟨e0, e1, e2⟩ := S.cells 0 rfl)
      go_ret
      exact ⟨rfl, S.below⟩
  · have t1 : (r == r') = false := by simpa using h1
    have el : likeB r c xs r' c' ys = false := by simp [likeB, h1]
    rw [el]
    clear el h1
    go_enter Try.func45, Try.ntmps45
    go_wp2_with (go_at_call 43; (first | (with_reducible refine (HR1.out _).mono ?_) | (with_reducible refine (HR2.out _).mono ?_)); rintro e w1 ⟨rfl, hb⟩; replace S := S.go hb; clear hb d0 d1 d2 e0 e1 e2; obtain ⟨d0, d1, d2⟩ := S.cells 1 rfl; obtain ⟨e0, e1, e2⟩ := S.cells 0 rfl)
    go_ret
    exact ⟨rfl, S.below⟩
end Go.Proofs.Ythbjcafldbocpaa
namespace Go.Proofs.Ythbjcafldbocpaa
open Go.RowKit
set_option linter.unusedVariables false
set_option linter.unusedSimpArgs false
structure Cx (w0 w : World) (bs : List (Nat × TypeId × List Value)) (rs : List (Option Addr × Nat × List UInt8)) : Prop where
  below : Below w0.heap.size w0 w
  rows : ∀ b ∈ bs, Row w b.1 b.2.1 b.2.2
  rds : ∀ r ∈ rs, Rd w w.heap.size r.1 r.2.1 (bVs r.2.2)
section
variable {w0 w w' : World} {bs : List (Nat × TypeId × List Value)} {rs : List (Option Addr × Nat × List UInt8)}
theorem Cx.start (w : World) : Cx w w [] [] := ⟨Below.refl _ _, fun b h => absurd h (by simp), fun r h => absurd h (by simp)⟩
theorem Cx.go (h : Cx w0 w bs rs) (hb : Below w.heap.size w w') : Cx w0 w' bs rs :=
  ⟨h.below.trans (hb.mono h.below.size), fun b hm => (h.rows b hm).below hb (h.rows b hm).lt, fun r hm => (h.rds r hm).go hb⟩
theorem Cx.add {A : Option Addr} {n : Nat} {xs : List UInt8} (h : Cx w0 w bs rs) (hr : Rd w w.heap.size A n (bVs xs)) : Cx w0 w bs ((A, n, xs) :: rs) :=
  ⟨h.below, h.rows, fun r hm => by
    rcases List.mem_cons.1 hm with rfl | hm
    · exact hr
    · exact h.rds r hm⟩
theorem Cx.row0 {g : Nat} {t : TypeId} {cs : List Value} (h : Cx w0 w bs rs) (hr : Row w g t cs) : Cx w0 w ((g, t, cs) :: bs) rs :=
  ⟨h.below, fun b hm => by
    rcases List.mem_cons.1 hm with rfl | hm
    · exact hr
    · exact h.rows b hm, h.rds⟩
theorem Cx.box (h : Cx w0 w bs rs) (t : TypeId) (cs : List Value) : Cx w0 (w.alloc (.cells cs.toArray t)) ((w.heap.size, t, cs) :: bs) rs :=
  (h.go ((Below.refl _ _).alloc (Nat.le_refl _) _)).row0 (Row.new w cs t)
theorem Cx.alloc (h : Cx w0 w bs rs) (o : Obj) : Cx w0 (w.alloc o) bs rs := h.go ((Below.refl _ _).alloc (Nat.le_refl _) o)
theorem Cx.drewN (h : Cx w0 w bs rs) (n : Nat) : Cx w0 (w.drewN n) bs rs := h.go (below_drewN (Below.refl _ _) n)
theorem Cx.drew (h : Cx w0 w bs rs) : Cx w0 w.drew bs rs := h.go (Below.drew (Below.refl _ _))
theorem Cx.row (h : Cx w0 w bs rs) (i : Nat) {g : Nat} {t : TypeId} {cs : List Value} (e : bs[i]? = some (g, t, cs)) : Row w g t cs := h.rows _ (List.mem_of_getElem? e)
theorem Cx.rd (h : Cx w0 w bs rs) (i : Nat) {A : Option Addr} {n : Nat} {xs : List UInt8} (e : rs[i]? = some (A, n, xs)) : Rd w w.heap.size A n (bVs xs) := h.rds _ (List.mem_of_getElem? e)
theorem Cx.lt (h : Cx w0 w bs rs) (i : Nat) {g : Nat} {t : TypeId} {cs : List Value} (e : bs[i]? = some (g, t, cs)) : g < w.heap.size := (h.row i e).lt
theorem Cx.cells3 (h : Cx w0 w bs rs) (i : Nat) {g : Nat} {t : TypeId} {a b c : Value} (e : bs[i]? = some (g, t, [a, b, c])) : w.cell? ⟨g, 0, none⟩ = some a ∧ w.cell? ⟨g, 1, none⟩ = some b ∧ w.cell? ⟨g, 2, none⟩ = some c :=
  ⟨(h.row i e).cell 0, (h.row i e).cell 1, (h.row i e).cell 2⟩
theorem Cx.cells4 (h : Cx w0 w bs rs) (i : Nat) {g : Nat} {t : TypeId} {a b c d : Value} (e : bs[i]? = some (g, t, [a, b, c, d])) : w.cell? ⟨g, 0, none⟩ = some a ∧ w.cell? ⟨g, 1, none⟩ = some b ∧ w.cell? ⟨g, 2, none⟩ = some c ∧ w.cell? ⟨g, 3, none⟩ = some d :=
  ⟨(h.row i e).cell 0, (h.row i e).cell 1, (h.row i e).cell 2, (h.row i e).cell 3⟩
end
end Go.Proofs.Ythbjcafldbocpaa
namespace Go.Proofs.Ythbjcafldbocpaa
open Go.RowKit
set_option linter.unusedVariables false
set_option linter.unusedSimpArgs false

set_option maxRecDepth 100000 in
set_option maxHeartbeats 800000 in
theorem dot_calls (a : Option Addr) (n ac : Nat) (b : Option Addr) (bc : Nat) (xs ys : List UInt8) (w : World) (ha : Rd w w.heap.size a n (bVs xs)) (hb : Rd w w.heap.size b n (bVs ys)) (hn : n ≤ 140737488355328) :
    Calls Try.prog 56 #[.slice a n ac, .slice b n bc] w fun e w' => e = .returned (.tuple #[.int .u8 ((Gf.dot xs ys).toNat : Int), .int .i64 0]) ∧ Below w.heap.size w w' := by
  have hq : ((n : Int) != (n : Int)) = false := by rw [bne_eq_false_iff_eq]
  have HL := Lib.hid (show xs.length = n by have := ha.len; rw [bVs_length] at this; exact this)
  obtain ⟨Z, hzv, HZ0, HSZ⟩ := zero_tables'
  go_enter Try.func56, Try.ntmps56
  go_wp2_with (first | (go_at_call 70; refine (build_calls _).mono ?_; rintro e w1 ⟨T, hT, rfl, hb1⟩) | (refine wpList_store_tab (.tmp 6) (.tmp 15) rfl rfl T Z hT HZ0 HSZ rfl rfl ?_; intro w2 hs2 hg2 hb2))
  have HT := Lib.hid (HasTab.mk hT hg2)
  have HB := Lib.hid (hb1.trans (hb2.mono hb1.size))
  have hsz := hb1.size
  clear hT hg2 hb2 HZ0 HSZ hzv hs2
  go_loopw [7, 18] (fun v7 v18 wr => ∃ i : Nat, i ≤ n ∧ v18 = .int .i64 (i : Int) ∧ v7 = .int .u8 ((Gf.dotTo xs ys i).toNat : Int) ∧ HasTab wr w1.heap.size ∧ Below w.heap.size w wr) (fun _ v18 _ => n - (intOf v18).toNat)
  case atStart => exact ⟨0, by omega, rfl, rfl, HT.out, HB.out⟩
  case round =>
    obtain ⟨i, hi, rfl, rfl, ht, hbw⟩ := hrel
    clear HT HB
    by_cases hlt : i < n
    · obtain ⟨g, o, rfl, hg, hcell⟩ := rd_get (ha.below hbw (Nat.le_refl _)) hlt
      obtain ⟨g1, o1, rfl, hg1, hcell1⟩ := rd_get (hb.below hbw (Nat.le_refl _)) hlt
      have hx := bxor_u8 (Gf.dotTo xs ys i) (Gf.mul (xs.getD i 0) (ys.getD i 0))
      have HD := Lib.hid (show Gf.dotTo xs ys (i + 1) = Gf.add (Gf.dotTo xs ys i) (Gf.mul (xs.getD i 0) (ys.getD i 0)) from rfl)
      generalize xs.getD i 0 = x at *
      generalize ys.getD i 0 = y at *
      generalize Gf.dotTo xs ys i = s at *
      have HB := Lib.hid hbw
      have HA := Lib.hid ha
      have HBB := Lib.hid hb
      clear hbw ha hb
      go_wp2_with (go_at_call 71; refine (tmul_calls _ _ _ _ ht).mono ?_; rintro e w' ⟨rfl, nd, rfl⟩)
      go_roundw
      case rel => exact ⟨i + 1, by omega, by go_num, by rw [HD.out], ht.drewN nd, below_drewN HB.out nd⟩
      case measure => simp [intOf]; omega
    · obtain rfl : i = n := by omega
      go_wp2_with fail
      go_ret2
      exact ⟨by rw [Gf.dot, HL.out]; rfl, hbw⟩

end Go.Proofs.Ythbjcafldbocpaa
