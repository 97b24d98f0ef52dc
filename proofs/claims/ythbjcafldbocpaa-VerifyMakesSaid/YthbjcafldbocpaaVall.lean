/- The walk of looker.all. -/
import Derived.Test.YthbjcafldbocpaaVdoor
import Derived.Test.YthbjcafldbocpaaBr
namespace Go.Proofs.Ythbjcafldbocpaa
open Go.RowKit
set_option linter.unusedVariables false
set_option linter.unusedSimpArgs false
/-- a step -/
structure PS where
  k : Nat
  D : Nat
  S : Nat
  C : UInt8
def PS.Ok (s : PS) : Prop := s.k = 1 ∨ s.k = 2 ∨ s.k = 3 ∨ s.k = 4
def stepVs (s : PS) : List Value := [.int .u8 (s.k : Int), .int .i64 (s.D : Int), .int .i64 (s.S : Int), .int .u8 (s.C.toNat : Int)]
/-- the steps at the address A, in a block below B -/
def StepsAt (w : World) (B : Nat) (A : Option Addr) (l : List PS) : Prop :=
  0 < l.length → ∃ g o, A = some ⟨g, o, none⟩ ∧ g < B ∧ ∀ i s, l[i]? = some s → w.cell? ⟨g, o + i * 4, none⟩ = some (.int .u8 (s.k : Int)) ∧ w.cell? ⟨g, o + i * 4 + 1, none⟩ = some (.int .i64 (s.D : Int)) ∧ w.cell? ⟨g, o + i * 4 + 2, none⟩ = some (.int .i64 (s.S : Int)) ∧ w.cell? ⟨g, o + i * 4 + 3, none⟩ = some (.int .u8 (s.C.toNat : Int))
theorem StepsAt.below {w w' : World} {B : Nat} {A : Option Addr} {l : List PS} (h : StepsAt w B A l) (hb : Below B w w') : StepsAt w' B A l := by
  intro hn
  obtain ⟨g, o, e, hg, hc⟩ := h hn
  refine ⟨g, o, e, hg, fun i s hs => ?_⟩
  have := hc i s hs
  have hB : ∀ p : Addr, p.block = g → w'.cell? p = w.cell? p := fun p hp => World.cell?_of_block (hb.block _ (by rw [hp]; exact hg))
  exact ⟨(hB _ rfl).trans this.1, (hB _ rfl).trans this.2.1, (hB _ rfl).trans this.2.2.1, (hB _ rfl).trans this.2.2.2⟩
/-- the steps from number i on: the place where the program ends or falls, and what it has come to -/
def vRun (nr no reads n : Nat) : List PS → Nat → VS → Nat × Option VS
  | [], i, st => (i, some st)
  | s :: l, i, st => match vStep nr no reads n st s.k s.D s.S s.C with
    | some st' => vRun nr no reads n l (i + 1) st'
    | none => (i, none)
/-- a program as a whole -/
def vAll (nr no reads n : Nat) (l : List PS) : Nat × Option VS :=
  match vRun nr no reads n l 0 ⟨List.replicate nr none, List.replicate no none, 0⟩ with
  | (i, some st) => if (∀ o ∈ st.outs, o.isSome = true) ∧ st.loads = reads then (i, some st) else (i, none)
  | (i, none) => (i, none)
theorem LkW.drewN {w : World} {gk gr gs go gd nr no reads n nS cS at_ : Nat} {AS : Option Addr} {st : VS} (h : LkW w gk gr gs go gd nr no reads n AS nS cS at_ st) (k : Nat) : LkW (w.drewN k) gk gr gs go gd nr no reads n AS nS cS at_ st :=
  ⟨h.hk.drewN k, h.hs.drewN k, h.hr.drewN k, h.hd.drewN k, h.ho.drewN k, h.ok, h.hl⟩
theorem vAll_yes {nr no reads n i : Nat} {l : List PS} {st : VS} (hv : vRun nr no reads n l 0 ⟨List.replicate nr none, List.replicate no none, 0⟩ = (i, some st)) (h : (∀ o ∈ st.outs, o.isSome = true) ∧ st.loads = reads) : vAll nr no reads n l = (i, some st) := by
  unfold vAll
  rw [hv]
  exact if_pos h
theorem vAll_no {nr no reads n i : Nat} {l : List PS} {st : VS} (hv : vRun nr no reads n l 0 ⟨List.replicate nr none, List.replicate no none, 0⟩ = (i, some st)) (h : ¬ ((∀ o ∈ st.outs, o.isSome = true) ∧ st.loads = reads)) : vAll nr no reads n l = (i, none) := by
  unfold vAll
  rw [hv]
  exact if_neg h
theorem somes_not {rs : List (Option (List UInt8))} {j : Nat} (h : (somes rs)[j]? = some false) : ¬ ∀ o ∈ rs, o.isSome = true := by
  intro hall
  rw [somes, List.getElem?_map] at h
  cases ho : rs[j]? with
  | none => rw [ho] at h; cases h
  | some o =>
    have := hall o (List.mem_of_getElem? ho)
    rw [ho] at h
    simp [this] at h
theorem somes_all {rs : List (Option (List UInt8))} {no : Nat} (hl : rs.length = no) (h : ∀ q, q < no → (somes rs)[q]? = some true) : ∀ o ∈ rs, o.isSome = true := by
  intro o ho
  obtain ⟨i, hi, rfl⟩ := List.getElem_of_mem ho
  have := h i (by omega)
  rw [somes, List.getElem?_map, List.getElem?_eq_getElem hi] at this
  simpa using this
theorem LkW.far {w : World} {gk gr gs go gd nr no reads n nS cS at_ g : Nat} {AS : Option Addr} {st : VS} (h : LkW w gk gr gs go gd nr no reads n AS nS cS at_ st) (a : gk ≠ g) (b : gr ≠ g) (c : gs ≠ g) (d : go ≠ g) (e : gd ≠ g) (v : Value) : LkW (w.setCell ⟨g, 0, none⟩ v) gk gr gs go gd nr no reads n AS nS cS at_ st :=
  ⟨h.hk.far (p := ⟨g, 0, none⟩) a v, h.hs.far (p := ⟨g, 0, none⟩) c v, h.hr.far (p := ⟨g, 0, none⟩) b v, h.hd.far (p := ⟨g, 0, none⟩) e v, h.ho.far (p := ⟨g, 0, none⟩) d v, h.ok, h.hl⟩
def atC (gk : Nat) (w : World) : Nat := (intOf ((w.cell? ⟨gk, 5, none⟩).getD undef)).toNat
/-- what is left of a looker that has given up -/
def Fell (base gk gr gs go gd nr no reads n : Nat) (AS : Option Addr) (nS cS at_ : Nat) (w w' : World) : Prop :=
  Below base w w' ∧ ∃ ld, Row w' gk 82 (lkV AS nS cS nr no reads n at_ gr gs go gd ld)
theorem LkW.next {w : World} {gk gr gs go gd nr no reads n nS cS i base : Nat} {AS : Option Addr} {st : VS} (G : LkG base gk gr gs go gd nr no reads n) (h : LkW w gk gr gs go gd nr no reads n AS nS cS i st) : LkW (w.setCell ⟨gk, 5, none⟩ (.int .i64 ((i : Int) + 1))) gk gr gs go gd nr no reads n AS nS cS (i + 1) st :=
  ⟨h.hk.set 5 _, h.hs.far (p := ⟨gk, 5, none⟩) G.n1 _, h.hr.far (p := ⟨gk, 5, none⟩) G.n2 _, h.hd.far (p := ⟨gk, 5, none⟩) G.n4 _, h.ho.far (p := ⟨gk, 5, none⟩) G.n5 _, h.ok, h.hl⟩
theorem vRun_at {nr no reads n : Nat} {l : List PS} {i : Nat} {s : PS} (hs : l[i]? = some s) (st : VS) : vRun nr no reads n (l.drop i) i st = match vStep nr no reads n st s.k s.D s.S s.C with
    | some st' => vRun nr no reads n (l.drop (i + 1)) (i + 1) st'
    | none => (i, none) := by
  obtain ⟨hi, rfl⟩ := List.getElem?_eq_some_iff.1 hs
  rw [List.drop_eq_getElem_cons hi]
  rfl
theorem Fell.door {base gk gr gs go gd nr no reads n : Nat} {AS : Option Addr} {nS cS at_ ld g : Nat} {w w4 : World} (hb : Below base w w4) (hB : base ≤ w4.heap.size) (hk : Row w4 gk 82 (lkV AS nS cS nr no reads n at_ gr gs go gd ld)) (hg : gk ≠ g) (hg2 : base ≤ g) (o : Obj) (v : Value) : Fell base gk gr gs go gd nr no reads n AS nS cS at_ w ((w4.alloc o).setCell ⟨g, 0, none⟩ v) :=
  ⟨(hb.alloc hB o).setCell hg2 v, ld, (hk.alloc o).far (p := ⟨g, 0, none⟩) hg v⟩
/-- the closure that tells whether a place came out -/
theorem done_calls (gk gd no i b : Nat) (x : Bool) (w : World) (hb : w.cell? ⟨b, 0, none⟩ = some (.pointer (some ⟨gk, 0, none⟩))) (k9 : w.cell? ⟨gk, 9, none⟩ = some (.slice (some ⟨gd, 0, none⟩) no no)) (hi : i < no) (hx : w.cell? ⟨gd, i, none⟩ = some (.bool x)) :
    Calls Try.prog 65 #[.int .i64 (i : Int), .pointer (some ⟨b, 0, none⟩)] w fun e w' => e = .returned (.bool x) ∧ w' = w := by
  have i0 : (0 : Int) ≤ (i : Int) := by omega
  have i1 : (i : Int) < (no : Int) := by omega
  go_enter Try.func65, Try.ntmps65
  go_wp2_with fail
  go_ret
  exact ⟨rfl, rfl⟩
set_option maxHeartbeats 4000000 in
set_option maxRecDepth 100000 in
theorem all_calls {base gk gr gs go gd nr no reads n cS : Nat} {AS : Option Addr} {w : World} {l : List PS} (G : LkG base gk gr gs go gd nr no reads n)
    (h : LkW w gk gr gs go gd nr no reads n AS l.length cS 0 ⟨List.replicate nr none, List.replicate no none, 0⟩) (hl : StepsAt w base AS l) (hok : ∀ s ∈ l, s.Ok) (hlen : l.length ≤ 65536) (hno : no ≤ 64) :
    Calls Try.prog 49 #[.pointer (some ⟨gk, 0, none⟩)] w fun e w' =>
      (∀ st, (vAll nr no reads n l).2 = some st → e = .returned (.bool true) ∧ Below base w w' ∧ LkW w' gk gr gs go gd nr no reads n AS l.length cS (vAll nr no reads n l).1 st) ∧
      ((vAll nr no reads n l).2 = none → e = .returned (.bool false) ∧ Fell base gk gr gs go gd nr no reads n AS l.length cS (vAll nr no reads n l).1 w w') := by
  have hmf : ∀ (fn : Fn) (first cap : Array Value) (w : World), (Instr.makeFunc fn first cap).run Try.prog w = .ok (.func fn first cap) w := fun _ _ _ _ => rfl
  have ltk := h.hk.lt
  have lts := h.hs.lt
  have ltr := h.hr.lt
  have ltd := h.hd.lt
  have lto := h.ho.lt
  have hB : base ≤ w.heap.size := Nat.le_trans G.bk (Nat.le_of_lt ltk)
  go_enter_defers Try.func49, Try.ntmps49
  go_wp2_with fail
  obtain ⟨w1, hw1⟩ : ∃ w1, w1 = (w.alloc (Obj.cells #[Value.pointer (some ⟨gk, 0, none⟩)] 76)).alloc (Obj.cells #[Value.bool false] 4) := ⟨_, rfl⟩
  have q : Below w.heap.size w w1 := by rw [hw1]; exact ((Below.refl _ _).alloc (Nat.le_refl _) _).alloc (by simp) _
  have hbx : Row w1 w.heap.size 76 [.pointer (some ⟨gk, 0, none⟩)] := by rw [hw1]; exact (Row.new w _ _).alloc _
  have hob : Row w1 (w.heap.size + 1) 4 [.bool false] := by rw [hw1]; have := Row.new (w.alloc (Obj.cells #[Value.pointer (some ⟨gk, 0, none⟩)] 76)) [.bool false] 4; simpa using this
  have h1 : LkW w1 gk gr gs go gd nr no reads n AS l.length cS 0 ⟨List.replicate nr none, List.replicate no none, 0⟩ := ⟨h.hk.below q ltk, h.hs.below q lts, h.hr.below q ltr, h.hd.below q ltd, h.ho.below q lto, h.ok, h.hl⟩
  rw [← hw1]
  clear hw1
  have HQ := Lib.hid (q.mono hB)
  have HBX := Lib.hid hbx
  have HOB := Lib.hid hob
  have H1 := Lib.hid h1
  have HL := Lib.hid hl
  have HOK := Lib.hid hok
  clear q hbx hob h1 h hl hok
  go_loopw [6] (fun _ wr => ∃ i st, i ≤ l.length ∧ vRun nr no reads n l 0 ⟨List.replicate nr none, List.replicate no none, 0⟩ = vRun nr no reads n (l.drop i) i st ∧ LkW wr gk gr gs go gd nr no reads n AS l.length cS i st ∧ Row wr w.heap.size 76 [.pointer (some ⟨gk, 0, none⟩)] ∧ Row wr (w.heap.size + 1) 4 [.bool false] ∧ Below base w wr) (fun _ wr => l.length - atC gk wr)
  case atStart => exact ⟨0, _, by omega, rfl, H1.out, HBX.out, HOB.out, HQ.out⟩
  case round =>
    obtain ⟨i, st, hi, hv, hW, hbx, hob, hb⟩ := hrel
    clear HQ HBX HOB H1
    have b1 : wr.cell? ⟨w.heap.size, 0, none⟩ = some (.pointer (some ⟨gk, 0, none⟩)) := hbx.cell 0
    have k0 : wr.cell? ⟨gk, 0, none⟩ = some (.slice AS l.length cS) := hW.hk.cell 0
    have k5 : wr.cell? ⟨gk, 5, none⟩ = some (.int .i64 (i : Int)) := hW.hk.cell 5
    have HW := Lib.hid hW
    have HBX := Lib.hid hbx
    have HOB := Lib.hid hob
    have HB := Lib.hid hb
    clear hW hbx hob hb
    go_wp2_with fail
    go_region_held3 (fun x => x.cell? ⟨w.heap.size, 0, none⟩ = some (.pointer (some ⟨gk, 0, none⟩)) ∧ x.cell? ⟨gk, 0, none⟩ = some (.slice AS l.length cS) ∧ x.cell? ⟨gk, 5, none⟩ = some (.int .i64 (i : Int))) (go_keep) (fail)
    by_cases hlt : i < l.length
    · have hd1 : decide (i < l.length) = true := decide_eq_true hlt
      have hd2 : decide ((i : Int) < (l.length : Int)) = true := decide_eq_true (by omega)
      obtain ⟨g, o, rfl, hg, hc⟩ := (HL.out.below HB.out) (by omega)
      obtain ⟨s, hs⟩ : ∃ s, l[i]? = some s := ⟨l[i], List.getElem?_eq_getElem hlt⟩
      obtain ⟨s0, s1, s2, s3⟩ := hc i s hs
      have i0 : (0 : Int) ≤ (i : Int) := by omega
      have i1 : (i : Int) < (l.length : Int) := by omega
      have HST := Lib.hid (step_calls G (show LkW wr.drew.drew gk gr gs go gd nr no reads n (some ⟨g, o, none⟩) l.length cS i st from HW.out.drewN 2) s.k s.D s.S s.C (HOK.out s (List.mem_of_getElem? hs)))
      have HS := Lib.hid hs
      clear hc hs
      go_wp2_with fail
      refine wp_panQ ⟨w.heap.size + 1, 0, none⟩ [{ target := .fn (Fn.func 63) #[.pointer (some ⟨w.heap.size + 1, 0, none⟩)], args := #[] }] (fun w' => vStep nr no reads n st s.k s.D s.S s.C = none ∧ Row w' gk 82 (lkV (some ⟨g, o, none⟩) l.length cS nr no reads n i gr gs go gd st.loads) ∧ Row w' (w.heap.size + 1) 4 [.bool false] ∧ Below base w w') ?_ ?_
      · refine wp_region_held_drew (S := (fun x => x.cell? ⟨w.heap.size, 0, none⟩ = some (.pointer (some ⟨gk, 0, none⟩)) ∧ x.cell? ⟨gk, 0, none⟩ = some (.slice (some ⟨g, o, none⟩) l.length cS) ∧ x.cell? ⟨gk, 5, none⟩ = some (.int .i64 (i : Int)) ∧ x.cell? ⟨g, o + i * 4, none⟩ = some (.int .u8 (s.k : Int)) ∧ x.cell? ⟨g, o + i * 4 + 1, none⟩ = some (.int .i64 (s.D : Int)) ∧ x.cell? ⟨g, o + i * 4 + 2, none⟩ = some (.int .i64 (s.S : Int)) ∧ x.cell? ⟨g, o + i * 4 + 3, none⟩ = some (.int .u8 (s.C.toNat : Int)))) (by kernel_rfl) ⟨b1, k0, k5, s0, s1, s2, s3⟩ (fun hHeld => ?_)
        refine wpAnyH_take (i := 0) (v := ?_) rfl (by kernel_rfl) (by kernel_rfl) (by kernel_rfl) (fun c a w h => PanQ.put (by decide) c a w h) (Or.inl ⟨by kernel_rfl, ?_⟩) (by assumption) ?_
        rotate_left
        · (intro w hSw; (try dsimp only at hSw); go_simp; (try with_reducible rfl))
        try simp only [List.getElem_toArray, List.getElem_cons_succ, List.getElem_cons_zero, Act.put, List.setIfInBounds_toArray, List.set_cons_zero, List.set_cons_succ]
        refine wpAnyH_take (i := 1) (v := ?_) rfl (by kernel_rfl) (by kernel_rfl) (by kernel_rfl) (fun c a w h => PanQ.put (by decide) c a w h) (Or.inl ⟨by kernel_rfl, ?_⟩) (by assumption) ?_
        rotate_left
        · (intro w hSw; (try dsimp only at hSw); go_simp; (try with_reducible rfl))
        try simp only [List.getElem_toArray, List.getElem_cons_succ, List.getElem_cons_zero, Act.put, List.setIfInBounds_toArray, List.set_cons_zero, List.set_cons_succ]
        refine wpAnyH_take (i := 2) (v := ?_) rfl (by kernel_rfl) (by kernel_rfl) (by kernel_rfl) (fun c a w h => PanQ.put (by decide) c a w h) (Or.inl ⟨by kernel_rfl, ?_⟩) (by assumption) ?_
        rotate_left
        · (intro w hSw; (try dsimp only at hSw); go_simp; (try with_reducible rfl))
        try simp only [List.getElem_toArray, List.getElem_cons_succ, List.getElem_cons_zero, Act.put, List.setIfInBounds_toArray, List.set_cons_zero, List.set_cons_succ]
        refine wpAnyH_take (i := 3) (v := ?_) rfl (by kernel_rfl) (by kernel_rfl) (by kernel_rfl) (fun c a w h => PanQ.put (by decide) c a w h) (Or.inl ⟨by kernel_rfl, ?_⟩) (by assumption) ?_
        rotate_left
        · (intro w hSw; (try dsimp only at hSw); go_simp; (try with_reducible rfl))
        try simp only [List.getElem_toArray, List.getElem_cons_succ, List.getElem_cons_zero, Act.put, List.setIfInBounds_toArray, List.set_cons_zero, List.set_cons_succ]
        refine wpAnyH_take (i := 4) (v := ?_) rfl (by kernel_rfl) (by kernel_rfl) (by kernel_rfl) (fun c a w h => PanQ.put (by decide) c a w h) (Or.inl ⟨by kernel_rfl, ?_⟩) (by assumption) ?_
        rotate_left
        · (intro w hSw; (try dsimp only at hSw); go_simp; (try with_reducible rfl))
        try simp only [List.getElem_toArray, List.getElem_cons_succ, List.getElem_cons_zero, Act.put, List.setIfInBounds_toArray, List.set_cons_zero, List.set_cons_succ]
        refine wpAnyH_take (i := 5) (v := ?_) rfl (by kernel_rfl) (by kernel_rfl) (by kernel_rfl) (fun c a w h => PanQ.put (by decide) c a w h) (Or.inl ⟨by kernel_rfl, ?_⟩) (by assumption) ?_
        rotate_left
        · (intro w hSw; (try dsimp only at hSw); go_simp; (try with_reducible rfl))
        try simp only [List.getElem_toArray, List.getElem_cons_succ, List.getElem_cons_zero, Act.put, List.setIfInBounds_toArray, List.set_cons_zero, List.set_cons_succ]
        refine wpAnyH_take (i := 6) (v := ?_) rfl (by kernel_rfl) (by kernel_rfl) (by kernel_rfl) (fun c a w h => PanQ.put (by decide) c a w h) (Or.inl ⟨by kernel_rfl, ?_⟩) (by assumption) ?_
        rotate_left
        · (intro w hSw; (try dsimp only at hSw); go_simp; (try with_reducible rfl))
        try simp only [List.getElem_toArray, List.getElem_cons_succ, List.getElem_cons_zero, Act.put, List.setIfInBounds_toArray, List.set_cons_zero, List.set_cons_succ]
        refine wpAnyH_take (i := 7) (v := ?_) rfl (by kernel_rfl) (by kernel_rfl) (by kernel_rfl) (fun c a w h => PanQ.put (by decide) c a w h) (Or.inl ⟨by kernel_rfl, ?_⟩) (by assumption) ?_
        rotate_left
        · (intro w hSw; (try dsimp only at hSw); go_simp; (try with_reducible rfl))
        try simp only [List.getElem_toArray, List.getElem_cons_succ, List.getElem_cons_zero, Act.put, List.setIfInBounds_toArray, List.set_cons_zero, List.set_cons_succ]
        refine wpAnyH_take (i := 8) (v := ?_) rfl (by kernel_rfl) (by kernel_rfl) (by kernel_rfl) (fun c a w h => PanQ.put (by decide) c a w h) (Or.inl ⟨by kernel_rfl, ?_⟩) (by assumption) ?_
        rotate_left
        · (intro w hSw; (try dsimp only at hSw); go_simp; (try with_reducible rfl))
        try simp only [List.getElem_toArray, List.getElem_cons_succ, List.getElem_cons_zero, Act.put, List.setIfInBounds_toArray, List.set_cons_zero, List.set_cons_succ]
        refine wpAnyH_take (i := 9) (v := ?_) rfl (by kernel_rfl) (by kernel_rfl) (by kernel_rfl) (fun c a w h => PanQ.put (by decide) c a w h) (Or.inl ⟨by kernel_rfl, ?_⟩) (by assumption) ?_
        rotate_left
        · (intro w hSw; (try dsimp only at hSw); go_simp; (try with_reducible rfl))
        try simp only [List.getElem_toArray, List.getElem_cons_succ, List.getElem_cons_zero, Act.put, List.setIfInBounds_toArray, List.set_cons_zero, List.set_cons_succ]
        refine wpAnyH_take (i := 10) (v := ?_) rfl (by kernel_rfl) (by kernel_rfl) (by kernel_rfl) (fun c a w h => PanQ.put (by decide) c a w h) (Or.inl ⟨by kernel_rfl, ?_⟩) (by assumption) ?_
        rotate_left
        · (intro w hSw; (try dsimp only at hSw); go_simp; (try with_reducible rfl))
        try simp only [List.getElem_toArray, List.getElem_cons_succ, List.getElem_cons_zero, Act.put, List.setIfInBounds_toArray, List.set_cons_zero, List.set_cons_succ]
        refine wpAnyH_take (i := 11) (v := ?_) rfl (by kernel_rfl) (by kernel_rfl) (by kernel_rfl) (fun c a w h => PanQ.put (by decide) c a w h) (Or.inl ⟨by kernel_rfl, ?_⟩) (by assumption) ?_
        rotate_left
        · (intro w hSw; (try dsimp only at hSw); go_simp; (try with_reducible rfl))
        try simp only [List.getElem_toArray, List.getElem_cons_succ, List.getElem_cons_zero, Act.put, List.setIfInBounds_toArray, List.set_cons_zero, List.set_cons_succ]
        refine wpAnyH_ready (rs := [12]) (by kernel_rfl) (by simp) ?_
        refine AllReadyH.cons rfl (fun K hK => ?_) AllReadyH.nil
        go_simp
        refine HST.out.mono ?_
        rintro e w4 ⟨hfr, hok4, hno4⟩
        have ltw : wr.drew.drew.heap.size = wr.heap.size := rfl
        have lt1 : w.heap.size + 1 < wr.heap.size := HOB.out.lt
        have hbx4 : Row w4 w.heap.size 76 [.pointer (some ⟨gk, 0, none⟩)] := hfr.row (w := wr.drew.drew) (HBX.out.drewN 2) (by omega) (by omega) (by omega) (by omega) (by omega)
        have hob4 : Row w4 (w.heap.size + 1) 4 [.bool false] := hfr.row (w := wr.drew.drew) (HOB.out.drewN 2) (by omega) (by omega) (by omega) (by omega) (by omega)
        have hb4 : Below base w w4 := (below_drewN HB.out 2).trans hfr.low
        cases hvs : vStep nr no reads n st s.k s.D s.S s.C with
        | none =>
          obtain ⟨rfl, hk4⟩ := hno4 hvs
          exact ⟨rfl, rfl, rfl, rfl, hk4, hob4, hb4⟩
        | some st' =>
          obtain ⟨rfl, hW4⟩ := hok4 st' hvs
          have hcell : ∀ p : Addr, p.block = g → w4.cell? p = wr.cell? p := fun p hp => World.cell?_of_block (hfr.low.block _ (by rw [hp]; exact hg))
          go_wp2_with fail
          refine hK.out _ _ ⟨hbx4.cell 0, hW4.hk.cell 0, hW4.hk.cell 5, (hcell _ rfl).trans s0, (hcell _ rfl).trans s1, (hcell _ rfl).trans s2, (hcell _ rfl).trans s3⟩ (fun hHeld => ?_)
          clear hK K
          try simp only [List.getElem_toArray, List.getElem_cons_succ, List.getElem_cons_zero, Act.put, List.setIfInBounds_toArray, List.set_cons_zero, List.set_cons_succ]
          refine wpAnyH_done (by kernel_rfl) ?_ _
          simp only [PanQ]
          clear hno4 hok4 HST hHeld s0 s1 s2 s3 b1 k0 k5 hfr
          have HVS := Lib.hid hvs
          have HW4 := Lib.hid hW4
          have HB4 := Lib.hid hb4
          have HBX4 := Lib.hid hbx4
          have HOB4 := Lib.hid hob4
          have b1 : w4.cell? ⟨w.heap.size, 0, none⟩ = some (.pointer (some ⟨gk, 0, none⟩)) := hbx4.cell 0
          have k5 : w4.cell? ⟨gk, 5, none⟩ = some (.int .i64 (i : Int)) := hW4.hk.cell 5
          have f5 : w4.frozen? ⟨gk, 5, none⟩ = false := hW4.hk.frozen 5
          clear hvs hW4 hb4 hbx4 hob4
          go_wp2_with fail
          refine ⟨⟨i + 1, st', by omega, ?_, HW4.out.next G, HBX4.out.far (p := ⟨gk, 5, none⟩) (by simp; omega) _, HOB4.out.far (p := ⟨gk, 5, none⟩) (by simp; omega) _, HB4.out.setCell (by exact G.bk) _⟩, ?_⟩
          · rw [hv, vRun_at HS.out, HVS.out]
          · have e1 : atC gk wr = i := by unfold atC; rw [HW.out.hk.cell 5]; simp [lkV, intOf]
            have e2 : atC gk (w4.setCell ⟨gk, 5, none⟩ (.int .i64 ((i : Int) + 1))) = i + 1 := by unfold atC; rw [(HW4.out.next G).hk.cell 5]; simp [lkV, intOf]
            rw [e1, e2]
            omega
      · intro a w4 ha hd h4
        have hall : vAll nr no reads n l = (i, none) := by
          unfold vAll
          rw [hv, vRun_at HS.out, h4.1]
        have lt1 : w.heap.size + 1 < wr.heap.size := HOB.out.lt
        refine door_panic ha hd h4.2.2.1 ?_
        rw [hall]
        exact ⟨fun st hst => (by cases hst), fun _ => ⟨rfl, Fell.door h4.2.2.2 (by have := h4.2.2.1.lt; omega) h4.2.1 (by omega) (by omega) _ _⟩⟩
    · have hd1 : decide (i < l.length) = false := decide_eq_false hlt
      have hd2 : decide ((i : Int) < (l.length : Int)) = false := decide_eq_false (by omega)
      obtain rfl : i = l.length := by omega
      rw [List.drop_length] at hv
      clear k0 k5
      have k9 : wr.drew.cell? ⟨gk, 9, none⟩ = some (.slice (some ⟨gd, 0, none⟩) no no) := HW.out.hk.cell 9
      have b2 : wr.drew.cell? ⟨w.heap.size, 0, none⟩ = some (.pointer (some ⟨gk, 0, none⟩)) := b1
      have HV := Lib.hid hv
      clear hv
      go_wp2_with fail
      have HW1 := Lib.hid (show LkW wr.drew gk gr gs go gd nr no reads n AS l.length cS l.length st from HW.out.drewN 1)
      have HBX1 := Lib.hid (show Row wr.drew w.heap.size 76 [.pointer (some ⟨gk, 0, none⟩)] from HBX.out.drewN 1)
      have HOB1 := Lib.hid (show Row wr.drew (w.heap.size + 1) 4 [.bool false] from HOB.out.drewN 1)
      have HB1 := Lib.hid (show Below base w wr.drew from below_drewN HB.out 1)
      clear HW HBX HOB HB b1 k9 b2
      rw [hd1]
      go_loopw [43] (fun v43 w2 => ∃ j : Nat, j ≤ no ∧ v43 = .int .i64 (j : Int) ∧ (∀ q, q < j → (somes st.outs)[q]? = some true) ∧ LkW w2 gk gr gs go gd nr no reads n AS l.length cS l.length st ∧ Row w2 w.heap.size 76 [.pointer (some ⟨gk, 0, none⟩)] ∧ Row w2 (w.heap.size + 1) 4 [.bool false] ∧ Below base w w2) (fun v43 _ => no - (intOf v43).toNat)
      case atStart => exact ⟨0, by omega, rfl, fun q hq => absurd hq (by omega), HW1.out, HBX1.out, HOB1.out, HB1.out⟩
      case round =>
        obtain ⟨j, hj, rfl, hall, hW, hbx, hob, hb⟩ := hrel
        clear HW1 HBX1 HOB1 HB1
        have b1 : wr.cell? ⟨w.heap.size, 0, none⟩ = some (.pointer (some ⟨gk, 0, none⟩)) := hbx.cell 0
        have k9 : wr.cell? ⟨gk, 9, none⟩ = some (.slice (some ⟨gd, 0, none⟩) no no) := hW.hk.cell 9
        have lso : (somes st.outs).length = no := by rw [somes, List.length_map, hW.ok.lo]
        have lt1 : w.heap.size + 1 < wr.heap.size := hob.lt
        have HW := Lib.hid hW
        have HBX := Lib.hid hbx
        have HOB := Lib.hid hob
        have HB := Lib.hid hb
        have HALL := Lib.hid hall
        by_cases hlt : j < no
        · have hx : ∃ x, (somes st.outs)[j]? = some x := ⟨_, List.getElem?_eq_getElem (by omega)⟩
          obtain ⟨x, hx⟩ := hx
          have cd : wr.cell? ⟨gd, j, none⟩ = some (.bool x) := by rw [hW.hd.cell, bolVs, List.getElem?_map, hx]; rfl
          have HX := Lib.hid hx
          clear hW hbx hob hb hall hx
          cases x with
          | true =>
            go_wp2_with (first | (refine (done_calls gk gd no j _ true _ b1 k9 hlt cd).mono ?_; rintro e w' ⟨rfl, rfl⟩) | (refine (need_yes _).mono ?_; rintro e w' ⟨rfl, rfl⟩))
            go_roundw
            case rel =>
              refine ⟨j + 1, by omega, by go_num, fun q hq => ?_, HW.out, HBX.out, HOB.out, HB.out⟩
              rcases Nat.lt_or_ge q j with h | h
              · exact HALL.out q h
              · obtain rfl : q = j := by omega
                exact HX.out
            case measure => simp [intOf]; omega
          | false =>
            go_wp2_with (first | (refine (done_calls gk gd no j _ false _ b1 k9 hlt cd).mono ?_; rintro e w' ⟨rfl, rfl⟩) | (refine (need_no _).mono ?_; rintro e w' ⟨rfl, rfl⟩))
            have hv2 : vAll nr no reads n l = (l.length, none) := vAll_no HV.out (fun h => somes_not HX.out h.1)
            refine door_panic rfl rfl HOB.out ?_
            rw [hv2]
            exact ⟨fun st hst => (by cases hst), fun _ => ⟨rfl, Fell.door HB.out (by omega) HW.out.hk (by omega) (by omega) _ _⟩⟩
        · obtain rfl : j = no := by omega
          have k10 : wr.cell? ⟨gk, 10, none⟩ = some (.int .u64 (st.loads : Int)) := hW.hk.cell 10
          have k3 : wr.cell? ⟨gk, 3, none⟩ = some (.int .u64 (reads : Int)) := hW.hk.cell 3
          have hso : ∀ o ∈ st.outs, o.isSome = true := somes_all hW.ok.lo hall
          have fo : wr.drew.frozen? ⟨w.heap.size + 1, 0, none⟩ = false := hob.frozen 0
          have co : wr.drew.cell? ⟨w.heap.size + 1, 0, none⟩ = some (.bool false) := hob.cell 0
          clear hW hbx hob hb hall
          go_wp2_with fail
          refine wp_panQ ⟨w.heap.size + 1, 0, none⟩ [{ target := .fn (Fn.func 63) #[.pointer (some ⟨w.heap.size + 1, 0, none⟩)], args := #[] }] (fun w' => st.loads ≠ reads ∧ Row w' gk 82 (lkV AS l.length cS nr j reads n l.length gr gs go gd st.loads) ∧ Row w' (w.heap.size + 1) 4 [.bool false] ∧ Below base w w') ?_ ?_
          · by_cases hrd : st.loads = reads
            · have r1 : ((st.loads : Int) == (reads : Int)) = true := by simp [hrd]
              have r2 : decide (st.loads = reads) = true := decide_eq_true hrd
              refine wp_region_held_drew (S := (fun x => x.cell? ⟨w.heap.size, 0, none⟩ = some (.pointer (some ⟨gk, 0, none⟩)) ∧ x.cell? ⟨gk, 10, none⟩ = some (.int .u64 (st.loads : Int)) ∧ x.cell? ⟨gk, 3, none⟩ = some (.int .u64 (reads : Int)))) (by kernel_rfl) ⟨b1, k10, k3⟩ (fun hHeld => ?_)
              refine wpAnyH_take (i := 0) (v := ?_) rfl (by kernel_rfl) (by kernel_rfl) (by kernel_rfl) (fun c a w h => PanQ.put (by decide) c a w h) (Or.inl ⟨by kernel_rfl, ?_⟩) (by assumption) ?_
              rotate_left
              · (intro w hSw; (try dsimp only at hSw); go_simp; (try with_reducible rfl))
              try simp only [List.getElem_toArray, List.getElem_cons_succ, List.getElem_cons_zero, Act.put, List.setIfInBounds_toArray, List.set_cons_zero, List.set_cons_succ]
              refine wpAnyH_take (i := 1) (v := ?_) rfl (by kernel_rfl) (by kernel_rfl) (by kernel_rfl) (fun c a w h => PanQ.put (by decide) c a w h) (Or.inl ⟨by kernel_rfl, ?_⟩) (by assumption) ?_
              rotate_left
              · (intro w hSw; (try dsimp only at hSw); go_simp; (try with_reducible rfl))
              try simp only [List.getElem_toArray, List.getElem_cons_succ, List.getElem_cons_zero, Act.put, List.setIfInBounds_toArray, List.set_cons_zero, List.set_cons_succ]
              refine wpAnyH_take (i := 2) (v := ?_) rfl (by kernel_rfl) (by kernel_rfl) (by kernel_rfl) (fun c a w h => PanQ.put (by decide) c a w h) (Or.inl ⟨by kernel_rfl, ?_⟩) (by assumption) ?_
              rotate_left
              · (intro w hSw; (try dsimp only at hSw); go_simp; (try with_reducible rfl))
              try simp only [List.getElem_toArray, List.getElem_cons_succ, List.getElem_cons_zero, Act.put, List.setIfInBounds_toArray, List.set_cons_zero, List.set_cons_succ]
              refine wpAnyH_take (i := 3) (v := ?_) rfl (by kernel_rfl) (by kernel_rfl) (by kernel_rfl) (fun c a w h => PanQ.put (by decide) c a w h) (Or.inl ⟨by kernel_rfl, ?_⟩) (by assumption) ?_
              rotate_left
              · (intro w hSw; (try dsimp only at hSw); go_simp; (try with_reducible rfl))
              try simp only [List.getElem_toArray, List.getElem_cons_succ, List.getElem_cons_zero, Act.put, List.setIfInBounds_toArray, List.set_cons_zero, List.set_cons_succ]
              refine wpAnyH_take (i := 4) (v := ?_) rfl (by kernel_rfl) (by kernel_rfl) (by kernel_rfl) (fun c a w h => PanQ.put (by decide) c a w h) (Or.inl ⟨by kernel_rfl, ?_⟩) (by assumption) ?_
              rotate_left
              · (intro w hSw; (try dsimp only at hSw); go_simp; (try with_reducible rfl))
              try simp only [List.getElem_toArray, List.getElem_cons_succ, List.getElem_cons_zero, Act.put, List.setIfInBounds_toArray, List.set_cons_zero, List.set_cons_succ]
              refine wpAnyH_take (i := 5) (v := ?_) rfl (by kernel_rfl) (by kernel_rfl) (by kernel_rfl) (fun c a w h => PanQ.put (by decide) c a w h) (Or.inl ⟨by kernel_rfl, ?_⟩) (by assumption) ?_
              rotate_left
              · (intro w hSw; (try dsimp only at hSw); go_simp; (try with_reducible rfl))
              try simp only [List.getElem_toArray, List.getElem_cons_succ, List.getElem_cons_zero, Act.put, List.setIfInBounds_toArray, List.set_cons_zero, List.set_cons_succ]
              refine wpAnyH_take (i := 6) (v := ?_) rfl (by kernel_rfl) (by kernel_rfl) (by kernel_rfl) (fun c a w h => PanQ.put (by decide) c a w h) (Or.inl ⟨by kernel_rfl, ?_⟩) (by assumption) ?_
              rotate_left
              · (intro w hSw; (try dsimp only at hSw); go_simp; (try with_reducible rfl))
              try simp only [List.getElem_toArray, List.getElem_cons_succ, List.getElem_cons_zero, Act.put, List.setIfInBounds_toArray, List.set_cons_zero, List.set_cons_succ]
              refine wpAnyH_take (i := 7) (v := ?_) rfl (by kernel_rfl) (by kernel_rfl) (by kernel_rfl) (fun c a w h => PanQ.put (by decide) c a w h) (Or.inl ⟨by kernel_rfl, ?_⟩) (by assumption) ?_
              rotate_left
              · (intro w hSw; (try dsimp only at hSw); go_simp; (try with_reducible rfl))
              try simp only [List.getElem_toArray, List.getElem_cons_succ, List.getElem_cons_zero, Act.put, List.setIfInBounds_toArray, List.set_cons_zero, List.set_cons_succ]
              refine wpAnyH_take (i := 8) (v := ?_) rfl (by kernel_rfl) (by kernel_rfl) (by kernel_rfl) (fun c a w h => PanQ.put (by decide) c a w h) (Or.inl ⟨by kernel_rfl, ?_⟩) (by assumption) ?_
              rotate_left
              · (intro w hSw; (try dsimp only at hSw); go_simp; (try with_reducible rfl))
              try simp only [List.getElem_toArray, List.getElem_cons_succ, List.getElem_cons_zero, Act.put, List.setIfInBounds_toArray, List.set_cons_zero, List.set_cons_succ]
              refine wpAnyH_take (i := 9) (v := ?_) rfl (by kernel_rfl) (by kernel_rfl) (by kernel_rfl) (fun c a w h => PanQ.put (by decide) c a w h) (Or.inl ⟨by kernel_rfl, ?_⟩) (by assumption) ?_
              rotate_left
              · (intro w hSw; (try dsimp only at hSw); go_simp; (try with_reducible rfl))
              try simp only [List.getElem_toArray, List.getElem_cons_succ, List.getElem_cons_zero, Act.put, List.setIfInBounds_toArray, List.set_cons_zero, List.set_cons_succ]
              refine wpAnyH_ready (rs := [10]) (by kernel_rfl) (by simp) ?_
              refine AllReadyH.cons rfl (fun K hK => ?_) AllReadyH.nil
              go_simp
              refine (need_yes _).mono ?_
              rintro e w' ⟨rfl, hw'⟩
              rw [hw']
              clear hw' w'
              refine hK.out _ _ hHeld (fun hHeld => ?_)
              clear hK K
              try simp only [List.getElem_toArray, List.getElem_cons_succ, List.getElem_cons_zero, Act.put, List.setIfInBounds_toArray, List.set_cons_zero, List.set_cons_succ]
              refine wpAnyH_done (by kernel_rfl) ?_ _
              simp only [PanQ]
              go_wp2_with fail
              have hv2 : vAll nr j reads n l = (l.length, some st) := vAll_yes HV.out ⟨hso, hrd⟩
              refine door_ret rfl rfl ((HOB.out.set 0 (.bool true)).drewN 1) ?_
              rw [hv2]
              refine ⟨fun st2 hst => ?_, fun h => (by cases h)⟩
              injection hst with hst
              subst hst
              exact ⟨rfl, below_drewN (HB.out.setCell (by simp; omega) _) 1, (HW.out.far (by omega) (by omega) (by omega) (by omega) (by omega) _).drewN 1⟩
            · have r1 : ((st.loads : Int) == (reads : Int)) = false := by simp; omega
              have r2 : decide (st.loads = reads) = false := decide_eq_false hrd
              refine wp_region_held_drew (S := (fun x => x.cell? ⟨w.heap.size, 0, none⟩ = some (.pointer (some ⟨gk, 0, none⟩)) ∧ x.cell? ⟨gk, 10, none⟩ = some (.int .u64 (st.loads : Int)) ∧ x.cell? ⟨gk, 3, none⟩ = some (.int .u64 (reads : Int)))) (by kernel_rfl) ⟨b1, k10, k3⟩ (fun hHeld => ?_)
              refine wpAnyH_take (i := 0) (v := ?_) rfl (by kernel_rfl) (by kernel_rfl) (by kernel_rfl) (fun c a w h => PanQ.put (by decide) c a w h) (Or.inl ⟨by kernel_rfl, ?_⟩) (by assumption) ?_
              rotate_left
              · (intro w hSw; (try dsimp only at hSw); go_simp; (try with_reducible rfl))
              try simp only [List.getElem_toArray, List.getElem_cons_succ, List.getElem_cons_zero, Act.put, List.setIfInBounds_toArray, List.set_cons_zero, List.set_cons_succ]
              refine wpAnyH_take (i := 1) (v := ?_) rfl (by kernel_rfl) (by kernel_rfl) (by kernel_rfl) (fun c a w h => PanQ.put (by decide) c a w h) (Or.inl ⟨by kernel_rfl, ?_⟩) (by assumption) ?_
              rotate_left
              · (intro w hSw; (try dsimp only at hSw); go_simp; (try with_reducible rfl))
              try simp only [List.getElem_toArray, List.getElem_cons_succ, List.getElem_cons_zero, Act.put, List.setIfInBounds_toArray, List.set_cons_zero, List.set_cons_succ]
              refine wpAnyH_take (i := 2) (v := ?_) rfl (by kernel_rfl) (by kernel_rfl) (by kernel_rfl) (fun c a w h => PanQ.put (by decide) c a w h) (Or.inl ⟨by kernel_rfl, ?_⟩) (by assumption) ?_
              rotate_left
              · (intro w hSw; (try dsimp only at hSw); go_simp; (try with_reducible rfl))
              try simp only [List.getElem_toArray, List.getElem_cons_succ, List.getElem_cons_zero, Act.put, List.setIfInBounds_toArray, List.set_cons_zero, List.set_cons_succ]
              refine wpAnyH_take (i := 3) (v := ?_) rfl (by kernel_rfl) (by kernel_rfl) (by kernel_rfl) (fun c a w h => PanQ.put (by decide) c a w h) (Or.inl ⟨by kernel_rfl, ?_⟩) (by assumption) ?_
              rotate_left
              · (intro w hSw; (try dsimp only at hSw); go_simp; (try with_reducible rfl))
              try simp only [List.getElem_toArray, List.getElem_cons_succ, List.getElem_cons_zero, Act.put, List.setIfInBounds_toArray, List.set_cons_zero, List.set_cons_succ]
              refine wpAnyH_take (i := 4) (v := ?_) rfl (by kernel_rfl) (by kernel_rfl) (by kernel_rfl) (fun c a w h => PanQ.put (by decide) c a w h) (Or.inl ⟨by kernel_rfl, ?_⟩) (by assumption) ?_
              rotate_left
              · (intro w hSw; (try dsimp only at hSw); go_simp; (try with_reducible rfl))
              try simp only [List.getElem_toArray, List.getElem_cons_succ, List.getElem_cons_zero, Act.put, List.setIfInBounds_toArray, List.set_cons_zero, List.set_cons_succ]
              refine wpAnyH_take (i := 5) (v := ?_) rfl (by kernel_rfl) (by kernel_rfl) (by kernel_rfl) (fun c a w h => PanQ.put (by decide) c a w h) (Or.inl ⟨by kernel_rfl, ?_⟩) (by assumption) ?_
              rotate_left
              · (intro w hSw; (try dsimp only at hSw); go_simp; (try with_reducible rfl))
              try simp only [List.getElem_toArray, List.getElem_cons_succ, List.getElem_cons_zero, Act.put, List.setIfInBounds_toArray, List.set_cons_zero, List.set_cons_succ]
              refine wpAnyH_take (i := 6) (v := ?_) rfl (by kernel_rfl) (by kernel_rfl) (by kernel_rfl) (fun c a w h => PanQ.put (by decide) c a w h) (Or.inl ⟨by kernel_rfl, ?_⟩) (by assumption) ?_
              rotate_left
              · (intro w hSw; (try dsimp only at hSw); go_simp; (try with_reducible rfl))
              try simp only [List.getElem_toArray, List.getElem_cons_succ, List.getElem_cons_zero, Act.put, List.setIfInBounds_toArray, List.set_cons_zero, List.set_cons_succ]
              refine wpAnyH_take (i := 7) (v := ?_) rfl (by kernel_rfl) (by kernel_rfl) (by kernel_rfl) (fun c a w h => PanQ.put (by decide) c a w h) (Or.inl ⟨by kernel_rfl, ?_⟩) (by assumption) ?_
              rotate_left
              · (intro w hSw; (try dsimp only at hSw); go_simp; (try with_reducible rfl))
              try simp only [List.getElem_toArray, List.getElem_cons_succ, List.getElem_cons_zero, Act.put, List.setIfInBounds_toArray, List.set_cons_zero, List.set_cons_succ]
              refine wpAnyH_take (i := 8) (v := ?_) rfl (by kernel_rfl) (by kernel_rfl) (by kernel_rfl) (fun c a w h => PanQ.put (by decide) c a w h) (Or.inl ⟨by kernel_rfl, ?_⟩) (by assumption) ?_
              rotate_left
              · (intro w hSw; (try dsimp only at hSw); go_simp; (try with_reducible rfl))
              try simp only [List.getElem_toArray, List.getElem_cons_succ, List.getElem_cons_zero, Act.put, List.setIfInBounds_toArray, List.set_cons_zero, List.set_cons_succ]
              refine wpAnyH_take (i := 9) (v := ?_) rfl (by kernel_rfl) (by kernel_rfl) (by kernel_rfl) (fun c a w h => PanQ.put (by decide) c a w h) (Or.inl ⟨by kernel_rfl, ?_⟩) (by assumption) ?_
              rotate_left
              · (intro w hSw; (try dsimp only at hSw); go_simp; (try with_reducible rfl))
              try simp only [List.getElem_toArray, List.getElem_cons_succ, List.getElem_cons_zero, Act.put, List.setIfInBounds_toArray, List.set_cons_zero, List.set_cons_succ]
              refine wpAnyH_ready (rs := [10]) (by kernel_rfl) (by simp) ?_
              refine AllReadyH.cons rfl (fun K hK => ?_) AllReadyH.nil
              go_simp
              refine (need_no _).mono ?_
              rintro e w' ⟨rfl, hw'⟩
              rw [hw']
              exact ⟨rfl, rfl, rfl, HW.out.hk.drewN 1, HOB.out.drewN 1, below_drewN HB.out 1⟩
          · intro a w4 ha hd h4
            have hv2 : vAll nr j reads n l = (l.length, none) := vAll_no HV.out (fun h => h4.1 h.2)
            refine door_panic ha hd h4.2.2.1 ?_
            rw [hv2]
            exact ⟨fun st hst => (by cases hst), fun _ => ⟨rfl, Fell.door h4.2.2.2 (by have := h4.2.2.1.lt; omega) h4.2.1 (by omega) (by omega) _ _⟩⟩
end Go.Proofs.Ythbjcafldbocpaa
