/- The walk of looker.step: a step that hands a register out. -/
import Derived.Test.YthbjcafldbocpaaVsteph
namespace Go.Proofs.Ythbjcafldbocpaa
open Go.RowKit
set_option linter.unusedVariables false
set_option linter.unusedSimpArgs false
theorem seg_cells {w : World} {gr : Nat} {t : TypeId} {xs : List UInt8} (h : Row w gr t (bVs xs)) {nr : Nat} (hl : xs.length = nr * 64) {r : Nat} (hr : r < nr) : w.rangeAt gr (r * 64) (bVs (seg xs r)) := by
  intro j u hu
  rw [h.cell, ← hu]
  have hj : j < 64 := by
    rcases Nat.lt_or_ge j 64 with hlt | hge
    · exact hlt
    · rw [List.getElem?_eq_none (by rw [bVs_length, seg_length hl hr]; exact hge)] at hu; cases hu
  simp only [bVs, seg, List.getElem?_map, List.getElem?_take, if_pos hj, List.getElem?_drop]
/-- what region 22 reads -/
def OutS (gk gr go D S wh no gd : Nat) (cs : List Value) (x : World) : Prop :=
  x.cell? ⟨gk, 8, none⟩ = some (.slice (some ⟨go, 0, none⟩) no no) ∧ x.cell? ⟨gk, 9, none⟩ = some (.slice (some ⟨gd, 0, none⟩) no no) ∧ x.cell? ⟨wh, 1, none⟩ = some (.int .i64 (D : Int)) ∧ x.rangeAt gr (S * 64) cs ∧ x.there go (D * 64) 64
theorem OutS.lay {gk gr go D S wh no gd : Nat} {cs : List Value} {x : World} (h : OutS gk gr go D S wh no gd cs x) (n2 : go ≠ gk) (n3 : go ≠ wh) (n5 : gr ≠ go) (o : Nat) (vs : List Value) : OutS gk gr go D S wh no gd cs (x.setCells go o vs) :=
  ⟨(World.cell?_setCells_out go vs o x ⟨gk, 8, none⟩ (fun h => absurd h.symm n2)).trans h.1, (World.cell?_setCells_out go vs o x ⟨gk, 9, none⟩ (fun h => absurd h.symm n2)).trans h.2.1, (World.cell?_setCells_out go vs o x ⟨wh, 1, none⟩ (fun h => absurd h.symm n3)).trans h.2.2.1, fun j v hj => (World.cell?_setCells_out go vs o x ⟨gr, _, none⟩ (fun h => absurd h n5)).trans (h.2.2.2.1 j v hj), World.there_setCells h.2.2.2.2 _ _ _⟩
theorem OutS.put {gk gr go D S wh no gd : Nat} {cs : List Value} {x : World} (h : OutS gk gr go D S wh no gd cs x) (n1 : gd ≠ gk) (n3 : gd ≠ wh) (n5 : gr ≠ gd) (n6 : go ≠ gd) (o : Nat) (v : Value) : OutS gk gr go D S wh no gd cs (x.setCell ⟨gd, o, none⟩ v) := by
  have hc : ∀ p : Addr, p.block ≠ gd → (x.setCell ⟨gd, o, none⟩ v).cell? p = x.cell? p := fun p hp => World.cell?_setCell_other x _ p v (by rintro rfl; exact hp rfl)
  refine ⟨(hc _ (Ne.symm n1)).trans h.1, (hc _ (Ne.symm n1)).trans h.2.1, (hc _ (Ne.symm n3)).trans h.2.2.1, fun j u hj => (hc _ n5).trans (h.2.2.2.1 j u hj), fun j hj => ?_⟩
  have := h.2.2.2.2 j hj
  exact ⟨by rw [hc _ n6]; exact this.1, by rw [World.frozen?_setCell]; exact this.2⟩
set_option maxHeartbeats 4000000 in
set_option maxRecDepth 100000 in
theorem step_out (gk gr gs go gd nr no reads n at_ loads nS cS : Nat) (AS : Option Addr) (D S : Nat) (C : UInt8) (bs ds : List Bool) (xs ys : List UInt8) (w : World)
    (hk : Row w gk 82 (lkV AS nS cS nr no reads n at_ gr gs go gd loads)) (hb : Row w gs 4 (bolVs bs)) (hr : Row w gr 87 (bVs xs)) (lr : xs.length = nr * 64)
    (hd : Row w gd 4 (bolVs ds)) (ho : Row w go 87 (bVs ys)) (ld : ds.length = no) (lo : ys.length = no * 64)
    (n1 : gd ≠ gk) (n2 : go ≠ gk) (n3 : go ≠ gd) (n4 : gs ≠ go) (n5 : gr ≠ go) (n6 : gs ≠ gd) (n7 : gr ≠ gd) (hS : S < nr) (bS : bs[S]? = some true) (hD : D < no) (bD : ds[D]? = some false) :
    Calls Try.prog 64 #[.pointer (some ⟨gk, 0, none⟩), .agg #[.int .u8 4, .int .i64 (D : Int), .int .i64 (S : Int), .int .u8 (C.toNat : Int)]] w fun e w' => e = .returned (.tuple #[]) ∧ Row w' gk 82 (lkV AS nS cS nr no reads n at_ gr gs go gd loads) ∧ Row w' gd 4 (bolVs (ds.set D true)) ∧ Row w' go 87 (layAt (bVs ys) (D * 64) (bVs (seg xs S))) ∧ Chg3 w.heap.size gd go go w w' := by
  have e0 : decide ((D : Int) < (no : Int)) = true := decide_eq_true (by omega)
  have e1 : decide (D < no) = true := decide_eq_true hD
  go_enter Try.func64, Try.ntmps64
  go_wp2_with fail
  obtain ⟨w1, hw1⟩ : ∃ w1, w1 = w.alloc (.cells #[.int .u8 4, .int .i64 (D : Int), .int .i64 (S : Int), .int .u8 (C.toNat : Int)] 59) := ⟨_, rfl⟩
  have q : Below w.heap.size w w1 := by rw [hw1]; exact (Below.refl _ _).alloc (Nat.le_refl _) _
  have hx : Row w1 w.heap.size 59 [.int .u8 4, .int .i64 (D : Int), .int .i64 (S : Int), .int .u8 (C.toNat : Int)] := by rw [hw1]; exact Row.new w _ _
  have hk1 := hk.below q hk.lt
  have hb1 := hb.below q hb.lt
  have hr1 := hr.below q hr.lt
  have hd1 := hd.below q hd.lt
  have ho1 := ho.below q ho.lt
  rw [← hw1]
  clear hw1
  have x1 : w1.cell? ⟨w.heap.size, 1, none⟩ = some (.int .i64 (D : Int)) := hx.cell 1
  have sS : w1.cell? ⟨gs, S, none⟩ = some (.bool true) := by rw [hb1.cell, bolVs, List.getElem?_map, bS]; rfl
  have sD : w1.cell? ⟨gd, D, none⟩ = some (.bool false) := by rw [hd1.cell, bolVs, List.getElem?_map, bD]; rfl
  have k1 : w1.cell? ⟨gk, 1, none⟩ = some (.int .i64 (nr : Int)) := hk1.cell 1
  have k2 : w1.cell? ⟨gk, 2, none⟩ = some (.int .i64 (no : Int)) := hk1.cell 2
  have k6 : w1.cell? ⟨gk, 6, none⟩ = some (.slice (some ⟨gr, 0, none⟩) nr nr) := hk1.cell 6
  have k7 : w1.cell? ⟨gk, 7, none⟩ = some (.slice (some ⟨gs, 0, none⟩) nr nr) := hk1.cell 7
  have k8 : w1.cell? ⟨gk, 8, none⟩ = some (.slice (some ⟨go, 0, none⟩) no no) := hk1.cell 8
  have k9 : w1.cell? ⟨gk, 9, none⟩ = some (.slice (some ⟨gd, 0, none⟩) no no) := hk1.cell 9
  refine (reg_yes gk gr gs S nr w1 k1 k6 k7 hS sS).mono ?_
  rintro e w' ⟨rfl, rfl⟩
  go_wp2_with fail
  have i0 : (0 : Int) ≤ (D : Int) := by omega
  have i1 : (D : Int) < (no : Int) := by omega
  go_quiet (exact Calls.quiet_of_same (need_yes _))
  go_wp2_with fail
  have hk2 := hk1.drewN nq
  have hd2 := hd1.drewN nq
  have ho2 := ho1.drewN nq
  have hx2 := hx.drewN nq
  have hr2 := hr1.drewN nq
  have q2 := below_drewN q nq
  generalize hw2 : w'.drewN nq = w2 at *
  clear hw2 x1 sS sD k1 k2 k6 k7 k8 k9
  obtain ⟨cs, hcs⟩ : ∃ cs, cs = bVs (seg xs S) := ⟨_, rfl⟩
  have lcs : cs.length = 64 := by rw [hcs, bVs_length, seg_length lr hS]
  have z1 : ∀ v ∈ cs, v.oneCell' = true := by intro v hv; rw [hcs] at hv; exact bVs_one hv
  have z2 : (Try.prog.info? 87).map (·.size) = some cs.length := by rw [lcs]; kernel_rfl
  have z3 : Try.prog.underlying 87 = some (.array 64 5) := by kernel_rfl
  have e3 : go ≠ w.heap.size := by have := ho.lt; omega
  have e4 : gd ≠ w.heap.size := by have := hd.lt; omega
  have hF : OutS gk gr go D S w.heap.size no gd cs w2 := ⟨hk2.cell 8, hk2.cell 9, hx2.cell 1, by rw [hcs]; exact seg_cells hr2 lr hS, fun j hj => ⟨by rw [ho2.cell, List.getElem?_eq_getElem (by rw [bVs_length, lo]; omega)]; rfl, ho2.frozen _⟩⟩
  have hG : OutS gk gr go D S w.heap.size no gd cs w2.drew := hF
  obtain ⟨ob, hob⟩ : ∃ ob, w2.cell? ⟨gd, D, none⟩ = some ob := hd2.has (by simp [bolVs, ld]; omega)
  have hfz : w2.frozen? ⟨gd, D, none⟩ = false := hd2.frozen _
  have hob' : (w2.drew.setCells go (D * 64) cs).cell? ⟨gd, D, none⟩ = some ob := (World.cell?_setCells_out go cs (D * 64) w2.drew ⟨gd, D, none⟩ (fun h => absurd h.symm n3)).trans hob
  have hfz' : (w2.drew.setCells go (D * 64) cs).frozen? ⟨gd, D, none⟩ = false := by rw [World.frozen?_setCells]; exact hfz
  have HCS := Lib.hid hcs
  clear hcs
  go_region_held3 (fun x => x.cell? ⟨gk, 8, none⟩ = some (.slice (some ⟨go, 0, none⟩) no no) ∧ x.cell? ⟨gk, 9, none⟩ = some (.slice (some ⟨gd, 0, none⟩) no no) ∧ x.cell? ⟨w.heap.size, 1, none⟩ = some (.int .i64 (D : Int)) ∧ x.rangeAt gr (S * 64) cs ∧ x.there go (D * 64) 64) (first | (exact hG) | (exact OutS.lay hG n2 e3 n5 _ _) | (exact OutS.put (OutS.lay hG n2 e3 n5 _ _) n1 e4 n7 n3 _ _)) (fail)
  have hk3 := ((hk2.drewN 1).farLay (Ne.symm n2) (D * 64) cs).far (p := ⟨gd, D, none⟩) (Ne.symm n1) (.bool true)
  have hd3 := ((hd2.drewN 1).farLay (Ne.symm n3) (D * 64) cs).set D (.bool true)
  have ho3 := ((ho2.drewN 1).lay (D * 64) cs (by rw [lcs, bVs_length, lo]; omega)).far (p := ⟨gd, D, none⟩) n3 (.bool true)
  have hx3 := ((hx2.drewN 1).farLay (Ne.symm e3) (D * 64) cs).far (p := ⟨gd, D, none⟩) (Ne.symm e4) (.bool true)
  have hch := (((Chg3.of_below (a := gd) (b := go) (c := go) q2).drewN 1).lay (g := go) (Or.inr (Or.inl rfl)) (D * 64) cs).set (g := gd) (Or.inl rfl) D (.bool true)
  obtain ⟨w3, hw3⟩ : ∃ w3, w3 = ((w2.drewN 1).setCells go (D * 64) cs).setCell ⟨gd, D, none⟩ (.bool true) := ⟨_, rfl⟩
  rw [← hw3] at hk3 hd3 ho3 hx3 hch
  have hw3' : (w2.drew.setCells go (D * 64) cs).setCell ⟨gd, D, none⟩ (.bool true) = w3 := hw3.symm
  rw [hw3']
  rw [HCS.out] at ho3
  clear hw3 hw3' hF hG hob hob' hfz hfz' z1 z2 z3
  go_wp2_with fail
  go_end0
  exact ⟨rfl, hk3, by rw [bolVs, List.map_set]; exact hd3, ho3, hch⟩
set_option maxHeartbeats 4000000 in
set_option maxRecDepth 100000 in
theorem step_out_bad (gk gr gs go gd nr no reads n at_ loads nS cS : Nat) (AS : Option Addr) (D S : Nat) (C : UInt8) (bs ds : List Bool) (w : World)
    (hk : Row w gk 82 (lkV AS nS cS nr no reads n at_ gr gs go gd loads)) (hb : Row w gs 4 (bolVs bs))
    (hd : Row w gd 4 (bolVs ds)) (hS : S < nr) (bS : bs[S]? = some true) (h : no ≤ D ∨ (D < no ∧ ds[D]? = some true)) :
    Calls Try.prog 64 #[.pointer (some ⟨gk, 0, none⟩), .agg #[.int .u8 4, .int .i64 (D : Int), .int .i64 (S : Int), .int .u8 (C.toNat : Int)]] w fun e w' => e = .panicked giveUp ∧ Below w.heap.size w w' := by
  go_enter Try.func64, Try.ntmps64
  go_wp2_with fail
  obtain ⟨w1, hw1⟩ : ∃ w1, w1 = w.alloc (.cells #[.int .u8 4, .int .i64 (D : Int), .int .i64 (S : Int), .int .u8 (C.toNat : Int)] 59) := ⟨_, rfl⟩
  have q : Below w.heap.size w w1 := by rw [hw1]; exact (Below.refl _ _).alloc (Nat.le_refl _) _
  have hx : Row w1 w.heap.size 59 [.int .u8 4, .int .i64 (D : Int), .int .i64 (S : Int), .int .u8 (C.toNat : Int)] := by rw [hw1]; exact Row.new w _ _
  have hk1 := hk.below q hk.lt
  have hb1 := hb.below q hb.lt
  have hd1 := hd.below q hd.lt
  rw [← hw1]
  clear hw1
  have x1 : w1.cell? ⟨w.heap.size, 1, none⟩ = some (.int .i64 (D : Int)) := hx.cell 1
  have sS : w1.cell? ⟨gs, S, none⟩ = some (.bool true) := by rw [hb1.cell, bolVs, List.getElem?_map, bS]; rfl
  have k1 : w1.cell? ⟨gk, 1, none⟩ = some (.int .i64 (nr : Int)) := hk1.cell 1
  have k2 : w1.cell? ⟨gk, 2, none⟩ = some (.int .i64 (no : Int)) := hk1.cell 2
  have k6 : w1.cell? ⟨gk, 6, none⟩ = some (.slice (some ⟨gr, 0, none⟩) nr nr) := hk1.cell 6
  have k7 : w1.cell? ⟨gk, 7, none⟩ = some (.slice (some ⟨gs, 0, none⟩) nr nr) := hk1.cell 7
  have k9 : w1.cell? ⟨gk, 9, none⟩ = some (.slice (some ⟨gd, 0, none⟩) no no) := hk1.cell 9
  refine (reg_yes gk gr gs S nr w1 k1 k6 k7 hS sS).mono ?_
  rintro e w' ⟨rfl, rfl⟩
  go_wp2_with fail
  rcases h with h | ⟨h, bD⟩
  · have e0 : decide ((D : Int) < (no : Int)) = false := decide_eq_false (by omega)
    have e1 : decide (D < no) = false := decide_eq_false (by omega)
    refine wp_region_held_drew (S := (fun x => x.cell? ⟨w.heap.size, 1, none⟩ = some (.int .i64 (D : Int)) ∧ x.cell? ⟨gk, 2, none⟩ = some (.int .i64 (no : Int)))) (by kernel_rfl) ⟨x1, k2⟩ (fun hHeld => ?_)
    refine wpAnyH_take (i := 0) (v := ?_) rfl (by kernel_rfl) (by kernel_rfl) (by kernel_rfl) (fun _ _ _ h => h) (Or.inl ⟨by kernel_rfl, ?_⟩) (by assumption) ?_
    rotate_left
    · (intro w hSw; (try dsimp only at hSw); go_simp; (try with_reducible rfl))
    try simp only [List.getElem_toArray, List.getElem_cons_succ, List.getElem_cons_zero, Act.put, List.setIfInBounds_toArray, List.set_cons_zero, List.set_cons_succ]
    refine wpAnyH_take (i := 1) (v := ?_) rfl (by kernel_rfl) (by kernel_rfl) (by kernel_rfl) (fun _ _ _ h => h) (Or.inl ⟨by kernel_rfl, ?_⟩) (by assumption) ?_
    rotate_left
    · (intro w hSw; (try dsimp only at hSw); go_simp; (try with_reducible rfl))
    try simp only [List.getElem_toArray, List.getElem_cons_succ, List.getElem_cons_zero, Act.put, List.setIfInBounds_toArray, List.set_cons_zero, List.set_cons_succ]
    refine wpAnyH_take (i := 2) (v := ?_) rfl (by kernel_rfl) (by kernel_rfl) (by kernel_rfl) (fun _ _ _ h => h) (Or.inl ⟨by kernel_rfl, ?_⟩) (by assumption) ?_
    rotate_left
    · (intro w hSw; (try dsimp only at hSw); go_simp; (try with_reducible rfl))
    try simp only [List.getElem_toArray, List.getElem_cons_succ, List.getElem_cons_zero, Act.put, List.setIfInBounds_toArray, List.set_cons_zero, List.set_cons_succ]
    refine wpAnyH_take (i := 3) (v := ?_) rfl (by kernel_rfl) (by kernel_rfl) (by kernel_rfl) (fun _ _ _ h => h) (Or.inl ⟨by kernel_rfl, ?_⟩) (by assumption) ?_
    rotate_left
    · (intro w hSw; (try dsimp only at hSw); go_simp; (try with_reducible rfl))
    try simp only [List.getElem_toArray, List.getElem_cons_succ, List.getElem_cons_zero, Act.put, List.setIfInBounds_toArray, List.set_cons_zero, List.set_cons_succ]
    refine wpAnyH_take (i := 4) (v := ?_) rfl (by kernel_rfl) (by kernel_rfl) (by kernel_rfl) (fun _ _ _ h => h) (Or.inl ⟨by kernel_rfl, ?_⟩) (by assumption) ?_
    rotate_left
    · (intro w hSw; (try dsimp only at hSw); go_simp; (try with_reducible rfl))
    try simp only [List.getElem_toArray, List.getElem_cons_succ, List.getElem_cons_zero, Act.put, List.setIfInBounds_toArray, List.set_cons_zero, List.set_cons_succ]
    refine wpAnyH_take (i := 5) (v := ?_) rfl (by kernel_rfl) (by kernel_rfl) (by kernel_rfl) (fun _ _ _ h => h) (Or.inl ⟨by kernel_rfl, ?_⟩) (by assumption) ?_
    rotate_left
    · (intro w hSw; (try dsimp only at hSw); go_simp; (try with_reducible rfl))
    try simp only [List.getElem_toArray, List.getElem_cons_succ, List.getElem_cons_zero, Act.put, List.setIfInBounds_toArray, List.set_cons_zero, List.set_cons_succ]
    refine wpAnyH_take (i := 6) (v := ?_) rfl (by kernel_rfl) (by kernel_rfl) (by kernel_rfl) (fun _ _ _ h => h) (Or.inl ⟨by kernel_rfl, ?_⟩) (by assumption) ?_
    rotate_left
    · (intro w hSw; (try dsimp only at hSw); go_simp; (try with_reducible rfl))
    try simp only [List.getElem_toArray, List.getElem_cons_succ, List.getElem_cons_zero, Act.put, List.setIfInBounds_toArray, List.set_cons_zero, List.set_cons_succ]
    refine wpAnyH_take (i := 7) (v := ?_) rfl (by kernel_rfl) (by kernel_rfl) (by kernel_rfl) (fun _ _ _ h => h) (Or.inl ⟨by kernel_rfl, ?_⟩) (by assumption) ?_
    rotate_left
    · (intro w hSw; (try dsimp only at hSw); go_simp; (try with_reducible rfl))
    try simp only [List.getElem_toArray, List.getElem_cons_succ, List.getElem_cons_zero, Act.put, List.setIfInBounds_toArray, List.set_cons_zero, List.set_cons_succ]
    refine wpAnyH_take (i := 8) (v := ?_) rfl (by kernel_rfl) (by kernel_rfl) (by kernel_rfl) (fun _ _ _ h => h) (Or.inl ⟨by kernel_rfl, ?_⟩) (by assumption) ?_
    rotate_left
    · (intro w hSw; (try dsimp only at hSw); go_simp; (try with_reducible rfl))
    try simp only [List.getElem_toArray, List.getElem_cons_succ, List.getElem_cons_zero, Act.put, List.setIfInBounds_toArray, List.set_cons_zero, List.set_cons_succ]
    refine wpAnyH_take (i := 9) rfl (by kernel_rfl) (by kernel_rfl) (by kernel_rfl) (fun _ _ _ h => h) (Or.inr ⟨by kernel_rfl, rfl⟩) (by assumption) ?_
    try simp only [List.getElem_toArray, List.getElem_cons_succ, List.getElem_cons_zero, Act.put, List.setIfInBounds_toArray, List.set_cons_zero, List.set_cons_succ]
    refine wpAnyH_take (i := 10) rfl (by kernel_rfl) (by kernel_rfl) (by kernel_rfl) (fun _ _ _ h => h) (Or.inr ⟨by kernel_rfl, rfl⟩) (by assumption) ?_
    try simp only [List.getElem_toArray, List.getElem_cons_succ, List.getElem_cons_zero, Act.put, List.setIfInBounds_toArray, List.set_cons_zero, List.set_cons_succ]
    refine wpAnyH_take (i := 11) rfl (by kernel_rfl) (by kernel_rfl) (by kernel_rfl) (fun _ _ _ h => h) (Or.inr ⟨by kernel_rfl, rfl⟩) (by assumption) ?_
    try simp only [List.getElem_toArray, List.getElem_cons_succ, List.getElem_cons_zero, Act.put, List.setIfInBounds_toArray, List.set_cons_zero, List.set_cons_succ]
    refine wpAnyH_take (i := 12) rfl (by kernel_rfl) (by kernel_rfl) (by kernel_rfl) (fun _ _ _ h => h) (Or.inr ⟨by kernel_rfl, rfl⟩) (by assumption) ?_
    try simp only [List.getElem_toArray, List.getElem_cons_succ, List.getElem_cons_zero, Act.put, List.setIfInBounds_toArray, List.set_cons_zero, List.set_cons_succ]
    refine wpAnyH_take (i := 13) rfl (by kernel_rfl) (by kernel_rfl) (by kernel_rfl) (fun _ _ _ h => h) (Or.inr ⟨by kernel_rfl, rfl⟩) (by assumption) ?_
    try simp only [List.getElem_toArray, List.getElem_cons_succ, List.getElem_cons_zero, Act.put, List.setIfInBounds_toArray, List.set_cons_zero, List.set_cons_succ]
    refine wpAnyH_take (i := 14) rfl (by kernel_rfl) (by kernel_rfl) (by kernel_rfl) (fun _ _ _ h => h) (Or.inr ⟨by kernel_rfl, rfl⟩) (by assumption) ?_
    try simp only [List.getElem_toArray, List.getElem_cons_succ, List.getElem_cons_zero, Act.put, List.setIfInBounds_toArray, List.set_cons_zero, List.set_cons_succ]
    refine wpAnyH_take (i := 15) rfl (by kernel_rfl) (by kernel_rfl) (by kernel_rfl) (fun _ _ _ h => h) (Or.inr ⟨by kernel_rfl, rfl⟩) (by assumption) ?_
    try simp only [List.getElem_toArray, List.getElem_cons_succ, List.getElem_cons_zero, Act.put, List.setIfInBounds_toArray, List.set_cons_zero, List.set_cons_succ]
    refine wpAnyH_take (i := 16) rfl (by kernel_rfl) (by kernel_rfl) (by kernel_rfl) (fun _ _ _ h => h) (Or.inr ⟨by kernel_rfl, rfl⟩) (by assumption) ?_
    try simp only [List.getElem_toArray, List.getElem_cons_succ, List.getElem_cons_zero, Act.put, List.setIfInBounds_toArray, List.set_cons_zero, List.set_cons_succ]
    refine wpAnyH_take (i := 17) rfl (by kernel_rfl) (by kernel_rfl) (by kernel_rfl) (fun _ _ _ h => h) (Or.inr ⟨by kernel_rfl, rfl⟩) (by assumption) ?_
    try simp only [List.getElem_toArray, List.getElem_cons_succ, List.getElem_cons_zero, Act.put, List.setIfInBounds_toArray, List.set_cons_zero, List.set_cons_succ]
    refine wpAnyH_take (i := 18) (v := ?_) rfl (by kernel_rfl) (by kernel_rfl) (by kernel_rfl) (fun _ _ _ h => h) (Or.inl ⟨by kernel_rfl, ?_⟩) (by assumption) ?_
    rotate_left
    · (intro w hSw; (try dsimp only at hSw); go_simp; (try with_reducible rfl))
    try simp only [List.getElem_toArray, List.getElem_cons_succ, List.getElem_cons_zero, Act.put, List.setIfInBounds_toArray, List.set_cons_zero, List.set_cons_succ]
    refine wpAnyH_ready (rs := [19]) (by kernel_rfl) (by simp) ?_
    refine AllReadyH.cons rfl (fun K hK => ?_) AllReadyH.nil
    go_simp
    refine (need_no _).mono ?_
    rintro e w2 ⟨rfl, hw2⟩
    rw [hw2]
    exact ⟨rfl, rfl, below_drewN q 1⟩
  · have e0 : decide ((D : Int) < (no : Int)) = true := decide_eq_true (by omega)
    have e1 : decide (D < no) = true := decide_eq_true (by omega)
    have i0 : (0 : Int) ≤ (D : Int) := by omega
    have i1 : (D : Int) < (no : Int) := by omega
    have sD : w'.cell? ⟨gd, D, none⟩ = some (.bool true) := by rw [hd1.cell, bolVs, List.getElem?_map, bD]; rfl
    refine wp_region_held_drew (S := (fun x => x.cell? ⟨w.heap.size, 1, none⟩ = some (.int .i64 (D : Int)) ∧ x.cell? ⟨gk, 2, none⟩ = some (.int .i64 (no : Int)) ∧ x.cell? ⟨gk, 9, none⟩ = some (.slice (some ⟨gd, 0, none⟩) no no) ∧ x.cell? ⟨gd, D, none⟩ = some (.bool true))) (by kernel_rfl) ⟨x1, k2, k9, sD⟩ (fun hHeld => ?_)
    refine wpAnyH_take (i := 0) (v := ?_) rfl (by kernel_rfl) (by kernel_rfl) (by kernel_rfl) (fun _ _ _ h => h) (Or.inl ⟨by kernel_rfl, ?_⟩) (by assumption) ?_
    rotate_left
    · (intro w hSw; (try dsimp only at hSw); go_simp; (try with_reducible rfl))
    try simp only [List.getElem_toArray, List.getElem_cons_succ, List.getElem_cons_zero, Act.put, List.setIfInBounds_toArray, List.set_cons_zero, List.set_cons_succ]
    refine wpAnyH_take (i := 1) (v := ?_) rfl (by kernel_rfl) (by kernel_rfl) (by kernel_rfl) (fun _ _ _ h => h) (Or.inl ⟨by kernel_rfl, ?_⟩) (by assumption) ?_
    rotate_left
    · (intro w hSw; (try dsimp only at hSw); go_simp; (try with_reducible rfl))
    try simp only [List.getElem_toArray, List.getElem_cons_succ, List.getElem_cons_zero, Act.put, List.setIfInBounds_toArray, List.set_cons_zero, List.set_cons_succ]
    refine wpAnyH_take (i := 2) (v := ?_) rfl (by kernel_rfl) (by kernel_rfl) (by kernel_rfl) (fun _ _ _ h => h) (Or.inl ⟨by kernel_rfl, ?_⟩) (by assumption) ?_
    rotate_left
    · (intro w hSw; (try dsimp only at hSw); go_simp; (try with_reducible rfl))
    try simp only [List.getElem_toArray, List.getElem_cons_succ, List.getElem_cons_zero, Act.put, List.setIfInBounds_toArray, List.set_cons_zero, List.set_cons_succ]
    refine wpAnyH_take (i := 3) (v := ?_) rfl (by kernel_rfl) (by kernel_rfl) (by kernel_rfl) (fun _ _ _ h => h) (Or.inl ⟨by kernel_rfl, ?_⟩) (by assumption) ?_
    rotate_left
    · (intro w hSw; (try dsimp only at hSw); go_simp; (try with_reducible rfl))
    try simp only [List.getElem_toArray, List.getElem_cons_succ, List.getElem_cons_zero, Act.put, List.setIfInBounds_toArray, List.set_cons_zero, List.set_cons_succ]
    refine wpAnyH_take (i := 4) (v := ?_) rfl (by kernel_rfl) (by kernel_rfl) (by kernel_rfl) (fun _ _ _ h => h) (Or.inl ⟨by kernel_rfl, ?_⟩) (by assumption) ?_
    rotate_left
    · (intro w hSw; (try dsimp only at hSw); go_simp; (try with_reducible rfl))
    try simp only [List.getElem_toArray, List.getElem_cons_succ, List.getElem_cons_zero, Act.put, List.setIfInBounds_toArray, List.set_cons_zero, List.set_cons_succ]
    refine wpAnyH_take (i := 5) (v := ?_) rfl (by kernel_rfl) (by kernel_rfl) (by kernel_rfl) (fun _ _ _ h => h) (Or.inl ⟨by kernel_rfl, ?_⟩) (by assumption) ?_
    rotate_left
    · (intro w hSw; (try dsimp only at hSw); go_simp; (try with_reducible rfl))
    try simp only [List.getElem_toArray, List.getElem_cons_succ, List.getElem_cons_zero, Act.put, List.setIfInBounds_toArray, List.set_cons_zero, List.set_cons_succ]
    refine wpAnyH_take (i := 6) (v := ?_) rfl (by kernel_rfl) (by kernel_rfl) (by kernel_rfl) (fun _ _ _ h => h) (Or.inl ⟨by kernel_rfl, ?_⟩) (by assumption) ?_
    rotate_left
    · (intro w hSw; (try dsimp only at hSw); go_simp; (try with_reducible rfl))
    try simp only [List.getElem_toArray, List.getElem_cons_succ, List.getElem_cons_zero, Act.put, List.setIfInBounds_toArray, List.set_cons_zero, List.set_cons_succ]
    refine wpAnyH_take (i := 7) (v := ?_) rfl (by kernel_rfl) (by kernel_rfl) (by kernel_rfl) (fun _ _ _ h => h) (Or.inl ⟨by kernel_rfl, ?_⟩) (by assumption) ?_
    rotate_left
    · (intro w hSw; (try dsimp only at hSw); go_simp; (try with_reducible rfl))
    try simp only [List.getElem_toArray, List.getElem_cons_succ, List.getElem_cons_zero, Act.put, List.setIfInBounds_toArray, List.set_cons_zero, List.set_cons_succ]
    refine wpAnyH_take (i := 8) (v := ?_) rfl (by kernel_rfl) (by kernel_rfl) (by kernel_rfl) (fun _ _ _ h => h) (Or.inl ⟨by kernel_rfl, ?_⟩) (by assumption) ?_
    rotate_left
    · (intro w hSw; (try dsimp only at hSw); go_simp; (try with_reducible rfl))
    try simp only [List.getElem_toArray, List.getElem_cons_succ, List.getElem_cons_zero, Act.put, List.setIfInBounds_toArray, List.set_cons_zero, List.set_cons_succ]
    refine wpAnyH_take (i := 9) (v := ?_) rfl (by kernel_rfl) (by kernel_rfl) (by kernel_rfl) (fun _ _ _ h => h) (Or.inl ⟨by kernel_rfl, ?_⟩) (by assumption) ?_
    rotate_left
    · (intro w hSw; (try dsimp only at hSw); go_simp; (try with_reducible rfl))
    try simp only [List.getElem_toArray, List.getElem_cons_succ, List.getElem_cons_zero, Act.put, List.setIfInBounds_toArray, List.set_cons_zero, List.set_cons_succ]
    refine wpAnyH_take (i := 10) (v := ?_) rfl (by kernel_rfl) (by kernel_rfl) (by kernel_rfl) (fun _ _ _ h => h) (Or.inl ⟨by kernel_rfl, ?_⟩) (by assumption) ?_
    rotate_left
    · (intro w hSw; (try dsimp only at hSw); go_simp; (try with_reducible rfl))
    try simp only [List.getElem_toArray, List.getElem_cons_succ, List.getElem_cons_zero, Act.put, List.setIfInBounds_toArray, List.set_cons_zero, List.set_cons_succ]
    refine wpAnyH_take (i := 11) (v := ?_) rfl (by kernel_rfl) (by kernel_rfl) (by kernel_rfl) (fun _ _ _ h => h) (Or.inl ⟨by kernel_rfl, ?_⟩) (by assumption) ?_
    rotate_left
    · (intro w hSw; (try dsimp only at hSw); go_simp; (try with_reducible rfl))
    try simp only [List.getElem_toArray, List.getElem_cons_succ, List.getElem_cons_zero, Act.put, List.setIfInBounds_toArray, List.set_cons_zero, List.set_cons_succ]
    refine wpAnyH_take (i := 12) (v := ?_) rfl (by kernel_rfl) (by kernel_rfl) (by kernel_rfl) (fun _ _ _ h => h) (Or.inl ⟨by kernel_rfl, ?_⟩) (by assumption) ?_
    rotate_left
    · (intro w hSw; (try dsimp only at hSw); go_simp; (try with_reducible rfl))
    try simp only [List.getElem_toArray, List.getElem_cons_succ, List.getElem_cons_zero, Act.put, List.setIfInBounds_toArray, List.set_cons_zero, List.set_cons_succ]
    refine wpAnyH_take (i := 13) (v := ?_) rfl (by kernel_rfl) (by kernel_rfl) (by kernel_rfl) (fun _ _ _ h => h) (Or.inl ⟨by kernel_rfl, ?_⟩) (by assumption) ?_
    rotate_left
    · (intro w hSw; (try dsimp only at hSw); go_simp; (try with_reducible rfl))
    try simp only [List.getElem_toArray, List.getElem_cons_succ, List.getElem_cons_zero, Act.put, List.setIfInBounds_toArray, List.set_cons_zero, List.set_cons_succ]
    refine wpAnyH_take (i := 14) (v := ?_) rfl (by kernel_rfl) (by kernel_rfl) (by kernel_rfl) (fun _ _ _ h => h) (Or.inl ⟨by kernel_rfl, ?_⟩) (by assumption) ?_
    rotate_left
    · (intro w hSw; (try dsimp only at hSw); go_simp; (try with_reducible rfl))
    try simp only [List.getElem_toArray, List.getElem_cons_succ, List.getElem_cons_zero, Act.put, List.setIfInBounds_toArray, List.set_cons_zero, List.set_cons_succ]
    refine wpAnyH_take (i := 15) (v := ?_) rfl (by kernel_rfl) (by kernel_rfl) (by kernel_rfl) (fun _ _ _ h => h) (Or.inl ⟨by kernel_rfl, ?_⟩) (by assumption) ?_
    rotate_left
    · (intro w hSw; (try dsimp only at hSw); go_simp; (try with_reducible rfl))
    try simp only [List.getElem_toArray, List.getElem_cons_succ, List.getElem_cons_zero, Act.put, List.setIfInBounds_toArray, List.set_cons_zero, List.set_cons_succ]
    refine wpAnyH_take (i := 16) (v := ?_) rfl (by kernel_rfl) (by kernel_rfl) (by kernel_rfl) (fun _ _ _ h => h) (Or.inl ⟨by kernel_rfl, ?_⟩) (by assumption) ?_
    rotate_left
    · (intro w hSw; (try dsimp only at hSw); go_simp; (try with_reducible rfl))
    try simp only [List.getElem_toArray, List.getElem_cons_succ, List.getElem_cons_zero, Act.put, List.setIfInBounds_toArray, List.set_cons_zero, List.set_cons_succ]
    refine wpAnyH_take (i := 17) (v := ?_) rfl (by kernel_rfl) (by kernel_rfl) (by kernel_rfl) (fun _ _ _ h => h) (Or.inl ⟨by kernel_rfl, ?_⟩) (by assumption) ?_
    rotate_left
    · (intro w hSw; (try dsimp only at hSw); go_simp; (try with_reducible rfl))
    try simp only [List.getElem_toArray, List.getElem_cons_succ, List.getElem_cons_zero, Act.put, List.setIfInBounds_toArray, List.set_cons_zero, List.set_cons_succ]
    refine wpAnyH_take (i := 18) (v := ?_) rfl (by kernel_rfl) (by kernel_rfl) (by kernel_rfl) (fun _ _ _ h => h) (Or.inl ⟨by kernel_rfl, ?_⟩) (by assumption) ?_
    rotate_left
    · (intro w hSw; (try dsimp only at hSw); go_simp; (try with_reducible rfl))
    try simp only [List.getElem_toArray, List.getElem_cons_succ, List.getElem_cons_zero, Act.put, List.setIfInBounds_toArray, List.set_cons_zero, List.set_cons_succ]
    refine wpAnyH_ready (rs := [19]) (by kernel_rfl) (by simp) ?_
    refine AllReadyH.cons rfl (fun K hK => ?_) AllReadyH.nil
    go_simp
    refine (need_no _).mono ?_
    rintro e w2 ⟨rfl, hw2⟩
    rw [hw2]
    exact ⟨rfl, rfl, below_drewN q 1⟩
end Go.Proofs.Ythbjcafldbocpaa
