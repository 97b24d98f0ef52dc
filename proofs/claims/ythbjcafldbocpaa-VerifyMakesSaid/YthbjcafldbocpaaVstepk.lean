/- The walk of looker.step: a step that loads a block. -/
import Derived.Test.YthbjcafldbocpaaVhas
namespace Go.Proofs.Ythbjcafldbocpaa
open Go.RowKit
set_option linter.unusedVariables false
set_option linter.unusedSimpArgs false
theorem cs_keep3 {W : World} {a b c p : Addr} {u v z x : Value} (h : W.cell? a = some u ∧ W.cell? b = some v ∧ W.cell? c = some z) (na : p.block ≠ a.block) (nb : p.block ≠ b.block) (nc : p.block ≠ c.block) : (W.setCell p x).cell? a = some u ∧ (W.setCell p x).cell? b = some v ∧ (W.setCell p x).cell? c = some z :=
  ⟨(World.cell?_setCell_other W p a x (by rintro rfl; exact na rfl)).trans h.1, (World.cell?_setCell_other W p b x (by rintro rfl; exact nb rfl)).trans h.2.1, (World.cell?_setCell_other W p c x (by rintro rfl; exact nc rfl)).trans h.2.2⟩
theorem cs_keep3d {W : World} {a b c p : Addr} {u v z x : Value} (h : W.cell? a = some u ∧ W.cell? b = some v ∧ W.cell? c = some z) (na : p.block ≠ a.block) (nb : p.block ≠ b.block) (nc : p.block ≠ c.block) : (W.setCell p x).drew.cell? a = some u ∧ (W.setCell p x).drew.cell? b = some v ∧ (W.setCell p x).drew.cell? c = some z := cs_keep3 h na nb nc
theorem or_bit (loads s : Nat) (hs : s < 64) (hl : loads < 2 ^ 64) : bits BinOp.or IntKind.u64 (loads : Int) (IntKind.u64.wrap (2 ^ s)) = ((loads ||| 1 <<< s : Nat) : Int) := by
  have h1 : 2 ^ s < 18446744073709551616 := Nat.lt_of_lt_of_le (Nat.pow_lt_pow_right (by decide) hs) (by decide)
  have e : ((2 : Int) ^ s) = ((2 ^ s : Nat) : Int) := by simp
  rw [IntKind.wrap_u64, e, show ((2 ^ s : Nat) : Int) % 18446744073709551616 = ((2 ^ s : Nat) : Int) from Int.emod_eq_of_lt (Int.natCast_nonneg _) (by omega), u64_or_nat _ _ hl h1, Nat.one_shiftLeft]
set_option maxHeartbeats 4000000 in
set_option maxRecDepth 100000 in
theorem step_load (gk gr gs go gd nr no reads n at_ loads nS cS : Nat) (AS : Option Addr) (D S : Nat) (C : UInt8) (bs : List Bool) (rs : List Value) (w : World)
    (hk : Row w gk 82 (lkV AS nS cS nr no reads n at_ gr gs go gd loads)) (hb : Row w gs 4 (bolVs bs)) (hr : Row w gr 87 rs) (lb : bs.length = nr) (lr : rs.length = nr * 64) (hD : D < nr) (hn : n ≤ 64) (hrd : reads < 2 ^ 64) (hld : loads < 2 ^ 64) (n1 : gs ≠ gk) (n2 : gr ≠ gk) (n3 : gr ≠ gs) :
    Calls Try.prog 64 #[.pointer (some ⟨gk, 0, none⟩), .agg #[.int .u8 2, .int .i64 (D : Int), .int .i64 (S : Int), .int .u8 (C.toNat : Int)]] w fun e w' =>
      (S < n ∧ reads.testBit S = true → e = .returned (.tuple #[]) ∧ Row w' gk 82 (lkV AS nS cS nr no reads n at_ gr gs go gd (loads ||| 1 <<< S)) ∧ Row w' gs 4 (bolVs (bs.set D true)) ∧ Row w' gr 87 (layAt rs (D * 64) ((List.replicate 64 (.int .u8 0)).set S (.int .u8 1))) ∧ Chg3 w.heap.size gs gr gk w w') ∧
      (¬ (S < n ∧ reads.testBit S = true) → e = .panicked giveUp ∧ Row w' gk 82 (lkV AS nS cS nr no reads n at_ gr gs go gd loads) ∧ Chg3 w.heap.size gs gr gk w w') := by
  have h1 : decide ((D : Int) < (nr : Int)) = true := decide_eq_true (by omega)
  go_enter Try.func64, Try.ntmps64
  go_wp2_with fail
  obtain ⟨w1, hw1⟩ : ∃ w1, w1 = w.alloc (.cells #[.int .u8 2, .int .i64 (D : Int), .int .i64 (S : Int), .int .u8 (C.toNat : Int)] 59) := ⟨_, rfl⟩
  have q : Below w.heap.size w w1 := by rw [hw1]; exact (Below.refl _ _).alloc (Nat.le_refl _) _
  have hx : Row w1 w.heap.size 59 [.int .u8 2, .int .i64 (D : Int), .int .i64 (S : Int), .int .u8 (C.toNat : Int)] := by rw [hw1]; exact Row.new w _ _
  have hk1 := hk.below q hk.lt
  have hb1 := hb.below q hb.lt
  have hr1 := hr.below q hr.lt
  rw [← hw1]
  clear hw1
  have x0 : w1.cell? ⟨w.heap.size, 0, none⟩ = some (.int .u8 2) := hx.cell 0
  have x1 : w1.cell? ⟨w.heap.size, 1, none⟩ = some (.int .i64 (D : Int)) := hx.cell 1
  have c1 : w1.cell? ⟨gk, 1, none⟩ = some (.int .i64 (nr : Int)) := hk1.cell 1
  have c6 : w1.cell? ⟨gk, 6, none⟩ = some (.slice (some ⟨gr, 0, none⟩) nr nr) := hk1.cell 6
  have c7 : w1.cell? ⟨gk, 7, none⟩ = some (.slice (some ⟨gs, 0, none⟩) nr nr) := hk1.cell 7
  have i0 : (0 : Int) ≤ (D : Int) := by omega
  have i1 : (D : Int) < (nr : Int) := by omega
  have e1 : gs ≠ w.heap.size := by have := hb.lt; omega
  have e2 : gk ≠ w.heap.size := by have := hk.lt; omega
  obtain ⟨ob, ho⟩ : ∃ ob, w1.cell? ⟨gs, D, none⟩ = some ob := hb1.has (by simp [bolVs, lb]; omega)
  have hf : w1.frozen? ⟨gs, D, none⟩ = false := hb1.frozen D
  go_quiet (exact Calls.quiet_of_same (need_yes _))
  go_wp2_with fail
  go_region_held3 (fun x => x.cell? ⟨gk, 7, none⟩ = some (.slice (some ⟨gs, 0, none⟩) nr nr) ∧ x.cell? ⟨w.heap.size, 1, none⟩ = some (.int .i64 (D : Int))) (go_keep) (fail)
  obtain ⟨w2, hw2⟩ : ∃ w2, w2 = (w1.drewN (nq + 1)).setCell ⟨gs, D, none⟩ (.bool true) := ⟨_, rfl⟩
  have hk2 := (hk1.drewN (nq + 1)).far (p := ⟨gs, D, none⟩) (Ne.symm n1) (.bool true)
  rw [← hw2] at hk2
  have hb2 := (hb1.drewN (nq + 1)).set D (.bool true)
  rw [← hw2] at hb2
  have hr2 := (hr1.drewN (nq + 1)).far (p := ⟨gs, D, none⟩) n3 (.bool true)
  rw [← hw2] at hr2
  have hx2 := (hx.drewN (nq + 1)).far (p := ⟨gs, D, none⟩) (Ne.symm e1) (.bool true)
  rw [← hw2] at hx2
  have q2 : w.heap.size ≤ w2.heap.size := by have := hx2.lt; omega
  have hch2 : Chg3 w.heap.size gs gr gk w w2 := by rw [hw2]; exact ((Chg3.of_below q).drewN _).set (Or.inl rfl) _ _
  rw [← hw2]
  clear hw2 x0 x1 c1 c6 c7 ho hf
  have x0 : w2.cell? ⟨w.heap.size, 0, none⟩ = some (.int .u8 2) := hx2.cell 0
  have x1 : w2.cell? ⟨w.heap.size, 1, none⟩ = some (.int .i64 (D : Int)) := hx2.cell 1
  have c6 : w2.cell? ⟨gk, 6, none⟩ = some (.slice (some ⟨gr, 0, none⟩) nr nr) := hk2.cell 6
  have hth : w2.there gr (D * 64) 64 := fun j hj => ⟨by rw [hr2.cell, List.getElem?_eq_getElem (by omega)]; rfl, hr2.frozen _⟩
  go_wp2_with fail
  have e3 : w.heap.size ≠ gr := by have := hr.lt; omega
  have d6 : w2.drew.cell? ⟨gk, 6, none⟩ = some (.slice (some ⟨gr, 0, none⟩) nr nr) := c6
  have dx : w2.drew.cell? ⟨w.heap.size, 1, none⟩ = some (.int .i64 (D : Int)) := x1
  have dth : w2.drew.there gr (D * 64) 64 := hth
  have z1 := zs_one
  have z2 := zs_info
  have z3 : Try.prog.underlying 87 = some (.array 64 5) := by kernel_rfl
  go_region_held3 (fun x => x.cell? ⟨gk, 6, none⟩ = some (.slice (some ⟨gr, 0, none⟩) nr nr) ∧ x.cell? ⟨w.heap.size, 1, none⟩ = some (.int .i64 (D : Int)) ∧ x.there gr (D * 64) 64) (first | (with_reducible exact sc_keep ⟨d6, dx, dth⟩ n2 e3 _ _) | (with_reducible exact ⟨d6, dx, dth⟩) | (with_reducible exact ⟨c6, x1, hth⟩)) (fail)
  obtain ⟨vs, hvs⟩ : ∃ vs : List Value, vs = [.int .u8 0, .int .u8 0, .int .u8 0, .int .u8 0, .int .u8 0, .int .u8 0, .int .u8 0, .int .u8 0, .int .u8 0, .int .u8 0, .int .u8 0, .int .u8 0, .int .u8 0, .int .u8 0, .int .u8 0, .int .u8 0, .int .u8 0, .int .u8 0, .int .u8 0, .int .u8 0, .int .u8 0, .int .u8 0, .int .u8 0, .int .u8 0, .int .u8 0, .int .u8 0, .int .u8 0, .int .u8 0, .int .u8 0, .int .u8 0, .int .u8 0, .int .u8 0, .int .u8 0, .int .u8 0, .int .u8 0, .int .u8 0, .int .u8 0, .int .u8 0, .int .u8 0, .int .u8 0, .int .u8 0, .int .u8 0, .int .u8 0, .int .u8 0, .int .u8 0, .int .u8 0, .int .u8 0, .int .u8 0, .int .u8 0, .int .u8 0, .int .u8 0, .int .u8 0, .int .u8 0, .int .u8 0, .int .u8 0, .int .u8 0, .int .u8 0, .int .u8 0, .int .u8 0, .int .u8 0, .int .u8 0, .int .u8 0, .int .u8 0, .int .u8 0] := ⟨_, rfl⟩
  obtain ⟨w3, hw3⟩ : ∃ w3, w3 = w2.drew.setCells gr (D * 64) vs := ⟨_, rfl⟩
  have y0 : w3.cell? ⟨w.heap.size, 0, none⟩ = some (.int .u8 2) := by rw [hw3, World.cell?_setCells_out gr vs _ _ _ (fun h => absurd h e3)]; exact x0
  have lvs : vs.length = 64 := by rw [hvs]; rfl
  have evs : vs = List.replicate 64 (.int .u8 0) := by rw [hvs]; rfl
  have hk3 := (hk2.drewN 1).farLay (Ne.symm n2) (D * 64) vs
  have hb3 := (hb2.drewN 1).farLay (Ne.symm n3) (D * 64) vs
  have hr3 := (hr2.drewN 1).lay (D * 64) vs (by rw [lvs, lr]; omega)
  have hx3 := (hx2.drewN 1).farLay e3 (D * 64) vs
  have hch3 := (hch2.drewN 1).lay (g := gr) (Or.inr (Or.inl rfl)) (D * 64) vs
  have ew3 : (w2.drewN 1).setCells gr (D * 64) vs = w3 := by rw [hw3]; rfl
  rw [ew3] at hk3 hb3 hr3 hx3 hch3
  rw [← hvs, ← hw3]
  clear hw3 hvs ew3 z1 z2 z3 d6 dx dth hth c6 x0 x1
  have x1 : w3.cell? ⟨w.heap.size, 1, none⟩ = some (.int .i64 (D : Int)) := hx3.cell 1
  have x2 : w3.cell? ⟨w.heap.size, 2, none⟩ = some (.int .i64 (S : Int)) := hx3.cell 2
  have k3 : w3.cell? ⟨gk, 3, none⟩ = some (.int .u64 (reads : Int)) := hk3.cell 3
  have k4 : w3.cell? ⟨gk, 4, none⟩ = some (.int .i64 (n : Int)) := hk3.cell 4
  have k6 : w3.cell? ⟨gk, 6, none⟩ = some (.slice (some ⟨gr, 0, none⟩) nr nr) := hk3.cell 6
  go_wp2_with fail
  by_cases hS : S < n
  · have s1 : decide ((S : Int) < (n : Int)) = true := decide_eq_true (by omega)
    have s2 : decide (S < n) = true := decide_eq_true hS
    by_cases hH : reads.testBit S = true
    · go_quiet (first | exact Calls.quiet_of_same (has_is reads S (by omega) hrd true hH _) | exact Calls.quiet_of_same (need_yes _))
      go_wp2_with fail
      have hcl : ∃ ob2, (w3.drewN nq).cell? ⟨gr, D * 64 + S, none⟩ = some ob2 := hr3.has (by rw [layAt_length _ _ _ (by rw [lvs, lr]; omega), lr]; omega)
      obtain ⟨ob2, hcl⟩ := hcl
      have hfr : (w3.drewN nq).frozen? ⟨gr, D * 64 + S, none⟩ = false := (hr3.drewN nq).frozen _
      have j0 : (0 : Int) ≤ (S : Int) := by omega
      have j1 : (S : Int) < 64 := by omega
      obtain ⟨w4, hw4⟩ : ∃ w4, w4 = w3.drewN nq := ⟨_, rfl⟩
      rw [← hw4] at hcl hfr
      have l6 : w4.cell? ⟨gk, 6, none⟩ = some (.slice (some ⟨gr, 0, none⟩) nr nr) := by rw [hw4]; exact k6
      have l1 : w4.cell? ⟨w.heap.size, 1, none⟩ = some (.int .i64 (D : Int)) := by rw [hw4]; exact x1
      have l2 : w4.cell? ⟨w.heap.size, 2, none⟩ = some (.int .i64 (S : Int)) := by rw [hw4]; exact x2
      have m6 : w4.drew.cell? ⟨gk, 6, none⟩ = some (.slice (some ⟨gr, 0, none⟩) nr nr) := l6
      have m1 : w4.drew.cell? ⟨w.heap.size, 1, none⟩ = some (.int .i64 (D : Int)) := l1
      have m2 : w4.drew.cell? ⟨w.heap.size, 2, none⟩ = some (.int .i64 (S : Int)) := l2
      have hk4 := hk3.drewN nq
      rw [← hw4] at hk4
      have hb4 := hb3.drewN nq
      rw [← hw4] at hb4
      have hr4 := hr3.drewN nq
      rw [← hw4] at hr4
      have hx4 := hx3.drewN nq
      rw [← hw4] at hx4
      have hch4 : Chg3 w.heap.size gs gr gk w w4 := by rw [hw4]; exact hch3.drewN _
      have y4 : w4.cell? ⟨w.heap.size, 0, none⟩ = some (.int .u8 2) := hx4.cell 0
      rw [← hw4]
      clear hw4 x1 x2 k3 k4 k6 y0 hk3 hb3 hr3 hx3 hch3
      have e3' : gr ≠ w.heap.size := Ne.symm e3
      go_region_held3 (fun x => x.cell? ⟨gk, 6, none⟩ = some (.slice (some ⟨gr, 0, none⟩) nr nr) ∧ x.cell? ⟨w.heap.size, 1, none⟩ = some (.int .i64 (D : Int)) ∧ x.cell? ⟨w.heap.size, 2, none⟩ = some (.int .i64 (S : Int))) (first | (with_reducible exact cs_keep3d ⟨l6, l1, l2⟩ n2 e3' e3') | (with_reducible exact cs_keep3 ⟨m6, m1, m2⟩ n2 e3' e3') | (with_reducible exact ⟨m6, m1, m2⟩) | (with_reducible exact ⟨l6, l1, l2⟩)) (fail)
      have hk5 := ((hk4.far (p := ⟨gr, D * 64 + S, none⟩) (Ne.symm n2) (.int .u8 1)).drewN 1)
      have hb5 := ((hb4.far (p := ⟨gr, D * 64 + S, none⟩) (Ne.symm n3) (.int .u8 1)).drewN 1)
      have hr5 := ((hr4.set (D * 64 + S) (.int .u8 1)).drewN 1)
      have hx5 := ((hx4.far (p := ⟨gr, D * 64 + S, none⟩) e3 (.int .u8 1)).drewN 1)
      have hch5 := ((hch4.set (g := gr) (Or.inr (Or.inl rfl)) (D * 64 + S) (.int .u8 1)).drewN 1)
      obtain ⟨w5, hw5⟩ : ∃ w5, w5 = (w4.setCell ⟨gr, D * 64 + S, none⟩ (.int .u8 1)).drewN 1 := ⟨_, rfl⟩
      rw [← hw5] at hk5 hb5 hr5 hx5 hch5
      have hw5' : (w4.setCell ⟨gr, D * 64 + S, none⟩ (.int .u8 1)).drew = w5 := hw5.symm
      rw [hw5']
      clear hw5 hw5' hk4 hb4 hr4 hx4 hch4 y4 l6 l1 l2 m6 m1 m2 hcl hfr
      have x2 : w5.cell? ⟨w.heap.size, 2, none⟩ = some (.int .i64 (S : Int)) := hx5.cell 2
      have x0 : w5.cell? ⟨w.heap.size, 0, none⟩ = some (.int .u8 2) := hx5.cell 0
      have k10 : w5.cell? ⟨gk, 10, none⟩ = some (.int .u64 (loads : Int)) := hk5.cell 10
      have f10 : w5.frozen? ⟨gk, 10, none⟩ = false := hk5.frozen 10
      go_wp2_with fail
      go_region
      have hk6 := (hk5.set 10 (.int .u64 (bits BinOp.or IntKind.u64 (loads : Int) (IntKind.u64.wrap (2 ^ S))))).drewN 1
      have hb6 := ((hb5.far (p := ⟨gk, 10, none⟩) n1 (.int .u64 (bits BinOp.or IntKind.u64 (loads : Int) (IntKind.u64.wrap (2 ^ S))))).drewN 1)
      have hr6 := ((hr5.far (p := ⟨gk, 10, none⟩) n2 (.int .u64 (bits BinOp.or IntKind.u64 (loads : Int) (IntKind.u64.wrap (2 ^ S))))).drewN 1)
      have hx6 := ((hx5.far (p := ⟨gk, 10, none⟩) (Ne.symm e2) (.int .u64 (bits BinOp.or IntKind.u64 (loads : Int) (IntKind.u64.wrap (2 ^ S))))).drewN 1)
      have hch6 := ((hch5.set (g := gk) (Or.inr (Or.inr (Or.inl rfl))) 10 (.int .u64 (bits BinOp.or IntKind.u64 (loads : Int) (IntKind.u64.wrap (2 ^ S))))).drewN 1)
      obtain ⟨w6, hw6⟩ : ∃ w6, w6 = (w5.setCell ⟨gk, 10, none⟩ (.int .u64 (bits BinOp.or IntKind.u64 (loads : Int) (IntKind.u64.wrap (2 ^ S))))).drewN 1 := ⟨_, rfl⟩
      rw [← hw6] at hk6 hb6 hr6 hx6 hch6
      have hw6' : (w5.setCell ⟨gk, 10, none⟩ (.int .u64 (bits BinOp.or IntKind.u64 (loads : Int) (IntKind.u64.wrap (2 ^ S))))).drew = w6 := hw6.symm
      rw [hw6']
      clear hw6 hw6'
      have x0 : w6.cell? ⟨w.heap.size, 0, none⟩ = some (.int .u8 2) := hx6.cell 0
      rw [or_bit loads S (by omega) hld] at hk6
      clear x2 k10 f10 hk5 hb5 hr5 hx5 hch5
      go_wp2_with fail
      go_end0
      refine ⟨fun _ => ⟨rfl, hk6, by rw [bolVs, List.map_set]; exact hb6, ?_, hch6⟩, fun h => absurd ⟨hS, hH⟩ h⟩
      rw [evs] at hr6
      have e7 : (layAt rs (D * 64) (List.replicate 64 (.int .u8 0))).set (D * 64 + S) (.int .u8 1) = layAt rs (D * 64) ((List.replicate 64 (.int .u8 0)).set S (.int .u8 1)) := by
        unfold layAt
        rw [List.length_set, List.length_replicate, List.set_append_left _ _ (by simp [lr]; omega), List.set_append_right _ _ (by simp [lr]; omega), List.length_take, lr, Nat.min_eq_left (by omega), show D * 64 + S - D * 64 = S by omega]
      rw [e7] at hr6
      exact hr6
    · refine wp_region_held_drew (S := (fun x => x.cell? ⟨w.heap.size, 2, none⟩ = some (.int .i64 (S : Int)) ∧ x.cell? ⟨gk, 3, none⟩ = some (.int .u64 (reads : Int)) ∧ x.cell? ⟨gk, 4, none⟩ = some (.int .i64 (n : Int)))) (by kernel_rfl) ⟨x2, k3, k4⟩ (fun hHeld => ?_)
      refine wpAnyH_take (i := 0) (v := ?_) rfl (by kernel_rfl) (by kernel_rfl) (by kernel_rfl) (fun _ _ _ h => h) (Or.inl ⟨by kernel_rfl, ?_⟩) (by assumption) ?_
      rotate_left
      · (intro w hSw; (try dsimp only at hSw); go_simp; (try with_reducible rfl))
      try simp only [List.getElem_toArray, List.getElem_cons_succ, List.getElem_cons_zero, Act.put, List.setIfInBounds_toArray, List.set_cons_zero, List.set_cons_succ]
      refine wpAnyH_take (i := 1) (v := ?_) rfl (by kernel_rfl) (by kernel_rfl) (by kernel_rfl) (fun _ _ _ h => h) (Or.inl ⟨by kernel_rfl, ?_⟩) (by assumption) ?_
      rotate_left
      · (intro w hSw; (try dsimp only at hSw); go_simp; (try with_reducible rfl))
      try simp only [List.getElem_toArray, List.getElem_cons_succ, List.getElem_cons_zero, Act.put, List.setIfInBounds_toArray, List.set_cons_zero, List.set_cons_succ]
      refine wpAnyH_take (i := 2) (v := ?_) rfl (by kernel_rfl) (by kernel_rfl) (by kernel_rfl) (fun _ _ _ h => h) (Or.inl ⟨by kernel_rfl, ?_⟩) (by assumption) ?_
      rotate_left
      · (intro w hSw; (try dsimp only at hSw); go_simp; (try with_reducible rfl))
      try simp only [List.getElem_toArray, List.getElem_cons_succ, List.getElem_cons_zero, Act.put, List.setIfInBounds_toArray, List.set_cons_zero, List.set_cons_succ]
      refine wpAnyH_take (i := 3) (v := ?_) rfl (by kernel_rfl) (by kernel_rfl) (by kernel_rfl) (fun _ _ _ h => h) (Or.inl ⟨by kernel_rfl, ?_⟩) (by assumption) ?_
      rotate_left
      · (intro w hSw; (try dsimp only at hSw); go_simp; (try with_reducible rfl))
      try simp only [List.getElem_toArray, List.getElem_cons_succ, List.getElem_cons_zero, Act.put, List.setIfInBounds_toArray, List.set_cons_zero, List.set_cons_succ]
      refine wpAnyH_take (i := 4) (v := ?_) rfl (by kernel_rfl) (by kernel_rfl) (by kernel_rfl) (fun _ _ _ h => h) (Or.inl ⟨by kernel_rfl, ?_⟩) (by assumption) ?_
      rotate_left
      · (intro w hSw; (try dsimp only at hSw); go_simp; (try with_reducible rfl))
      try simp only [List.getElem_toArray, List.getElem_cons_succ, List.getElem_cons_zero, Act.put, List.setIfInBounds_toArray, List.set_cons_zero, List.set_cons_succ]
      refine wpAnyH_take (i := 5) (v := ?_) rfl (by kernel_rfl) (by kernel_rfl) (by kernel_rfl) (fun _ _ _ h => h) (Or.inl ⟨by kernel_rfl, ?_⟩) (by assumption) ?_
      rotate_left
      · (intro w hSw; (try dsimp only at hSw); go_simp; (try with_reducible rfl))
      try simp only [List.getElem_toArray, List.getElem_cons_succ, List.getElem_cons_zero, Act.put, List.setIfInBounds_toArray, List.set_cons_zero, List.set_cons_succ]
      refine wpAnyH_take (i := 6) (v := ?_) rfl (by kernel_rfl) (by kernel_rfl) (by kernel_rfl) (fun _ _ _ h => h) (Or.inl ⟨by kernel_rfl, ?_⟩) (by assumption) ?_
      rotate_left
      · (intro w hSw; (try dsimp only at hSw); go_simp; (try with_reducible rfl))
      try simp only [List.getElem_toArray, List.getElem_cons_succ, List.getElem_cons_zero, Act.put, List.setIfInBounds_toArray, List.set_cons_zero, List.set_cons_succ]
      refine wpAnyH_take (i := 7) (v := ?_) rfl (by kernel_rfl) (by kernel_rfl) (by kernel_rfl) (fun _ _ _ h => h) (Or.inl ⟨by kernel_rfl, ?_⟩) (by assumption) ?_
      rotate_left
      · (intro w hSw; (try dsimp only at hSw); go_simp; (try with_reducible rfl))
      try simp only [List.getElem_toArray, List.getElem_cons_succ, List.getElem_cons_zero, Act.put, List.setIfInBounds_toArray, List.set_cons_zero, List.set_cons_succ]
      refine wpAnyH_take (i := 8) (v := ?_) rfl (by kernel_rfl) (by kernel_rfl) (by kernel_rfl) (fun _ _ _ h => h) (Or.inl ⟨by kernel_rfl, ?_⟩) (by assumption) ?_
      rotate_left
      · (intro w hSw; (try dsimp only at hSw); go_simp; (try with_reducible rfl))
      try simp only [List.getElem_toArray, List.getElem_cons_succ, List.getElem_cons_zero, Act.put, List.setIfInBounds_toArray, List.set_cons_zero, List.set_cons_succ]
      refine wpAnyH_take (i := 9) (v := ?_) rfl (by kernel_rfl) (by kernel_rfl) (by kernel_rfl) (fun _ _ _ h => h) (Or.inl ⟨by kernel_rfl, ?_⟩) (by assumption) ?_
      rotate_left
      · (intro w hSw; (try dsimp only at hSw); go_simp; (try with_reducible rfl))
      try simp only [List.getElem_toArray, List.getElem_cons_succ, List.getElem_cons_zero, Act.put, List.setIfInBounds_toArray, List.set_cons_zero, List.set_cons_succ]
      refine wpAnyH_take (i := 10) (v := ?_) rfl (by kernel_rfl) (by kernel_rfl) (by kernel_rfl) (fun _ _ _ h => h) (Or.inl ⟨by kernel_rfl, ?_⟩) (by assumption) ?_
      rotate_left
      · (intro w hSw; (try dsimp only at hSw); go_simp; (try with_reducible rfl))
      try simp only [List.getElem_toArray, List.getElem_cons_succ, List.getElem_cons_zero, Act.put, List.setIfInBounds_toArray, List.set_cons_zero, List.set_cons_succ]
      refine wpAnyH_take (i := 11) (v := ?_) rfl (by kernel_rfl) (by kernel_rfl) (by kernel_rfl) (fun _ _ _ h => h) (Or.inl ⟨by kernel_rfl, ?_⟩) (by assumption) ?_
      rotate_left
      · (intro w hSw; (try dsimp only at hSw); go_simp; (try with_reducible rfl))
      try simp only [List.getElem_toArray, List.getElem_cons_succ, List.getElem_cons_zero, Act.put, List.setIfInBounds_toArray, List.set_cons_zero, List.set_cons_succ]
      refine wpAnyH_take (i := 12) (v := ?_) rfl (by kernel_rfl) (by kernel_rfl) (by kernel_rfl) (fun _ _ _ h => h) (Or.inl ⟨by kernel_rfl, ?_⟩) (by assumption) ?_
      rotate_left
      · (intro w hSw; (try dsimp only at hSw); go_simp; (try with_reducible rfl))
      try simp only [List.getElem_toArray, List.getElem_cons_succ, List.getElem_cons_zero, Act.put, List.setIfInBounds_toArray, List.set_cons_zero, List.set_cons_succ]
      refine wpAnyH_take (i := 13) (v := ?_) rfl (by kernel_rfl) (by kernel_rfl) (by kernel_rfl) (fun _ _ _ h => h) (Or.inl ⟨by kernel_rfl, ?_⟩) (by assumption) ?_
      rotate_left
      · (intro w hSw; (try dsimp only at hSw); go_simp; (try with_reducible rfl))
      try simp only [List.getElem_toArray, List.getElem_cons_succ, List.getElem_cons_zero, Act.put, List.setIfInBounds_toArray, List.set_cons_zero, List.set_cons_succ]
      refine wpAnyH_take (i := 14) (v := ?_) rfl (by kernel_rfl) (by kernel_rfl) (by kernel_rfl) (fun _ _ _ h => h) (Or.inl ⟨by kernel_rfl, ?_⟩) (by assumption) ?_
      rotate_left
      · (intro w hSw; (try dsimp only at hSw); go_simp; (try with_reducible rfl))
      try simp only [List.getElem_toArray, List.getElem_cons_succ, List.getElem_cons_zero, Act.put, List.setIfInBounds_toArray, List.set_cons_zero, List.set_cons_succ]
      refine wpAnyH_ready (rs := [15]) (by kernel_rfl) (by simp) ?_
      refine AllReadyH.cons rfl (fun K hK => ?_) AllReadyH.nil
      go_simp
      refine (has_is reads S (by omega) hrd false (by simpa using hH) _).mono ?_
      rintro e w' ⟨rfl, rfl⟩
      refine hK.out _ _ hHeld (fun hHeld => ?_)
      clear hK K
      try simp only [List.getElem_toArray, List.getElem_cons_succ, List.getElem_cons_zero, Act.put, List.setIfInBounds_toArray, List.set_cons_zero, List.set_cons_succ]
      refine wpAnyH_take (i := 16) (v := ?_) rfl (by kernel_rfl) (by kernel_rfl) (by kernel_rfl) (fun _ _ _ h => h) (Or.inl ⟨by kernel_rfl, ?_⟩) (by assumption) ?_
      rotate_left
      · (intro w hSw; (try dsimp only at hSw); go_simp; (try with_reducible rfl))
      try simp only [List.getElem_toArray, List.getElem_cons_succ, List.getElem_cons_zero, Act.put, List.setIfInBounds_toArray, List.set_cons_zero, List.set_cons_succ]
      refine wpAnyH_ready (rs := [17]) (by kernel_rfl) (by simp) ?_
      refine AllReadyH.cons rfl (fun K hK => ?_) AllReadyH.nil
      go_simp
      refine (need_no _).mono ?_
      rintro e w' ⟨rfl, rfl⟩
      exact ⟨rfl, fun h => absurd h.2 hH, fun _ => ⟨rfl, hk3.drewN _, hch3.drewN _⟩⟩
  · have s1 : decide ((S : Int) < (n : Int)) = false := decide_eq_false (by omega)
    have s2 : decide (S < n) = false := decide_eq_false hS
    refine wp_region_held_drew (S := (fun x => x.cell? ⟨w.heap.size, 2, none⟩ = some (.int .i64 (S : Int)) ∧ x.cell? ⟨gk, 4, none⟩ = some (.int .i64 (n : Int)))) (by kernel_rfl) ⟨x2, k4⟩ (fun hHeld => ?_)
    refine wpAnyH_take (i := 0) (v := ?_) rfl (by kernel_rfl) (by kernel_rfl) (by kernel_rfl) (fun _ _ _ h => h) (Or.inl ⟨by kernel_rfl, ?_⟩) (by assumption) ?_
    rotate_left
    · (intro w hSw; (try dsimp only at hSw); go_simp; (try with_reducible rfl))
    try simp only [List.getElem_toArray, List.getElem_cons_succ, List.getElem_cons_zero, Act.put, List.setIfInBounds_toArray, List.set_cons_zero, List.set_cons_succ]
    refine wpAnyH_take (i := 1) (v := ?_) rfl (by kernel_rfl) (by kernel_rfl) (by kernel_rfl) (fun _ _ _ h => h) (Or.inl ⟨by kernel_rfl, ?_⟩) (by assumption) ?_
    rotate_left
    · (intro w hSw; (try dsimp only at hSw); go_simp; (try with_reducible rfl))
    try simp only [List.getElem_toArray, List.getElem_cons_succ, List.getElem_cons_zero, Act.put, List.setIfInBounds_toArray, List.set_cons_zero, List.set_cons_succ]
    refine wpAnyH_take (i := 2) (v := ?_) rfl (by kernel_rfl) (by kernel_rfl) (by kernel_rfl) (fun _ _ _ h => h) (Or.inl ⟨by kernel_rfl, ?_⟩) (by assumption) ?_
    rotate_left
    · (intro w hSw; (try dsimp only at hSw); go_simp; (try with_reducible rfl))
    try simp only [List.getElem_toArray, List.getElem_cons_succ, List.getElem_cons_zero, Act.put, List.setIfInBounds_toArray, List.set_cons_zero, List.set_cons_succ]
    refine wpAnyH_take (i := 3) (v := ?_) rfl (by kernel_rfl) (by kernel_rfl) (by kernel_rfl) (fun _ _ _ h => h) (Or.inl ⟨by kernel_rfl, ?_⟩) (by assumption) ?_
    rotate_left
    · (intro w hSw; (try dsimp only at hSw); go_simp; (try with_reducible rfl))
    try simp only [List.getElem_toArray, List.getElem_cons_succ, List.getElem_cons_zero, Act.put, List.setIfInBounds_toArray, List.set_cons_zero, List.set_cons_succ]
    refine wpAnyH_take (i := 4) (v := ?_) rfl (by kernel_rfl) (by kernel_rfl) (by kernel_rfl) (fun _ _ _ h => h) (Or.inl ⟨by kernel_rfl, ?_⟩) (by assumption) ?_
    rotate_left
    · (intro w hSw; (try dsimp only at hSw); go_simp; (try with_reducible rfl))
    try simp only [List.getElem_toArray, List.getElem_cons_succ, List.getElem_cons_zero, Act.put, List.setIfInBounds_toArray, List.set_cons_zero, List.set_cons_succ]
    refine wpAnyH_take (i := 5) (v := ?_) rfl (by kernel_rfl) (by kernel_rfl) (by kernel_rfl) (fun _ _ _ h => h) (Or.inl ⟨by kernel_rfl, ?_⟩) (by assumption) ?_
    rotate_left
    · (intro w hSw; (try dsimp only at hSw); go_simp; (try with_reducible rfl))
    try simp only [List.getElem_toArray, List.getElem_cons_succ, List.getElem_cons_zero, Act.put, List.setIfInBounds_toArray, List.set_cons_zero, List.set_cons_succ]
    refine wpAnyH_take (i := 6) (v := ?_) rfl (by kernel_rfl) (by kernel_rfl) (by kernel_rfl) (fun _ _ _ h => h) (Or.inl ⟨by kernel_rfl, ?_⟩) (by assumption) ?_
    rotate_left
    · (intro w hSw; (try dsimp only at hSw); go_simp; (try with_reducible rfl))
    try simp only [List.getElem_toArray, List.getElem_cons_succ, List.getElem_cons_zero, Act.put, List.setIfInBounds_toArray, List.set_cons_zero, List.set_cons_succ]
    refine wpAnyH_take (i := 7) (v := ?_) rfl (by kernel_rfl) (by kernel_rfl) (by kernel_rfl) (fun _ _ _ h => h) (Or.inl ⟨by kernel_rfl, ?_⟩) (by assumption) ?_
    rotate_left
    · (intro w hSw; (try dsimp only at hSw); go_simp; (try with_reducible rfl))
    try simp only [List.getElem_toArray, List.getElem_cons_succ, List.getElem_cons_zero, Act.put, List.setIfInBounds_toArray, List.set_cons_zero, List.set_cons_succ]
    refine wpAnyH_take (i := 8) rfl (by kernel_rfl) (by kernel_rfl) (by kernel_rfl) (fun _ _ _ h => h) (Or.inr ⟨by kernel_rfl, rfl⟩) (by assumption) ?_
    try simp only [List.getElem_toArray, List.getElem_cons_succ, List.getElem_cons_zero, Act.put, List.setIfInBounds_toArray, List.set_cons_zero, List.set_cons_succ]
    refine wpAnyH_take (i := 9) rfl (by kernel_rfl) (by kernel_rfl) (by kernel_rfl) (fun _ _ _ h => h) (Or.inr ⟨by kernel_rfl, rfl⟩) (by assumption) ?_
    try simp only [List.getElem_toArray, List.getElem_cons_succ, List.getElem_cons_zero, Act.put, List.setIfInBounds_toArray, List.set_cons_zero, List.set_cons_succ]
    refine wpAnyH_take (i := 10) rfl (by kernel_rfl) (by kernel_rfl) (by kernel_rfl) (fun _ _ _ h => h) (Or.inr ⟨by kernel_rfl, rfl⟩) (by assumption) ?_
    try simp only [List.getElem_toArray, List.getElem_cons_succ, List.getElem_cons_zero, Act.put, List.setIfInBounds_toArray, List.set_cons_zero, List.set_cons_succ]
    refine wpAnyH_take (i := 11) rfl (by kernel_rfl) (by kernel_rfl) (by kernel_rfl) (fun _ _ _ h => h) (Or.inr ⟨by kernel_rfl, rfl⟩) (by assumption) ?_
    try simp only [List.getElem_toArray, List.getElem_cons_succ, List.getElem_cons_zero, Act.put, List.setIfInBounds_toArray, List.set_cons_zero, List.set_cons_succ]
    refine wpAnyH_take (i := 12) rfl (by kernel_rfl) (by kernel_rfl) (by kernel_rfl) (fun _ _ _ h => h) (Or.inr ⟨by kernel_rfl, rfl⟩) (by assumption) ?_
    try simp only [List.getElem_toArray, List.getElem_cons_succ, List.getElem_cons_zero, Act.put, List.setIfInBounds_toArray, List.set_cons_zero, List.set_cons_succ]
    refine wpAnyH_take (i := 13) rfl (by kernel_rfl) (by kernel_rfl) (by kernel_rfl) (fun _ _ _ h => h) (Or.inr ⟨by kernel_rfl, rfl⟩) (by assumption) ?_
    try simp only [List.getElem_toArray, List.getElem_cons_succ, List.getElem_cons_zero, Act.put, List.setIfInBounds_toArray, List.set_cons_zero, List.set_cons_succ]
    refine wpAnyH_take (i := 14) rfl (by kernel_rfl) (by kernel_rfl) (by kernel_rfl) (fun _ _ _ h => h) (Or.inr ⟨by kernel_rfl, rfl⟩) (by assumption) ?_
    try simp only [List.getElem_toArray, List.getElem_cons_succ, List.getElem_cons_zero, Act.put, List.setIfInBounds_toArray, List.set_cons_zero, List.set_cons_succ]
    refine wpAnyH_take (i := 15) rfl (by kernel_rfl) (by kernel_rfl) (by kernel_rfl) (fun _ _ _ h => h) (Or.inr ⟨by kernel_rfl, rfl⟩) (by assumption) ?_
    try simp only [List.getElem_toArray, List.getElem_cons_succ, List.getElem_cons_zero, Act.put, List.setIfInBounds_toArray, List.set_cons_zero, List.set_cons_succ]
    refine wpAnyH_take (i := 16) (v := ?_) rfl (by kernel_rfl) (by kernel_rfl) (by kernel_rfl) (fun _ _ _ h => h) (Or.inl ⟨by kernel_rfl, ?_⟩) (by assumption) ?_
    rotate_left
    · (intro w hSw; (try dsimp only at hSw); go_simp; (try with_reducible rfl))
    try simp only [List.getElem_toArray, List.getElem_cons_succ, List.getElem_cons_zero, Act.put, List.setIfInBounds_toArray, List.set_cons_zero, List.set_cons_succ]
    refine wpAnyH_ready (rs := [17]) (by kernel_rfl) (by simp) ?_
    refine AllReadyH.cons rfl (fun K hK => ?_) AllReadyH.nil
    go_simp
    refine (need_no _).mono ?_
    rintro e w' ⟨rfl, rfl⟩
    exact ⟨rfl, fun h => absurd h.1 hS, fun _ => ⟨rfl, hk3.drewN _, hch3.drewN _⟩⟩
end Go.Proofs.Ythbjcafldbocpaa
