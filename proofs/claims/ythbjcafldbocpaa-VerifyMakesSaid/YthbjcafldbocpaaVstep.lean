/- The walk of looker.step. -/
import Derived.Test.YthbjcafldbocpaaVreg
import Derived.Test.YthbjcafldbocpaaMem
import Derived.Deep.RegionHeld3
import Derived.BigQuiet
import Derived.Test.YthbjcafldbocpaaVcell
namespace Go.Proofs.Ythbjcafldbocpaa
open Go.RowKit
set_option linter.unusedVariables false
set_option linter.unusedSimpArgs false

/-- the cells of a looker -/
def lkV (AS : Option Addr) (nS cS : Nat) (nr no reads n at_ gr gs go gd loads : Nat) : List Value :=
  [.slice AS nS cS, .int .i64 (nr : Int), .int .i64 (no : Int), .int .u64 (reads : Int), .int .i64 (n : Int), .int .i64 (at_ : Int), .slice (some ⟨gr, 0, none⟩) nr nr, .slice (some ⟨gs, 0, none⟩) nr nr, .slice (some ⟨go, 0, none⟩) no no, .slice (some ⟨gd, 0, none⟩) no no, .int .u64 (loads : Int)]
def bolVs (bs : List Bool) : List Value := bs.map .bool
/-- sixty-four zeros, written out -/
theorem zs_one : ∀ v ∈ ([.int .u8 0, .int .u8 0, .int .u8 0, .int .u8 0, .int .u8 0, .int .u8 0, .int .u8 0, .int .u8 0, .int .u8 0, .int .u8 0, .int .u8 0, .int .u8 0, .int .u8 0, .int .u8 0, .int .u8 0, .int .u8 0, .int .u8 0, .int .u8 0, .int .u8 0, .int .u8 0, .int .u8 0, .int .u8 0, .int .u8 0, .int .u8 0, .int .u8 0, .int .u8 0, .int .u8 0, .int .u8 0, .int .u8 0, .int .u8 0, .int .u8 0, .int .u8 0, .int .u8 0, .int .u8 0, .int .u8 0, .int .u8 0, .int .u8 0, .int .u8 0, .int .u8 0, .int .u8 0, .int .u8 0, .int .u8 0, .int .u8 0, .int .u8 0, .int .u8 0, .int .u8 0, .int .u8 0, .int .u8 0, .int .u8 0, .int .u8 0, .int .u8 0, .int .u8 0, .int .u8 0, .int .u8 0, .int .u8 0, .int .u8 0, .int .u8 0, .int .u8 0, .int .u8 0, .int .u8 0, .int .u8 0, .int .u8 0, .int .u8 0, .int .u8 0] : List Value), v.oneCell' = true := by
  intro v hv
  have : v ∈ List.replicate 64 (Value.int .u8 0) := hv
  rw [List.eq_of_mem_replicate this]
  rfl
theorem zs_info : (Try.prog.info? 87).map (·.size) = some ([.int .u8 0, .int .u8 0, .int .u8 0, .int .u8 0, .int .u8 0, .int .u8 0, .int .u8 0, .int .u8 0, .int .u8 0, .int .u8 0, .int .u8 0, .int .u8 0, .int .u8 0, .int .u8 0, .int .u8 0, .int .u8 0, .int .u8 0, .int .u8 0, .int .u8 0, .int .u8 0, .int .u8 0, .int .u8 0, .int .u8 0, .int .u8 0, .int .u8 0, .int .u8 0, .int .u8 0, .int .u8 0, .int .u8 0, .int .u8 0, .int .u8 0, .int .u8 0, .int .u8 0, .int .u8 0, .int .u8 0, .int .u8 0, .int .u8 0, .int .u8 0, .int .u8 0, .int .u8 0, .int .u8 0, .int .u8 0, .int .u8 0, .int .u8 0, .int .u8 0, .int .u8 0, .int .u8 0, .int .u8 0, .int .u8 0, .int .u8 0, .int .u8 0, .int .u8 0, .int .u8 0, .int .u8 0, .int .u8 0, .int .u8 0, .int .u8 0, .int .u8 0, .int .u8 0, .int .u8 0, .int .u8 0, .int .u8 0, .int .u8 0, .int .u8 0] : List Value).length := by kernel_rfl
theorem sc_keep {W : World} {gk gr b2 o n i j : Nat} {v1 v2 : Value} (h : W.cell? ⟨gk, i, none⟩ = some v1 ∧ W.cell? ⟨b2, j, none⟩ = some v2 ∧ W.there gr o n) (n2 : gr ≠ gk) (e3 : b2 ≠ gr) (o' : Nat) (vs : List Value) :
    (W.setCells gr o' vs).cell? ⟨gk, i, none⟩ = some v1 ∧ (W.setCells gr o' vs).cell? ⟨b2, j, none⟩ = some v2 ∧ (W.setCells gr o' vs).there gr o n :=
  ⟨(World.cell?_setCells_out gr vs o' W ⟨gk, i, none⟩ (fun h => absurd h.symm n2)).trans h.1, (World.cell?_setCells_out gr vs o' W ⟨b2, j, none⟩ (fun h => absurd h e3)).trans h.2.1, World.there_setCells h.2.2 _ _ _⟩
set_option maxHeartbeats 4000000 in
set_option maxRecDepth 100000 in
theorem step_clear (gk gr gs go gd nr no reads n at_ loads nS cS : Nat) (AS : Option Addr) (D S : Nat) (C : UInt8) (bs : List Bool) (rs : List Value) (w : World)
    (hk : Row w gk 82 (lkV AS nS cS nr no reads n at_ gr gs go gd loads)) (hb : Row w gs 4 (bolVs bs)) (hr : Row w gr 87 rs) (lb : bs.length = nr) (lr : rs.length = nr * 64) (hD : D < nr) (n1 : gs ≠ gk) (n2 : gr ≠ gk) (n3 : gr ≠ gs) :
    Calls Try.prog 64 #[.pointer (some ⟨gk, 0, none⟩), .agg #[.int .u8 1, .int .i64 (D : Int), .int .i64 (S : Int), .int .u8 (C.toNat : Int)]] w fun e w' => e = .returned (.tuple #[]) ∧ Row w' gk 82 (lkV AS nS cS nr no reads n at_ gr gs go gd loads) ∧ Row w' gs 4 (bolVs (bs.set D true)) ∧ Row w' gr 87 (layAt rs (D * 64) (List.replicate 64 (.int .u8 0))) ∧ Chg3 w.heap.size gs gr gr w w' := by
  have h1 : decide ((D : Int) < (nr : Int)) = true := decide_eq_true (by omega)
  go_enter Try.func64, Try.ntmps64
  go_wp2_with fail
  obtain ⟨w1, hw1⟩ : ∃ w1, w1 = w.alloc (.cells #[.int .u8 1, .int .i64 (D : Int), .int .i64 (S : Int), .int .u8 (C.toNat : Int)] 59) := ⟨_, rfl⟩
  have q : Below w.heap.size w w1 := by rw [hw1]; exact (Below.refl _ _).alloc (Nat.le_refl _) _
  have hx : Row w1 w.heap.size 59 [.int .u8 1, .int .i64 (D : Int), .int .i64 (S : Int), .int .u8 (C.toNat : Int)] := by rw [hw1]; exact Row.new w _ _
  have hk1 := hk.below q hk.lt
  have hb1 := hb.below q hb.lt
  have hr1 := hr.below q hr.lt
  rw [← hw1]
  clear hw1
  have x0 : w1.cell? ⟨w.heap.size, 0, none⟩ = some (.int .u8 1) := hx.cell 0
  have x1 : w1.cell? ⟨w.heap.size, 1, none⟩ = some (.int .i64 (D : Int)) := hx.cell 1
  have c1 : w1.cell? ⟨gk, 1, none⟩ = some (.int .i64 (nr : Int)) := hk1.cell 1
  have c6 : w1.cell? ⟨gk, 6, none⟩ = some (.slice (some ⟨gr, 0, none⟩) nr nr) := hk1.cell 6
  have c7 : w1.cell? ⟨gk, 7, none⟩ = some (.slice (some ⟨gs, 0, none⟩) nr nr) := hk1.cell 7
  have i0 : (0 : Int) ≤ (D : Int) := by omega
  have i1 : (D : Int) < (nr : Int) := by omega
  have e1 : gs ≠ w.heap.size := by have := hb.lt; omega
  have e2 : gk ≠ w.heap.size := by have := hk.lt; omega
  obtain ⟨ob, ho⟩ : ∃ ob, w1.cell? ⟨gs, D, none⟩ = some ob := hb1.has (by simp [bolVs, lb]; omega)
  have hf : w1.frozen? ⟨gs, D, none⟩ = false := hb1.frozen D
  go_quiet (exact Calls.quiet_of_same (need_yes _))
  go_wp2_with fail
  go_region_held3 (fun x => x.cell? ⟨gk, 7, none⟩ = some (.slice (some ⟨gs, 0, none⟩) nr nr) ∧ x.cell? ⟨w.heap.size, 1, none⟩ = some (.int .i64 (D : Int))) (go_keep) (fail)
  obtain ⟨w2, hw2⟩ : ∃ w2, w2 = (w1.drewN (nq + 1)).setCell ⟨gs, D, none⟩ (.bool true) := ⟨_, rfl⟩
  have hk2 := (hk1.drewN (nq + 1)).far (p := ⟨gs, D, none⟩) (Ne.symm n1) (.bool true)
  rw [← hw2] at hk2
  have hb2 := (hb1.drewN (nq + 1)).set D (.bool true)
  rw [← hw2] at hb2
  have hr2 := (hr1.drewN (nq + 1)).far (p := ⟨gs, D, none⟩) n3 (.bool true)
  rw [← hw2] at hr2
  have hx2 := (hx.drewN (nq + 1)).far (p := ⟨gs, D, none⟩) (Ne.symm e1) (.bool true)
  rw [← hw2] at hx2
  have q2 : w.heap.size ≤ w2.heap.size := by have := hx2.lt; omega
  have hch2 : Chg3 w.heap.size gs gr gr w w2 := by rw [hw2]; exact ((Chg3.of_below q).drewN _).set (Or.inl rfl) _ _
  rw [← hw2]
  clear hw2 x0 x1 c1 c6 c7 ho hf
  have x0 : w2.cell? ⟨w.heap.size, 0, none⟩ = some (.int .u8 1) := hx2.cell 0
  have x1 : w2.cell? ⟨w.heap.size, 1, none⟩ = some (.int .i64 (D : Int)) := hx2.cell 1
  have c6 : w2.cell? ⟨gk, 6, none⟩ = some (.slice (some ⟨gr, 0, none⟩) nr nr) := hk2.cell 6
  have hth : w2.there gr (D * 64) 64 := fun j hj => ⟨by rw [hr2.cell, List.getElem?_eq_getElem (by omega)]; rfl, hr2.frozen _⟩
  go_wp2_with fail
  have e3 : w.heap.size ≠ gr := by have := hr.lt; omega
  have d6 : w2.drew.cell? ⟨gk, 6, none⟩ = some (.slice (some ⟨gr, 0, none⟩) nr nr) := c6
  have dx : w2.drew.cell? ⟨w.heap.size, 1, none⟩ = some (.int .i64 (D : Int)) := x1
  have dth : w2.drew.there gr (D * 64) 64 := hth
  have z1 := zs_one
  have z2 := zs_info
  have z3 : Try.prog.underlying 87 = some (.array 64 5) := by kernel_rfl
  go_region_held3 (fun x => x.cell? ⟨gk, 6, none⟩ = some (.slice (some ⟨gr, 0, none⟩) nr nr) ∧ x.cell? ⟨w.heap.size, 1, none⟩ = some (.int .i64 (D : Int)) ∧ x.there gr (D * 64) 64) (first | (with_reducible exact sc_keep ⟨d6, dx, dth⟩ n2 e3 _ _) | (with_reducible exact ⟨d6, dx, dth⟩) | (with_reducible exact ⟨c6, x1, hth⟩)) (fail)
  obtain ⟨vs, hvs⟩ : ∃ vs : List Value, vs = [.int .u8 0, .int .u8 0, .int .u8 0, .int .u8 0, .int .u8 0, .int .u8 0, .int .u8 0, .int .u8 0, .int .u8 0, .int .u8 0, .int .u8 0, .int .u8 0, .int .u8 0, .int .u8 0, .int .u8 0, .int .u8 0, .int .u8 0, .int .u8 0, .int .u8 0, .int .u8 0, .int .u8 0, .int .u8 0, .int .u8 0, .int .u8 0, .int .u8 0, .int .u8 0, .int .u8 0, .int .u8 0, .int .u8 0, .int .u8 0, .int .u8 0, .int .u8 0, .int .u8 0, .int .u8 0, .int .u8 0, .int .u8 0, .int .u8 0, .int .u8 0, .int .u8 0, .int .u8 0, .int .u8 0, .int .u8 0, .int .u8 0, .int .u8 0, .int .u8 0, .int .u8 0, .int .u8 0, .int .u8 0, .int .u8 0, .int .u8 0, .int .u8 0, .int .u8 0, .int .u8 0, .int .u8 0, .int .u8 0, .int .u8 0, .int .u8 0, .int .u8 0, .int .u8 0, .int .u8 0, .int .u8 0, .int .u8 0, .int .u8 0, .int .u8 0] := ⟨_, rfl⟩
  obtain ⟨w3, hw3⟩ : ∃ w3, w3 = w2.drew.setCells gr (D * 64) vs := ⟨_, rfl⟩
  have y0 : w3.cell? ⟨w.heap.size, 0, none⟩ = some (.int .u8 1) := by rw [hw3, World.cell?_setCells_out gr vs _ _ _ (fun h => absurd h e3)]; exact x0
  have lvs : vs.length = 64 := by rw [hvs]; rfl
  have evs : vs = List.replicate 64 (.int .u8 0) := by rw [hvs]; rfl
  have hk3 := (hk2.drewN 1).farLay (Ne.symm n2) (D * 64) vs
  have hb3 := (hb2.drewN 1).farLay (Ne.symm n3) (D * 64) vs
  have hr3 := (hr2.drewN 1).lay (D * 64) vs (by rw [lvs, lr]; omega)
  have hch3 := (hch2.drewN 1).lay (g := gr) (Or.inr (Or.inl rfl)) (D * 64) vs
  have ew3 : (w2.drewN 1).setCells gr (D * 64) vs = w3 := by rw [hw3]; rfl
  rw [ew3] at hk3 hb3 hr3 hch3
  rw [← hvs, ← hw3]
  clear hw3 hvs ew3 z1 z2 z3 d6 dx dth hth c6 x0 x1
  go_wp2_with fail
  go_end0
  exact ⟨rfl, hk3, by rw [bolVs, List.map_set]; exact hb3, evs ▸ hr3, hch3⟩
end Go.Proofs.Ythbjcafldbocpaa
