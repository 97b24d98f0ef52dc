/- The walk of looker.step: a step that adds a register where one of the two cannot be read. -/
import Derived.Test.YthbjcafldbocpaaVstepk
namespace Go.Proofs.Ythbjcafldbocpaa
open Go.RowKit
set_option linter.unusedVariables false
set_option linter.unusedSimpArgs false
set_option maxHeartbeats 4000000 in
set_option maxRecDepth 100000 in
theorem step_mac_no (gk gr gs go gd nr no reads n at_ loads nS cS : Nat) (AS : Option Addr) (D S : Nat) (C : UInt8) (bs : List Bool) (w : World)
    (hk : Row w gk 82 (lkV AS nS cS nr no reads n at_ gr gs go gd loads)) (hb : Row w gs 4 (bolVs bs)) (h : NoReg nr bs D ∨ (D < nr ∧ bs[D]? = some true ∧ NoReg nr bs S)) (hDS : D ≠ S) :
    Calls Try.prog 64 #[.pointer (some ⟨gk, 0, none⟩), .agg #[.int .u8 3, .int .i64 (D : Int), .int .i64 (S : Int), .int .u8 (C.toNat : Int)]] w fun e w' => e = .panicked giveUp ∧ Below w.heap.size w w' := by
  have e0 : ((D : Int) != (S : Int)) = true := bne_iff_ne.2 (by omega)
  go_enter Try.func64, Try.ntmps64
  go_wp2_with fail
  obtain ⟨w1, hw1⟩ : ∃ w1, w1 = w.alloc (.cells #[.int .u8 3, .int .i64 (D : Int), .int .i64 (S : Int), .int .u8 (C.toNat : Int)] 59) := ⟨_, rfl⟩
  have q : Below w.heap.size w w1 := by rw [hw1]; exact (Below.refl _ _).alloc (Nat.le_refl _) _
  have hx : Row w1 w.heap.size 59 [.int .u8 3, .int .i64 (D : Int), .int .i64 (S : Int), .int .u8 (C.toNat : Int)] := by rw [hw1]; exact Row.new w _ _
  have hk1 := hk.below q hk.lt
  have hb1 := hb.below q hb.lt
  rw [← hw1]
  clear hw1
  have x0 : w1.cell? ⟨w.heap.size, 0, none⟩ = some (.int .u8 3) := hx.cell 0
  have x1 : w1.cell? ⟨w.heap.size, 1, none⟩ = some (.int .i64 (D : Int)) := hx.cell 1
  have x2 : w1.cell? ⟨w.heap.size, 2, none⟩ = some (.int .i64 (S : Int)) := hx.cell 2
  refine (need_yes _).mono ?_
  rintro e w' ⟨rfl, rfl⟩
  go_wp2_with fail
  refine wp_region_held_drew (S := (fun x => x.cell? ⟨w.heap.size, 1, none⟩ = some (.int .i64 (D : Int)) ∧ x.cell? ⟨w.heap.size, 2, none⟩ = some (.int .i64 (S : Int)))) (by kernel_rfl) ⟨x1, x2⟩ (fun hHeld => ?_)
  refine wpAnyH_take (i := 0) (v := ?_) rfl (by kernel_rfl) (by kernel_rfl) (by kernel_rfl) (fun _ _ _ h => h) (Or.inl ⟨by kernel_rfl, ?_⟩) (by assumption) ?_
  rotate_left
  · (intro w hSw; (try dsimp only at hSw); go_simp; (try with_reducible rfl))
  try simp only [List.getElem_toArray, List.getElem_cons_succ, List.getElem_cons_zero, Act.put, List.setIfInBounds_toArray, List.set_cons_zero, List.set_cons_succ]
  refine wpAnyH_take (i := 1) (v := ?_) rfl (by kernel_rfl) (by kernel_rfl) (by kernel_rfl) (fun _ _ _ h => h) (Or.inl ⟨by kernel_rfl, ?_⟩) (by assumption) ?_
  rotate_left
  · (intro w hSw; (try dsimp only at hSw); go_simp; (try with_reducible rfl))
  try simp only [List.getElem_toArray, List.getElem_cons_succ, List.getElem_cons_zero, Act.put, List.setIfInBounds_toArray, List.set_cons_zero, List.set_cons_succ]
  refine wpAnyH_take (i := 2) (v := ?_) rfl (by kernel_rfl) (by kernel_rfl) (by kernel_rfl) (fun _ _ _ h => h) (Or.inl ⟨by kernel_rfl, ?_⟩) (by assumption) ?_
  rotate_left
  · (intro w hSw; (try dsimp only at hSw); go_simp; (try with_reducible rfl))
  try simp only [List.getElem_toArray, List.getElem_cons_succ, List.getElem_cons_zero, Act.put, List.setIfInBounds_toArray, List.set_cons_zero, List.set_cons_succ]
  refine wpAnyH_take (i := 4) (v := ?_) rfl (by kernel_rfl) (by kernel_rfl) (by kernel_rfl) (fun _ _ _ h => h) (Or.inl ⟨by kernel_rfl, ?_⟩) (by assumption) ?_
  rotate_left
  · (intro w hSw; (try dsimp only at hSw); go_simp; (try with_reducible rfl))
  try simp only [List.getElem_toArray, List.getElem_cons_succ, List.getElem_cons_zero, Act.put, List.setIfInBounds_toArray, List.set_cons_zero, List.set_cons_succ]
  refine wpAnyH_take (i := 5) (v := ?_) rfl (by kernel_rfl) (by kernel_rfl) (by kernel_rfl) (fun _ _ _ h => h) (Or.inl ⟨by kernel_rfl, ?_⟩) (by assumption) ?_
  rotate_left
  · (intro w hSw; (try dsimp only at hSw); go_simp; (try with_reducible rfl))
  try simp only [List.getElem_toArray, List.getElem_cons_succ, List.getElem_cons_zero, Act.put, List.setIfInBounds_toArray, List.set_cons_zero, List.set_cons_succ]
  refine wpAnyH_take (i := 6) (v := ?_) rfl (by kernel_rfl) (by kernel_rfl) (by kernel_rfl) (fun _ _ _ h => h) (Or.inl ⟨by kernel_rfl, ?_⟩) (by assumption) ?_
  rotate_left
  · (intro w hSw; (try dsimp only at hSw); go_simp; (try with_reducible rfl))
  try simp only [List.getElem_toArray, List.getElem_cons_succ, List.getElem_cons_zero, Act.put, List.setIfInBounds_toArray, List.set_cons_zero, List.set_cons_succ]
  refine wpAnyH_ready (rs := [3]) (by kernel_rfl) (by simp) ?_
  refine AllReadyH.cons rfl (fun K hK => ?_) AllReadyH.nil
  go_simp
  rcases h with h | ⟨hD, bD, h⟩
  · have r1 := reg_no gk gr gs go gd nr no reads n at_ loads nS cS D AS bs w'.drew (hk1.drewN 1) (hb1.drewN 1) h
    refine r1.mono ?_
    rintro e w2 ⟨rfl, hw2⟩
    rw [hw2]
    exact ⟨rfl, rfl, below_drewN q 1⟩
  · have sD : w'.cell? ⟨gs, D, none⟩ = some (.bool true) := by rw [hb1.cell, bolVs, List.getElem?_map, bD]; rfl
    have k1 : w'.cell? ⟨gk, 1, none⟩ = some (.int .i64 (nr : Int)) := hk1.cell 1
    have k6 : w'.cell? ⟨gk, 6, none⟩ = some (.slice (some ⟨gr, 0, none⟩) nr nr) := hk1.cell 6
    have k7 : w'.cell? ⟨gk, 7, none⟩ = some (.slice (some ⟨gs, 0, none⟩) nr nr) := hk1.cell 7
    have r1 := reg_yes gk gr gs D nr w'.drew k1 k6 k7 hD sD
    have r2 := reg_no gk gr gs go gd nr no reads n at_ loads nS cS S AS bs w'.drew (hk1.drewN 1) (hb1.drewN 1) h
    refine r1.mono ?_
    rintro e w2 ⟨rfl, hw2⟩
    rw [hw2]
    clear hw2 w2
    refine hK.out _ _ hHeld (fun hHeld => ?_)
    clear hK K
    try simp only [List.getElem_toArray, List.getElem_cons_succ, List.getElem_cons_zero, Act.put, List.setIfInBounds_toArray, List.set_cons_zero, List.set_cons_succ]
    refine wpAnyH_ready (rs := [7]) (by kernel_rfl) (by simp) ?_
    refine AllReadyH.cons rfl (fun K hK => ?_) AllReadyH.nil
    go_simp
    refine r2.mono ?_
    rintro e w2 ⟨rfl, hw2⟩
    rw [hw2]
    exact ⟨rfl, rfl, below_drewN q 1⟩
end Go.Proofs.Ythbjcafldbocpaa
