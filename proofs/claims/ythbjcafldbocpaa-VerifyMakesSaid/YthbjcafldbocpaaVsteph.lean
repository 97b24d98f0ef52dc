/- The walk of looker.step: a step that adds one register to another. -/
import Derived.Test.YthbjcafldbocpaaVstepk
import Derived.Test.YthbjcafldbocpaaScale
import Derived.Test.YthbjcafldbocpaaBr
namespace Go.Proofs.Ythbjcafldbocpaa
open Go.RowKit
set_option linter.unusedVariables false
set_option linter.unusedSimpArgs false
theorem layAt_get (ys : List Value) (o : Nat) (vs : List Value) (h : o + vs.length ≤ ys.length) (i : Nat) (hi : i < vs.length) : (layAt ys o vs)[o + i]? = vs[i]? := by
  unfold layAt
  rw [List.append_assoc, List.getElem?_append_right (by rw [List.length_take]; omega), List.length_take, Nat.min_eq_left (by omega), show o + i - o = i by omega, List.getElem?_append_left hi]
theorem layAt_set (ys : List Value) (o : Nat) (vs : List Value) (h : o + vs.length ≤ ys.length) (i : Nat) (hi : i < vs.length) (v : Value) : (layAt ys o vs).set (o + i) v = layAt ys o (vs.set i v) := by
  unfold layAt
  rw [List.length_set, List.append_assoc, List.set_append_right _ _ (by rw [List.length_take]; omega), List.length_take, Nat.min_eq_left (by omega), show o + i - o = i by omega, List.set_append_left _ _ hi, List.append_assoc]
theorem layAt_self (ys : List Value) (o n : Nat) (h : o + n ≤ ys.length) : layAt ys o ((ys.drop o).take n) = ys := by
  unfold layAt
  rw [List.length_take, List.length_drop, Nat.min_eq_left (by omega), ← List.drop_drop, List.append_assoc, List.take_append_drop, List.take_append_drop]
/-- the sixty-four bytes of row r -/
def seg (xs : List UInt8) (r : Nat) : List UInt8 := (xs.drop (r * 64)).take 64
theorem seg_length {xs : List UInt8} {nr : Nat} (h : xs.length = nr * 64) {r : Nat} (hr : r < nr) : (seg xs r).length = 64 := by
  rw [seg, List.length_take, List.length_drop]; omega
theorem seg_rd {w : World} {gr : Nat} {t : TypeId} {xs : List UInt8} (h : Row w gr t (bVs xs)) {nr : Nat} (hl : xs.length = nr * 64) {r : Nat} (hr : r < nr) : Rd w w.heap.size (some ⟨gr, r * 64, none⟩) 64 (bVs (seg xs r)) := by
  refine ⟨by rw [bVs_length, seg_length hl hr], fun _ => ⟨gr, r * 64, rfl, h.lt, fun j u hu => ?_⟩⟩
  rw [h.cell, ← hu]
  have hj : j < 64 := by
    rcases Nat.lt_or_ge j 64 with hlt | hge
    · exact hlt
    · rw [List.getElem?_eq_none (by rw [bVs_length, seg_length hl hr]; exact hge)] at hu; cases hu
  simp only [bVs, seg, List.getElem?_map, List.getElem?_take, if_pos hj, List.getElem?_drop]
set_option maxHeartbeats 4000000 in
set_option maxRecDepth 100000 in
theorem step_mac (gk gr gs go gd nr no reads n at_ loads nS cS : Nat) (AS : Option Addr) (D S : Nat) (C : UInt8) (bs : List Bool) (xs : List UInt8) (w : World)
    (hk : Row w gk 82 (lkV AS nS cS nr no reads n at_ gr gs go gd loads)) (hb : Row w gs 4 (bolVs bs)) (hr : Row w gr 87 (bVs xs)) (lr : xs.length = nr * 64) (n1 : gs ≠ gk) (n2 : gr ≠ gk) (n3 : gr ≠ gs) (hD : D < nr) (hS : S < nr) (bD : bs[D]? = some true) (bS : bs[S]? = some true) (hDS : D ≠ S) :
    Calls Try.prog 64 #[.pointer (some ⟨gk, 0, none⟩), .agg #[.int .u8 3, .int .i64 (D : Int), .int .i64 (S : Int), .int .u8 (C.toNat : Int)]] w fun e w' => e = .returned (.tuple #[]) ∧ Row w' gk 82 (lkV AS nS cS nr no reads n at_ gr gs go gd loads) ∧ Row w' gs 4 (bolVs bs) ∧ Row w' gr 87 (layAt (bVs xs) (D * 64) (bVs (Gf.macL (seg xs D) C (seg xs S)))) ∧ Chg3 w.heap.size gr gr gr w w' := by
  have e0 : ((D : Int) != (S : Int)) = true := bne_iff_ne.2 (by omega)

  go_enter Try.func64, Try.ntmps64
  go_wp2_with fail
  obtain ⟨w1, hw1⟩ : ∃ w1, w1 = w.alloc (.cells #[.int .u8 3, .int .i64 (D : Int), .int .i64 (S : Int), .int .u8 (C.toNat : Int)] 59) := ⟨_, rfl⟩
  have q : Below w.heap.size w w1 := by rw [hw1]; exact (Below.refl _ _).alloc (Nat.le_refl _) _
  have hx : Row w1 w.heap.size 59 [.int .u8 3, .int .i64 (D : Int), .int .i64 (S : Int), .int .u8 (C.toNat : Int)] := by rw [hw1]; exact Row.new w _ _
  have hk1 := hk.below q hk.lt
  have hb1 := hb.below q hb.lt
  have hr1 := hr.below q hr.lt
  rw [← hw1]
  clear hw1
  have x0 : w1.cell? ⟨w.heap.size, 0, none⟩ = some (.int .u8 3) := hx.cell 0
  have x1 : w1.cell? ⟨w.heap.size, 1, none⟩ = some (.int .i64 (D : Int)) := hx.cell 1
  have x2 : w1.cell? ⟨w.heap.size, 2, none⟩ = some (.int .i64 (S : Int)) := hx.cell 2
  refine (need_yes _).mono ?_
  rintro e w' ⟨rfl, rfl⟩
  go_wp2_with fail
  have sD : w'.cell? ⟨gs, D, none⟩ = some (.bool true) := by rw [hb1.cell, bolVs, List.getElem?_map, bD]; rfl
  have sS : w'.cell? ⟨gs, S, none⟩ = some (.bool true) := by rw [hb1.cell, bolVs, List.getElem?_map, bS]; rfl
  have k1 : w'.cell? ⟨gk, 1, none⟩ = some (.int .i64 (nr : Int)) := hk1.cell 1
  have k6 : w'.cell? ⟨gk, 6, none⟩ = some (.slice (some ⟨gr, 0, none⟩) nr nr) := hk1.cell 6
  have k7 : w'.cell? ⟨gk, 7, none⟩ = some (.slice (some ⟨gs, 0, none⟩) nr nr) := hk1.cell 7
  have r1 := reg_yes gk gr gs D nr w'.drew k1 k6 k7 hD sD
  have r2 := reg_yes gk gr gs S nr w'.drew k1 k6 k7 hS sS
  clear k1 k6 k7 sD sS
  have x3 : w'.cell? ⟨w.heap.size, 3, none⟩ = some (.int .u8 (C.toNat : Int)) := hx.cell 3
  refine wp_region_held_drew (S := (fun x => x.cell? ⟨w.heap.size, 1, none⟩ = some (.int .i64 (D : Int)) ∧ x.cell? ⟨w.heap.size, 2, none⟩ = some (.int .i64 (S : Int)))) (by kernel_rfl) ⟨x1, x2⟩ (fun hHeld => ?_)
  refine wpAnyH_take (i := 0) (v := ?_) rfl (by kernel_rfl) (by kernel_rfl) (by kernel_rfl) (fun _ _ _ h => h) (Or.inl ⟨by kernel_rfl, ?_⟩) (by assumption) ?_
  rotate_left
  · (intro w hSw; (try dsimp only at hSw); go_simp; (try with_reducible rfl))
  try simp only [List.getElem_toArray, List.getElem_cons_succ, List.getElem_cons_zero, Act.put, List.setIfInBounds_toArray, List.set_cons_zero, List.set_cons_succ]
  refine wpAnyH_take (i := 1) (v := ?_) rfl (by kernel_rfl) (by kernel_rfl) (by kernel_rfl) (fun _ _ _ h => h) (Or.inl ⟨by kernel_rfl, ?_⟩) (by assumption) ?_
  rotate_left
  · (intro w hSw; (try dsimp only at hSw); go_simp; (try with_reducible rfl))
  try simp only [List.getElem_toArray, List.getElem_cons_succ, List.getElem_cons_zero, Act.put, List.setIfInBounds_toArray, List.set_cons_zero, List.set_cons_succ]
  refine wpAnyH_take (i := 2) (v := ?_) rfl (by kernel_rfl) (by kernel_rfl) (by kernel_rfl) (fun _ _ _ h => h) (Or.inl ⟨by kernel_rfl, ?_⟩) (by assumption) ?_
  rotate_left
  · (intro w hSw; (try dsimp only at hSw); go_simp; (try with_reducible rfl))
  try simp only [List.getElem_toArray, List.getElem_cons_succ, List.getElem_cons_zero, Act.put, List.setIfInBounds_toArray, List.set_cons_zero, List.set_cons_succ]
  refine wpAnyH_take (i := 4) (v := ?_) rfl (by kernel_rfl) (by kernel_rfl) (by kernel_rfl) (fun _ _ _ h => h) (Or.inl ⟨by kernel_rfl, ?_⟩) (by assumption) ?_
  rotate_left
  · (intro w hSw; (try dsimp only at hSw); go_simp; (try with_reducible rfl))
  try simp only [List.getElem_toArray, List.getElem_cons_succ, List.getElem_cons_zero, Act.put, List.setIfInBounds_toArray, List.set_cons_zero, List.set_cons_succ]
  refine wpAnyH_take (i := 5) (v := ?_) rfl (by kernel_rfl) (by kernel_rfl) (by kernel_rfl) (fun _ _ _ h => h) (Or.inl ⟨by kernel_rfl, ?_⟩) (by assumption) ?_
  rotate_left
  · (intro w hSw; (try dsimp only at hSw); go_simp; (try with_reducible rfl))
  try simp only [List.getElem_toArray, List.getElem_cons_succ, List.getElem_cons_zero, Act.put, List.setIfInBounds_toArray, List.set_cons_zero, List.set_cons_succ]
  refine wpAnyH_take (i := 6) (v := ?_) rfl (by kernel_rfl) (by kernel_rfl) (by kernel_rfl) (fun _ _ _ h => h) (Or.inl ⟨by kernel_rfl, ?_⟩) (by assumption) ?_
  rotate_left
  · (intro w hSw; (try dsimp only at hSw); go_simp; (try with_reducible rfl))
  try simp only [List.getElem_toArray, List.getElem_cons_succ, List.getElem_cons_zero, Act.put, List.setIfInBounds_toArray, List.set_cons_zero, List.set_cons_succ]
  refine wpAnyH_ready (rs := [3]) (by kernel_rfl) (by simp) ?_
  refine AllReadyH.cons rfl (fun K hK => ?_) AllReadyH.nil
  go_simp
  refine r1.mono ?_
  rintro e w2 ⟨rfl, hw2⟩
  rw [hw2]
  clear hw2 w2
  refine hK.out _ _ hHeld (fun hHeld => ?_)
  clear hK K
  try simp only [List.getElem_toArray, List.getElem_cons_succ, List.getElem_cons_zero, Act.put, List.setIfInBounds_toArray, List.set_cons_zero, List.set_cons_succ]
  refine wpAnyH_ready (rs := [7]) (by kernel_rfl) (by simp) ?_
  refine AllReadyH.cons rfl (fun K hK => ?_) AllReadyH.nil
  go_simp
  refine r2.mono ?_
  rintro e w2 ⟨rfl, hw2⟩
  rw [hw2]
  clear hw2 w2
  refine hK.out _ _ hHeld (fun hHeld => ?_)
  clear hK K
  try simp only [List.getElem_toArray, List.getElem_cons_succ, List.getElem_cons_zero, Act.put, List.setIfInBounds_toArray, List.set_cons_zero, List.set_cons_succ]
  refine wpAnyH_take (i := 8) (v := ?_) rfl (by kernel_rfl) (by kernel_rfl) (by kernel_rfl) (fun _ _ _ h => h) (Or.inl ⟨by kernel_rfl, ?_⟩) (by assumption) ?_
  rotate_left
  · (intro w hSw; (try dsimp only at hSw); go_simp; (try with_reducible rfl))
  try simp only [List.getElem_toArray, List.getElem_cons_succ, List.getElem_cons_zero, Act.put, List.setIfInBounds_toArray, List.set_cons_zero, List.set_cons_succ]
  refine wpAnyH_take (i := 9) (v := ?_) rfl (by kernel_rfl) (by kernel_rfl) (by kernel_rfl) (fun _ _ _ h => h) (Or.inl ⟨by kernel_rfl, ?_⟩) (by assumption) ?_
  rotate_left
  · (intro w hSw; (try dsimp only at hSw); go_simp; (try with_reducible rfl))
  try simp only [List.getElem_toArray, List.getElem_cons_succ, List.getElem_cons_zero, Act.put, List.setIfInBounds_toArray, List.set_cons_zero, List.set_cons_succ]
  refine wpAnyH_done (by kernel_rfl) ?_ _
  have q1 : Below w.heap.size w w'.drew := below_drewN q 1
  have hk2 := hk1.drewN 1
  have hb2 := hb1.drewN 1
  have hr2 := hr1.drewN 1
  have hx2 := hx.drewN 1
  obtain ⟨w2, hw2⟩ : ∃ w2, w2 = w'.drewN 1 := ⟨_, rfl⟩
  rw [← hw2] at hk2 hb2 hr2 hx2
  have hw2' : w'.drew = w2 := hw2.symm
  rw [hw2'] at q1 ⊢
  clear hw2 hw2' hk1 hb1 hr1 hx q x0 x1 x2 x3 r1 r2 hHeld
  have x0 : w2.cell? ⟨w.heap.size, 0, none⟩ = some (.int .u8 3) := hx2.cell 0
  have x3 : w2.cell? ⟨w.heap.size, 3, none⟩ = some (.int .u8 (C.toNat : Int)) := hx2.cell 3
  have HSC := Lib.hid (scale_calls C (some ⟨gr, S * 64, none⟩) 64 64 (seg xs S) w2.drew (show Rd w2.drew w2.drew.heap.size _ 64 _ from seg_rd (w := w2) hr2 lr hS) (by decide))
  go_wp2_with fail
  refine wp_region_held_drew (S := (fun x => x.cell? ⟨w.heap.size, 3, none⟩ = some (.int .u8 (C.toNat : Int)))) (by kernel_rfl) x3 (fun hHeld => ?_)
  refine wpAnyH_take (i := 0) (v := ?_) rfl (by kernel_rfl) (by kernel_rfl) (by kernel_rfl) (fun _ _ _ h => h) (Or.inl ⟨by kernel_rfl, ?_⟩) (by assumption) ?_
  rotate_left
  · (intro w hSw; (try dsimp only at hSw); go_simp; (try with_reducible rfl))
  try simp only [List.getElem_toArray, List.getElem_cons_succ, List.getElem_cons_zero, Act.put, List.setIfInBounds_toArray, List.set_cons_zero, List.set_cons_succ]
  refine wpAnyH_take (i := 1) (v := ?_) rfl (by kernel_rfl) (by kernel_rfl) (by kernel_rfl) (fun _ _ _ h => h) (Or.inl ⟨by kernel_rfl, ?_⟩) (by assumption) ?_
  rotate_left
  · (intro w hSw; (try dsimp only at hSw); go_simp; (try with_reducible rfl))
  try simp only [List.getElem_toArray, List.getElem_cons_succ, List.getElem_cons_zero, Act.put, List.setIfInBounds_toArray, List.set_cons_zero, List.set_cons_succ]
  refine wpAnyH_take (i := 2) (v := ?_) rfl (by kernel_rfl) (by kernel_rfl) (by kernel_rfl) (fun _ _ _ h => h) (Or.inl ⟨by kernel_rfl, ?_⟩) (by assumption) ?_
  rotate_left
  · (intro w hSw; (try dsimp only at hSw); go_simp; (try with_reducible rfl))
  try simp only [List.getElem_toArray, List.getElem_cons_succ, List.getElem_cons_zero, Act.put, List.setIfInBounds_toArray, List.set_cons_zero, List.set_cons_succ]
  refine wpAnyH_take (i := 3) (v := ?_) rfl (by kernel_rfl) (by kernel_rfl) (by kernel_rfl) (fun _ _ _ h => h) (Or.inl ⟨by kernel_rfl, ?_⟩) (by assumption) ?_
  rotate_left
  · (intro w hSw; (try dsimp only at hSw); go_simp; (try with_reducible rfl))
  try simp only [List.getElem_toArray, List.getElem_cons_succ, List.getElem_cons_zero, Act.put, List.setIfInBounds_toArray, List.set_cons_zero, List.set_cons_succ]
  refine wpAnyH_take (i := 4) (v := ?_) rfl (by kernel_rfl) (by kernel_rfl) (by kernel_rfl) (fun _ _ _ h => h) (Or.inl ⟨by kernel_rfl, ?_⟩) (by assumption) ?_
  rotate_left
  · (intro w hSw; (try dsimp only at hSw); go_simp; (try with_reducible rfl))
  try simp only [List.getElem_toArray, List.getElem_cons_succ, List.getElem_cons_zero, Act.put, List.setIfInBounds_toArray, List.set_cons_zero, List.set_cons_succ]
  refine wpAnyH_take (i := 7) (v := ?_) rfl (by kernel_rfl) (by kernel_rfl) (by kernel_rfl) (fun _ _ _ h => h) (Or.inl ⟨by kernel_rfl, ?_⟩) (by assumption) ?_
  rotate_left
  · (intro w hSw; (try dsimp only at hSw); go_simp; (try with_reducible rfl))
  try simp only [List.getElem_toArray, List.getElem_cons_succ, List.getElem_cons_zero, Act.put, List.setIfInBounds_toArray, List.set_cons_zero, List.set_cons_succ]
  refine wpAnyH_ready (rs := [5]) (by kernel_rfl) (by simp) ?_
  refine AllReadyH.cons rfl (fun K hK => ?_) AllReadyH.nil
  go_simp
  refine HSC.out.mono ?_
  rintro e w3 ⟨A3, c3, rfl, ho, hb3⟩
  have hb4 : Below w2.heap.size w2 w3 := ⟨hb3.os, hb3.tape, hb3.output, hb3.size, hb3.block⟩
  have q3 : Below w.heap.size w w3 := q1.trans (hb4.mono q1.size)
  have x33 : w3.cell? ⟨w.heap.size, 3, none⟩ = some (.int .u8 (C.toNat : Int)) := (hb4.cell (p := ⟨w.heap.size, 3, none⟩) (lt_of_cell (w := w2) x3)).trans x3
  go_wp2_with fail
  refine hK.out _ _ x33 (fun hHeld => ?_)
  clear hK K
  try simp only [List.getElem_toArray, List.getElem_cons_succ, List.getElem_cons_zero, Act.put, List.setIfInBounds_toArray, List.set_cons_zero, List.set_cons_succ]
  refine wpAnyH_ready (rs := [6]) (by kernel_rfl) (by simp) ?_
  refine AllReadyH.cons rfl (fun K hK => ?_) AllReadyH.nil
  go_simp
  refine hK.out _ _ hHeld (fun hHeld => ?_)
  clear hK K
  try simp only [List.getElem_toArray, List.getElem_cons_succ, List.getElem_cons_zero, Act.put, List.setIfInBounds_toArray, List.set_cons_zero, List.set_cons_succ]
  refine wpAnyH_done (by kernel_rfl) ?_ _
  have hk3 := hk2.below (w' := w3) hb4 hk2.lt
  have hb3' := hb2.below (w' := w3) hb4 hb2.lt
  have hr3 := hr2.below (w' := w3) hb4 hr2.lt
  have hx3 := hx2.below (w' := w3) hb4 hx2.lt
  have hsz : w2.heap.size ≤ w3.heap.size := hb3.size
  have hown : OwnB w3 w2.heap.size A3 64 c3 _ := ho
  have HB := Lib.hid q3
  have HK := Lib.hid hk3
  have HBS := Lib.hid hb3'
  have HX := Lib.hid hx3
  have HO := Lib.hid hown
  have HLT := Lib.hid (show gr < w2.heap.size from hr2.lt)
  have HR0 := Lib.hid hr3
  have HLT0 := Lib.hid (show gr < w.heap.size from hr.lt)
  have HLX := Lib.hid (show w.heap.size < w2.heap.size from hx2.lt)
  clear x3 x33 hHeld hk2 hb2 hr2 hx2 hk3 hb3' hr3 hx3 hown ho q1 q3 HSC hk hb hr
  go_wp2_with fail
  have HL := Lib.hid lr
  have HD := Lib.hid hD
  have HS := Lib.hid hS
  clear lr
  go_loopw [102] (fun v102 wr => ∃ i : Nat, i ≤ 64 ∧ v102 = .int .i64 (i : Int) ∧ Row wr gr 87 (layAt (bVs xs) (D * 64) (bVs (upTo (fun j => Gf.add ((seg xs D).getD j 0) (Gf.mul C ((seg xs S).getD j 0))) (seg xs D) i))) ∧ OwnB wr w2.heap.size A3 64 c3 ((seg xs S).map (Gf.mul C)) ∧ Row wr gk 82 (lkV AS nS cS nr no reads n at_ gr gs go gd loads) ∧ Row wr gs 4 (bolVs bs) ∧ Row wr w.heap.size 59 [.int .u8 3, .int .i64 (D : Int), .int .i64 (S : Int), .int .u8 (C.toNat : Int)] ∧ Chg3 w.heap.size gr gr gr w wr) (fun v102 _ => 64 - (intOf v102).toNat)
  case atStart =>
    refine ⟨0, by omega, rfl, ?_, HO.out, HK.out, HBS.out, HX.out, Chg3.of_below HB.out⟩
    rw [up_zero]
    have e := layAt_self (bVs xs) (D * 64) 64 (by rw [bVs_length, HL.out]; have := HD.out; omega)
    have e2 : bVs (seg xs D) = ((bVs xs).drop (D * 64)).take 64 := by simp [bVs, seg, List.map_take, List.map_drop]
    rw [e2, e]
    exact HR0.out
  case round =>
    obtain ⟨i, hi, rfl, hrow, ho, hkk, hbb, hxx, hch⟩ := hrel
    clear HB HK HBS HX HO HR0
    have lD : (seg xs D).length = 64 := seg_length HL.out HD.out
    have lS : (seg xs S).length = 64 := seg_length HL.out HS.out
    by_cases hlt : i < 64
    · obtain ⟨g1, rfl, hg1, _, hc1, _⟩ := ho.at_ hlt
      rw [map_getD _ (by rw [lS]; exact hlt)] at hc1
      have lu : (bVs (upTo (fun j => Gf.add ((seg xs D).getD j 0) (Gf.mul C ((seg xs S).getD j 0))) (seg xs D) i)).length = 64 := by rw [bVs_length, up_len _ (by rw [lD]; omega), lD]
      have lx : D * 64 + 64 ≤ (bVs xs).length := by rw [bVs_length, HL.out]; have := HD.out; omega
      have hc2 : wr.cell? ⟨gr, D * 64 + i, none⟩ = some (.int .u8 (((seg xs D).getD i 0).toNat : Int)) := by
        rw [hrow.cell, layAt_get _ _ _ (by rw [lu]; exact lx) i (by rw [lu]; exact hlt), bVs_get _ _ (by rw [up_len _ (by rw [lD]; omega), lD]; exact hlt)]
        have e := up_get (fun j => Gf.add ((seg xs D).getD j 0) (Gf.mul C ((seg xs S).getD j 0))) (ys := seg xs D) (i := i) (by rw [lD]; exact hlt)
        rw [← e, List.getD_eq_getElem?_getD, List.getElem?_eq_getElem (by rw [up_len _ (by rw [lD]; omega), lD]; exact hlt)]
        rfl
      have hf2 : wr.frozen? ⟨gr, D * 64 + i, none⟩ = false := hrow.frozen _
      have HSET := Lib.hid (hrow.set (D * 64 + i) (.int .u8 ((Gf.add ((seg xs D).getD i 0) (Gf.mul C ((seg xs S).getD i 0))).toNat : Int)))
      have HE := Lib.hid ((layAt_set (bVs xs) (D * 64) _ (by rw [lu]; exact lx) i (by rw [lu]; exact hlt) (.int .u8 ((Gf.add ((seg xs D).getD i 0) (Gf.mul C ((seg xs S).getD i 0))).toNat : Int))).trans (congrArg (layAt (bVs xs) (D * 64)) ((bVs_set _ i _).trans (congrArg bVs (up_set (fun j => Gf.add ((seg xs D).getD j 0) (Gf.mul C ((seg xs S).getD j 0))) (ys := seg xs D) (i := i) (by rw [lD]; exact hlt))))))
      have hx := bxor_u8 ((seg xs D).getD i 0) (Gf.mul C ((seg xs S).getD i 0))
      generalize hy : Gf.mul C ((seg xs S).getD i 0) = y at hx hc1 HSET HE
      generalize hd : (seg xs D).getD i 0 = d at hx hc2 HSET HE
      have i0 : (0 : Int) ≤ (i : Int) := by omega
      have i1 : (i : Int) < 64 := by omega
      have HCH := Lib.hid hch
      have HOO := Lib.hid ho
      have HKK := Lib.hid hkk
      have HBB := Lib.hid hbb
      have HXX := Lib.hid hxx
      have ng : gr ≠ g1 := by have := HLT.out; omega
      have nx : w.heap.size ≠ gr := by have := HLT0.out; omega
      clear hrow hch ho hkk hbb hxx hy hd lu lx lD lS
      go_wp2_with fail
      go_region
      go_wp2_with fail
      go_roundw
      case rel =>
        refine ⟨i + 1, by omega, by go_num, ?_, ?_, ?_, ?_, ?_, ?_⟩
        · have h := HSET.out
          rw [HE.out] at h
          exact h.drewN 1
        · exact OwnB.drewN (HOO.out.far (p := ⟨gr, D * 64 + i, none⟩) HLT.out _) 1
        · exact (HKK.out.far (p := ⟨gr, D * 64 + i, none⟩) (Ne.symm n2) _).drewN 1
        · exact (HBB.out.far (p := ⟨gr, D * 64 + i, none⟩) (Ne.symm n3) _).drewN 1
        · exact (HXX.out.far (p := ⟨gr, D * 64 + i, none⟩) nx _).drewN 1
        · exact (HCH.out.set (g := gr) (Or.inl rfl) _ _).drewN 1
      case measure => simp [intOf]; omega
    · obtain rfl : i = 64 := by omega
      have hf : upTo (fun j => Gf.add ((seg xs D).getD j 0) (Gf.mul C ((seg xs S).getD j 0))) (seg xs D) 64 = Gf.macL (seg xs D) C (seg xs S) := by
        have h1 := up_all (fun j => Gf.add ((seg xs D).getD j 0) (Gf.mul C ((seg xs S).getD j 0))) (seg xs D)
        rw [lD] at h1
        rw [h1]
        have h2 := range_map_get2 (seg xs D) (seg xs S) (fun d s => Gf.add d (Gf.mul C s)) (by rw [lD, lS])
        rw [lD] at h2
        exact h2
      rw [hf] at hrow
      have x0 : wr.cell? ⟨w.heap.size, 0, none⟩ = some (.int .u8 3) := hxx.cell 0
      go_wp2_with fail
      go_end0
      exact ⟨rfl, hkk, hbb, hrow, hch⟩
end Go.Proofs.Ythbjcafldbocpaa
