-- Out of the translation, by this session's turn of the print (wip/gp.py).
import Derived.Test.YthbjcafldbocpaaCVerifyAllx0
namespace Go.Proofs.Ythbjcafldbocpaa.P0
open Go.RowKit Go.Proofs.YthbjcafldbocpaaW.PrintWords Go.Proofs.YthbjcafldbocpaaW.PrintLast Go.Proofs.YthbjcafldbocpaaW.PrintMore
attribute [local go_sem] max2_int min2_int max_two min_two max_three min_three max_four min_four   -- for this text's walks alone
set_option linter.unusedVariables false
set_option linter.unusedSimpArgs false

def emit_known.f (a0 : Int) : Option (Bool) := if a0 ≥ 1 then (some (decide (a0 ≤ 4))) else (some false)
set_option maxHeartbeats 8000000 in
set_option maxRecDepth 100000 in
theorem emit_known.calls (a0 : Int) (r : Bool) (w : World) (h : emit_known.f a0 = some r) :
    Calls Try.prog 72 #[.int .u8 a0] w fun e w' => e = .returned (.bool r) ∧ Drawn0 w w' := by
  have H : (if a0 ≥ 1 then (some (decide (a0 ≤ 4))) else (some false)) = some r := h
  clear h
  by_cases c2 : a0 ≥ 1
  · rw [if_pos c2] at H
    have c2b0 : decide (1 ≤ a0) = true := decide_eq_true c2
    clear c2
    obtain rfl := Option.some.inj H
    go_enter Try.func72, Try.ntmps72
    go_wp2
    go_ret
    exact ⟨by first | rfl | (simp; done) | (simp [*]; done), by repeat (first | exact Drawn0.refl _ | apply Drawn0.step)⟩
  · rw [if_neg c2] at H
    have c2b0 : decide (1 ≤ a0) = false := decide_eq_false c2
    clear c2
    obtain rfl := Option.some.inj H
    go_enter Try.func72, Try.ntmps72
    go_wp2
    go_ret
    exact ⟨by first | rfl | (simp; done) | (simp [*]; done), by repeat (first | exact Drawn0.refl _ | apply Drawn0.step)⟩

-- given: function 73 (emit_fields)

mutual
def emit_may.j0 : Nat → Bool → List (S59) → Int → Int → Int → Option (Bool)
  | 0, _, _, _, _, _ => none
  | k + 1, x29, x102000, x102001, x102002, x102003 => if x29 = true then (some false) else (emit_may.l0 k x102000 (x102000.length : Int) 0)
def emit_may.l0 : Nat → List (S59) → Int → Int → Option (Bool)
  | 0, _, _, _ => none
  | k + 1, x31, x32, x33 => if x33 < x32 then (if 0 ≤ x33 then (if x33 < (x31.length : Int) then ((emit_known.f ((rd_T59 x31 x33).f0)).bind fun t104 => (if t104 = true then (if ((rd_T59 x31 x33).f1) < 0 then (emit_may.j2 k x31 x32 x33 true ((rd_T59 x31 x33).f0) ((rd_T59 x31 x33).f1) ((rd_T59 x31 x33).f2) ((rd_T59 x31 x33).f3)) else (if ((rd_T59 x31 x33).f1) > 255 then (emit_may.j2 k x31 x32 x33 true ((rd_T59 x31 x33).f0) ((rd_T59 x31 x33).f1) ((rd_T59 x31 x33).f2) ((rd_T59 x31 x33).f3)) else (if ((rd_T59 x31 x33).f2) < 0 then (emit_may.j2 k x31 x32 x33 true ((rd_T59 x31 x33).f0) ((rd_T59 x31 x33).f1) ((rd_T59 x31 x33).f2) ((rd_T59 x31 x33).f3)) else (emit_may.j2 k x31 x32 x33 (decide (((rd_T59 x31 x33).f2) > 255)) ((rd_T59 x31 x33).f0) ((rd_T59 x31 x33).f1) ((rd_T59 x31 x33).f2) ((rd_T59 x31 x33).f3))))) else (emit_may.j2 k x31 x32 x33 true ((rd_T59 x31 x33).f0) ((rd_T59 x31 x33).f1) ((rd_T59 x31 x33).f2) ((rd_T59 x31 x33).f3)))) else (none)) else (none)) else (some true)
def emit_may.j2 : Nat → List (S59) → Int → Int → Bool → Int → Int → Int → Int → Option (Bool)
  | 0, _, _, _, _, _, _, _, _ => none
  | k + 1, x31, x32, x33, x60, x104000, x104001, x104002, x104003 => if x60 = true then (some false) else ((emit_fields.f x104000).bind fun t105 => (if (t105.size : Int) < 2 then (if x104002 = 0 then (if (t105.size : Int) < 3 then (if x104003 = 0 then (emit_may.l0 k x31 x32 (wrap64 (x33 + 1))) else (some false)) else (emit_may.l0 k x31 x32 (wrap64 (x33 + 1)))) else (some false)) else (if (t105.size : Int) < 3 then (if x104003 = 0 then (emit_may.l0 k x31 x32 (wrap64 (x33 + 1))) else (some false)) else (emit_may.l0 k x31 x32 (wrap64 (x33 + 1))))))
end
def emit_may.f (k : Nat) (l0_0 : List (S59)) (a0_1 : Int) (a0_2 : Int) (a0_3 : Int) : Option (Bool) := if a0_1 < 0 then (emit_may.j0 k true l0_0 a0_1 a0_2 a0_3) else (if a0_1 > 256 then (emit_may.j0 k true l0_0 a0_1 a0_2 a0_3) else (if a0_2 < 0 then (emit_may.j0 k true l0_0 a0_1 a0_2 a0_3) else (if a0_2 > 64 then (emit_may.j0 k true l0_0 a0_1 a0_2 a0_3) else (emit_may.j0 k (decide ((l0_0.length : Int) > 65536)) l0_0 a0_1 a0_2 a0_3))))
set_option maxHeartbeats 8000000 in
set_option maxRecDepth 100000 in
theorem emit_may.calls (k : Nat) (A0_0 : Option Addr) (c0_0 : Nat) (l0_0 : List (S59)) (a0_1 : Int) (a0_2 : Int) (a0_3 : Int) (r : Bool) (w : World) (hr0_0 : Kd.C k59 w A0_0 l0_0.length l0_0) (hc0_0 : l0_0.length ≤ c0_0) (h : emit_may.f k l0_0 a0_1 a0_2 a0_3 = some r) :
    Calls Try.prog 59 #[.agg #[.slice A0_0 l0_0.length c0_0, .int .i64 a0_1, .int .i64 a0_2, .int .u64 a0_3]] w fun e w' => e = .returned (.bool r) ∧ Below w.heap.size w w' := by
  have hu26 := Try.underlying26
  have hu59 := Try.underlying59
  have HR0_0 := Aside0.mk hr0_0
  have HC0_0 := Aside0.mk hc0_0
  clear hr0_0 hc0_0
  have HB := Aside0.mk (Below.refl w.heap.size w)
  have H : (if a0_1 < 0 then (emit_may.j0 k true l0_0 a0_1 a0_2 a0_3) else (if a0_1 > 256 then (emit_may.j0 k true l0_0 a0_1 a0_2 a0_3) else (if a0_2 < 0 then (emit_may.j0 k true l0_0 a0_1 a0_2 a0_3) else (if a0_2 > 64 then (emit_may.j0 k true l0_0 a0_1 a0_2 a0_3) else (emit_may.j0 k (decide ((l0_0.length : Int) > 65536)) l0_0 a0_1 a0_2 a0_3))))) = some r := h
  clear h
  have HC2 := Aside0.mk H
  clear H
  go_enter Try.func59, Try.ntmps59
  go_upto_region 1 with (first | ((with_reducible refine gate_dst (N := 1) rfl ?_); (try (refine gate_guard (by rfl) ?_; dsimp only)); refine box_event ?hg (N := 1) ?hd (cs := #[.slice A0_0 l0_0.length c0_0, .int .i64 a0_1, .int .i64 a0_2, .int .u64 a0_3]) (t := 26) ?hr ?_; (case hd => rfl); (case hg => rfl); (case hr => first | (go_simp; done) | (go_simp; rfl)); intro gb101 hg w3 hbox hb; have n0_ := Aside0.mk (below_step (by repeat (first | (with_reducible first | exact HB.out | apply below_alloc | apply pw_below_drewN | apply below_drew1) | exact HB.out)) hb); have n1_ := Aside0.mk (hbox); have n2_ := Aside0.mk ((by rw [hg]; exact (below_size (by repeat (first | (with_reducible first | exact HB.out | apply below_alloc | apply pw_below_drewN | apply below_drew1) | exact HB.out))) : w.heap.size ≤ gb101)); have n3_ := Aside0.mk ((by rw [hg]; exact (below_size (by repeat (first | (with_reducible first | exact HB.out | apply below_alloc | apply pw_below_drewN | apply below_drew1) | exact HB.out))) : w.heap.size ≤ gb101)); clear HB; have HB := n0_; have BK101 := n1_; have GW101 := n2_; have GE101 := n3_; clear n0_ n1_ n2_ n3_; clear hb hbox hg))
  (try simp only [Act.put, List.setIfInBounds_toArray, List.set_cons_zero, List.set_cons_succ])
  go_cut [29] (fun v29 wc => ∃ (kq : Nat) (x29_1 : Bool), v29 = .bool x29_1 ∧ Aside0 (emit_may.j0 kq x29_1 l0_0 a0_1 a0_2 a0_3 = some r) ∧ Aside0 (kq ≤ k) ∧ Aside0 (wc.heap[gb101]? = some (.cells #[(.slice A0_0 l0_0.length c0_0), .int .i64 a0_1, .int .i64 a0_2, .int .u64 a0_3] 26 (0, 0))) ∧ Aside0 (Below w.heap.size w wc))
  case first =>
    have H := HC2.out
    clear HC2
    by_cases c4 : a0_1 < 0
    · rw [if_pos c4] at H
      have c4b0 : decide (a0_1 < 0) = true := decide_eq_true c4
      clear c4
      (first | rw [c4b0] | (simp only [i64_w, i32_w]; rw [c4b0]) | rw [c4b1] | skip)
      have H' := Aside0.mk H
      clear H
      have hcz5_0 : w3.cell? ⟨gb101, 0, none⟩ = some (.slice A0_0 l0_0.length c0_0) := (blk_cell BK101.out 0).trans rfl
      have hcz5_1 : w3.cell? ⟨gb101, 1, none⟩ = some (.int .i64 a0_1) := (blk_cell BK101.out 1).trans rfl
      have hcz5_2 : w3.cell? ⟨gb101, 2, none⟩ = some (.int .i64 a0_2) := (blk_cell BK101.out 2).trans rfl
      have hcz5_3 : w3.cell? ⟨gb101, 3, none⟩ = some (.int .u64 a0_3) := (blk_cell BK101.out 3).trans rfl
      have hfz5_0 := blk_frozen BK101.out 0
      have hfz5_1 := blk_frozen BK101.out 1
      have hfz5_2 := blk_frozen BK101.out 2
      have hfz5_3 := blk_frozen BK101.out 3
      go_wp2
      go_meet
      case rel => exact ⟨_, (true), (by first | rfl | (simp; done) | (simp [*]; done)), H', ⟨by first | omega | exact Nat.le_refl _⟩, ⟨by (with_reducible repeat first | apply blk_drewN | apply blk_drew | apply blk_alloc); exact BK101.out⟩, ⟨by repeat (first | (with_reducible first | exact HB.out | apply below_alloc | apply pw_below_drewN | apply below_drew1 | refine below_set ?_ GE101.out) | exact HB.out)⟩⟩
    · rw [if_neg c4] at H
      have c4b0 : decide (a0_1 < 0) = false := decide_eq_false c4
      clear c4
      (first | rw [c4b0] | (simp only [i64_w, i32_w]; rw [c4b0]) | rw [c4b1] | skip)
      by_cases c6 : a0_1 > 256
      · rw [if_pos c6] at H
        have c6b0 : decide (256 < a0_1) = true := decide_eq_true c6
        clear c6
        have H' := Aside0.mk H
        clear H
        have hcz7_0 : w3.cell? ⟨gb101, 0, none⟩ = some (.slice A0_0 l0_0.length c0_0) := (blk_cell BK101.out 0).trans rfl
        have hcz7_1 : w3.cell? ⟨gb101, 1, none⟩ = some (.int .i64 a0_1) := (blk_cell BK101.out 1).trans rfl
        have hcz7_2 : w3.cell? ⟨gb101, 2, none⟩ = some (.int .i64 a0_2) := (blk_cell BK101.out 2).trans rfl
        have hcz7_3 : w3.cell? ⟨gb101, 3, none⟩ = some (.int .u64 a0_3) := (blk_cell BK101.out 3).trans rfl
        have hfz7_0 := blk_frozen BK101.out 0
        have hfz7_1 := blk_frozen BK101.out 1
        have hfz7_2 := blk_frozen BK101.out 2
        have hfz7_3 := blk_frozen BK101.out 3
        go_wp2
        go_meet
        case rel => exact ⟨_, (true), (by first | rfl | (simp; done) | (simp [*]; done)), H', ⟨by first | omega | exact Nat.le_refl _⟩, ⟨by (with_reducible repeat first | apply blk_drewN | apply blk_drew | apply blk_alloc); exact BK101.out⟩, ⟨by repeat (first | (with_reducible first | exact HB.out | apply below_alloc | apply pw_below_drewN | apply below_drew1 | refine below_set ?_ GE101.out) | exact HB.out)⟩⟩
      · rw [if_neg c6] at H
        have c6b0 : decide (256 < a0_1) = false := decide_eq_false c6
        clear c6
        by_cases c8 : a0_2 < 0
        · rw [if_pos c8] at H
          have c8b0 : decide (a0_2 < 0) = true := decide_eq_true c8
          clear c8
          have H' := Aside0.mk H
          clear H
          have hcz9_0 : w3.cell? ⟨gb101, 0, none⟩ = some (.slice A0_0 l0_0.length c0_0) := (blk_cell BK101.out 0).trans rfl
          have hcz9_1 : w3.cell? ⟨gb101, 1, none⟩ = some (.int .i64 a0_1) := (blk_cell BK101.out 1).trans rfl
          have hcz9_2 : w3.cell? ⟨gb101, 2, none⟩ = some (.int .i64 a0_2) := (blk_cell BK101.out 2).trans rfl
          have hcz9_3 : w3.cell? ⟨gb101, 3, none⟩ = some (.int .u64 a0_3) := (blk_cell BK101.out 3).trans rfl
          have hfz9_0 := blk_frozen BK101.out 0
          have hfz9_1 := blk_frozen BK101.out 1
          have hfz9_2 := blk_frozen BK101.out 2
          have hfz9_3 := blk_frozen BK101.out 3
          go_wp2
          go_meet
          case rel => exact ⟨_, (true), (by first | rfl | (simp; done) | (simp [*]; done)), H', ⟨by first | omega | exact Nat.le_refl _⟩, ⟨by (with_reducible repeat first | apply blk_drewN | apply blk_drew | apply blk_alloc); exact BK101.out⟩, ⟨by repeat (first | (with_reducible first | exact HB.out | apply below_alloc | apply pw_below_drewN | apply below_drew1 | refine below_set ?_ GE101.out) | exact HB.out)⟩⟩
        · rw [if_neg c8] at H
          have c8b0 : decide (a0_2 < 0) = false := decide_eq_false c8
          clear c8
          by_cases c10 : a0_2 > 64
          · rw [if_pos c10] at H
            have c10b0 : decide (64 < a0_2) = true := decide_eq_true c10
            clear c10
            have H' := Aside0.mk H
            clear H
            have hcz11_0 : w3.cell? ⟨gb101, 0, none⟩ = some (.slice A0_0 l0_0.length c0_0) := (blk_cell BK101.out 0).trans rfl
            have hcz11_1 : w3.cell? ⟨gb101, 1, none⟩ = some (.int .i64 a0_1) := (blk_cell BK101.out 1).trans rfl
            have hcz11_2 : w3.cell? ⟨gb101, 2, none⟩ = some (.int .i64 a0_2) := (blk_cell BK101.out 2).trans rfl
            have hcz11_3 : w3.cell? ⟨gb101, 3, none⟩ = some (.int .u64 a0_3) := (blk_cell BK101.out 3).trans rfl
            have hfz11_0 := blk_frozen BK101.out 0
            have hfz11_1 := blk_frozen BK101.out 1
            have hfz11_2 := blk_frozen BK101.out 2
            have hfz11_3 := blk_frozen BK101.out 3
            go_wp2
            go_meet
            case rel => exact ⟨_, (true), (by first | rfl | (simp; done) | (simp [*]; done)), H', ⟨by first | omega | exact Nat.le_refl _⟩, ⟨by (with_reducible repeat first | apply blk_drewN | apply blk_drew | apply blk_alloc); exact BK101.out⟩, ⟨by repeat (first | (with_reducible first | exact HB.out | apply below_alloc | apply pw_below_drewN | apply below_drew1 | refine below_set ?_ GE101.out) | exact HB.out)⟩⟩
          · rw [if_neg c10] at H
            have c10b0 : decide (64 < a0_2) = false := decide_eq_false c10
            clear c10
            have H' := Aside0.mk H
            clear H
            have hcz12_0 : w3.cell? ⟨gb101, 0, none⟩ = some (.slice A0_0 l0_0.length c0_0) := (blk_cell BK101.out 0).trans rfl
            have hcz12_1 : w3.cell? ⟨gb101, 1, none⟩ = some (.int .i64 a0_1) := (blk_cell BK101.out 1).trans rfl
            have hcz12_2 : w3.cell? ⟨gb101, 2, none⟩ = some (.int .i64 a0_2) := (blk_cell BK101.out 2).trans rfl
            have hcz12_3 : w3.cell? ⟨gb101, 3, none⟩ = some (.int .u64 a0_3) := (blk_cell BK101.out 3).trans rfl
            have hfz12_0 := blk_frozen BK101.out 0
            have hfz12_1 := blk_frozen BK101.out 1
            have hfz12_2 := blk_frozen BK101.out 2
            have hfz12_3 := blk_frozen BK101.out 3
            go_wp2
            go_meet
            case rel => exact ⟨_, (decide ((l0_0.length : Int) > 65536)), (by first | rfl | (simp; done) | (simp [*]; done)), H', ⟨by first | omega | exact Nat.le_refl _⟩, ⟨by (with_reducible repeat first | apply blk_drewN | apply blk_drew | apply blk_alloc); exact BK101.out⟩, ⟨by repeat (first | (with_reducible first | exact HB.out | apply below_alloc | apply pw_below_drewN | apply below_drew1 | refine below_set ?_ GE101.out) | exact HB.out)⟩⟩
  case rest =>
    clear HC2
    try clear c1
    try clear p2
    try clear c4
    try clear c4b0
    try clear c4b1
    try clear c5
    try clear c6
    try clear c6b0
    try clear c8
    try clear c8b0
    try clear c10
    try clear c10b0
    try clear hcz11_0
    try clear hcz11_1
    try clear hcz11_2
    try clear hcz11_3
    try clear hcz12_0
    try clear hcz12_1
    try clear hcz12_2
    try clear hcz12_3
    try clear hcz5_0
    try clear hcz5_1
    try clear hcz5_2
    try clear hcz5_3
    try clear hcz7_0
    try clear hcz7_1
    try clear hcz7_2
    try clear hcz7_3
    try clear hcz9_0
    try clear hcz9_1
    try clear hcz9_2
    try clear hcz9_3
    try clear hfz11_0
    try clear hfz11_1
    try clear hfz11_2
    try clear hfz11_3
    try clear hfz12_0
    try clear hfz12_1
    try clear hfz12_2
    try clear hfz12_3
    try clear hfz5_0
    try clear hfz5_1
    try clear hfz5_2
    try clear hfz5_3
    try clear hfz7_0
    try clear hfz7_1
    try clear hfz7_2
    try clear hfz7_3
    try clear hfz9_0
    try clear hfz9_1
    try clear hfz9_2
    try clear hfz9_3
    obtain ⟨kq, x29_1, rfl, HA, HJ1, BK101, HB⟩ := hcut
    cases kq with
    | zero => exact absurd HA.out (by simp [emit_may.j0])
    | succ kj1 =>
      have H := HA.out
      clear HA
      simp only [emit_may.j0] at H
      by_cases c13 : x29_1 = true
      · subst c13
        have H1 : (some false) = some r := by rw [if_pos rfl] at H; exact H
        clear H
        have H := H1
        clear H1
        obtain rfl := Option.some.inj H
        go_wp2
        go_ret
        exact ⟨by first | rfl | (simp [errW_none, errW_some] <;> rfl) | (simp [*, errW_none, errW_some] <;> rfl), by repeat (first | (with_reducible first | exact HB.out | apply below_alloc | apply pw_below_drewN | apply below_drew1 | refine below_set ?_ GE101.out) | exact HB.out)⟩
      · replace c13 := Bool.eq_false_iff.mpr c13
        subst c13
        have H1 : (emit_may.l0 kj1 l0_0 (l0_0.length : Int) 0) = some r := by rw [if_neg (show ¬ (false = true) by decide)] at H; exact H
        clear H
        have H := H1
        clear H1
        have H' := Aside0.mk H
        clear H
        have hcz14_0 : wc.cell? ⟨gb101, 0, none⟩ = some (.slice A0_0 l0_0.length c0_0) := (blk_cell BK101.out 0).trans rfl
        have hcz14_1 : wc.cell? ⟨gb101, 1, none⟩ = some (.int .i64 a0_1) := (blk_cell BK101.out 1).trans rfl
        have hcz14_2 : wc.cell? ⟨gb101, 2, none⟩ = some (.int .i64 a0_2) := (blk_cell BK101.out 2).trans rfl
        have hcz14_3 : wc.cell? ⟨gb101, 3, none⟩ = some (.int .u64 a0_3) := (blk_cell BK101.out 3).trans rfl
        have hfz14_0 := blk_frozen BK101.out 0
        have hfz14_1 := blk_frozen BK101.out 1
        have hfz14_2 := blk_frozen BK101.out 2
        have hfz14_3 := blk_frozen BK101.out 3
        go_wp2
        go_loopg [33] kj1 (fun kq v33 w' => ∃ (x33_2 : Int), v33 = .int .i64 x33_2 ∧ Aside0 (emit_may.l0 kq l0_0 (l0_0.length : Int) x33_2 = some r) ∧ Aside0 (kq ≤ kj1) ∧ Aside0 (w'.heap[gb101]? = some (.cells #[(.slice A0_0 l0_0.length c0_0), .int .i64 a0_1, .int .i64 a0_2, .int .u64 a0_3] 26 (0, 0))) ∧ Aside0 (Below w.heap.size w w'))
        case atStart => exact ⟨(0), (by first | rfl | (simp; done) | (simp [*]; done)), H', ⟨Nat.le_refl _⟩, ⟨by (with_reducible repeat first | apply blk_drewN | apply blk_drew | apply blk_alloc); exact BK101.out⟩, ⟨by repeat (first | (with_reducible first | exact HB.out | apply below_alloc | apply pw_below_drewN | apply below_drew1 | refine below_set ?_ GE101.out) | exact HB.out)⟩⟩
        case round =>
          clear H'
          try clear c1
          try clear p2
          try clear c4
          try clear c4b0
          try clear c4b1
          try clear c5
          try clear c6
          try clear c6b0
          try clear c8
          try clear c8b0
          try clear c10
          try clear c10b0
          try clear c13
          try clear hcz11_0
          try clear hcz11_1
          try clear hcz11_2
          try clear hcz11_3
          try clear hcz12_0
          try clear hcz12_1
          try clear hcz12_2
          try clear hcz12_3
          try clear hcz14_0
          try clear hcz14_1
          try clear hcz14_2
          try clear hcz14_3
          try clear hcz5_0
          try clear hcz5_1
          try clear hcz5_2
          try clear hcz5_3
          try clear hcz7_0
          try clear hcz7_1
          try clear hcz7_2
          try clear hcz7_3
          try clear hcz9_0
          try clear hcz9_1
          try clear hcz9_2
          try clear hcz9_3
          try clear hfz11_0
          try clear hfz11_1
          try clear hfz11_2
          try clear hfz11_3
          try clear hfz12_0
          try clear hfz12_1
          try clear hfz12_2
          try clear hfz12_3
          try clear hfz14_0
          try clear hfz14_1
          try clear hfz14_2
          try clear hfz14_3
          try clear hfz5_0
          try clear hfz5_1
          try clear hfz5_2
          try clear hfz5_3
          try clear hfz7_0
          try clear hfz7_1
          try clear hfz7_2
          try clear hfz7_3
          try clear hfz9_0
          try clear hfz9_1
          try clear hfz9_2
          try clear hfz9_3
          try clear p2
          obtain ⟨x33_2, rfl, HA, HK2, BK101, HB⟩ := hrel
          cases gk with
          | zero => exact absurd HA.out (by simp [emit_may.l0])
          | succ k2 =>
            have H := HA.out
            clear HA
            simp only [emit_may.l0] at H
            by_cases c15 : x33_2 < (l0_0.length : Int)
            · rw [if_pos c15] at H
              have c15b0 : decide (x33_2 < (l0_0.length : Int)) = true := decide_eq_true c15
              clear c15
              by_cases c16 : 0 ≤ x33_2
              · rw [if_pos c16] at H
                have c16b0 : decide (0 ≤ x33_2) = true := decide_eq_true c16
                clear c16
                by_cases c17 : x33_2 < (l0_0.length : Int)
                · rw [if_pos c17] at H
                  have c17b0 : decide (x33_2 < (l0_0.length : Int)) = true := decide_eq_true c17
                  clear c17
                  have HC18 := Aside0.mk H
                  clear H
                  have p102 : 0 ≤ (x33_2 : Int) := of_decide_eq_true (by first | (with_reducible assumption) | assumption)
                  have q102 : x33_2 < (l0_0.length : Int) := of_decide_eq_true (by first | (with_reducible assumption) | assumption)
                  obtain ⟨ad102, e102, hx102_0, hx102_1, hx102_2, hx102_3⟩ := at_T59 HR0_0.out x33_2 p102 q102
                  cases e102
                  replace hx102_0 := (HB.out.cell (World.block_lt_of_cell? w _ hx102_0)).trans hx102_0
                  replace hx102_1 := (HB.out.cell (World.block_lt_of_cell? w _ hx102_1)).trans hx102_1
                  replace hx102_2 := (HB.out.cell (World.block_lt_of_cell? w _ hx102_2)).trans hx102_2
                  replace hx102_3 := (HB.out.cell (World.block_lt_of_cell? w _ hx102_3)).trans hx102_3
                  replace p102 := eq_true p102
                  replace q102 := eq_true q102
                  go_upto_region 6 with (first | ((with_reducible refine gate_dst (N := 4) rfl ?_); (try (refine gate_guard (by rfl) ?_; dsimp only)); refine box_event ?hg (N := 4) ?hd (cs := #[.int .u8 0, .int .i64 0, .int .i64 0, .int .u8 0]) (t := 59) ?hr ?_; (case hd => rfl); (case hg => rfl); (case hr => first | (go_simp; done) | (go_simp; rfl)); intro gb103 hg w19 hbox hb; have n0_ := Aside0.mk (blk_below (g := gb101) (o := .cells #[.slice (some ad102) l0_0.length c0_0, .int .i64 a0_1, .int .i64 a0_2, .int .u64 a0_3] 26 (0, 0)) (by (with_reducible repeat first | apply blk_drewN | apply blk_drew | apply blk_alloc); exact BK101.out) hb); have n1_ := Aside0.mk (below_step (by repeat (first | (with_reducible first | exact HB.out | apply below_alloc | apply pw_below_drewN | apply below_drew1 | refine below_set ?_ GE101.out) | exact HB.out)) hb); have n2_ := Aside0.mk (hbox); have n3_ := Aside0.mk ((by rw [hg]; exact (below_size (by repeat (first | (with_reducible first | exact HB.out | apply below_alloc | apply pw_below_drewN | apply below_drew1 | refine below_set ?_ GE101.out) | exact HB.out))) : w.heap.size ≤ gb103)); have n4_ := Aside0.mk ((by rw [hg]; exact (below_size (by repeat (first | (with_reducible first | exact HB.out | apply below_alloc | apply pw_below_drewN | apply below_drew1 | refine below_set ?_ GE101.out) | exact HB.out))) : w.heap.size ≤ gb103)); have n5_ := Aside0.mk ((by rw [hg]; exact Nat.ne_of_lt (blk_lt (g := gb101) (o := .cells #[.slice (some ad102) l0_0.length c0_0, .int .i64 a0_1, .int .i64 a0_2, .int .u64 a0_3] 26 (0, 0)) (by (with_reducible repeat first | apply blk_drewN | apply blk_drew | apply blk_alloc); exact BK101.out)) : gb101 ≠ gb103)); have n6_ := Aside0.mk ((by rw [hg]; exact Nat.ne_of_gt (blk_lt (g := gb101) (o := .cells #[.slice (some ad102) l0_0.length c0_0, .int .i64 a0_1, .int .i64 a0_2, .int .u64 a0_3] 26 (0, 0)) (by (with_reducible repeat first | apply blk_drewN | apply blk_drew | apply blk_alloc); exact BK101.out)) : gb103 ≠ gb101)); clear BK101 HB; have BK101 := n0_; have HB := n1_; have BK103 := n2_; have GW103 := n3_; have GE103 := n4_; have NB101_103 := n5_; have NB103_101 := n6_; clear n0_ n1_ n2_ n3_ n4_ n5_ n6_; clear hb hbox hg; have hnb20 := NB103_101.out; have hnc20 := NB101_103.out; have hcz21_0 : w19.cell? ⟨gb103, 0, none⟩ = some (.int .u8 0) := (blk_cell BK103.out 0).trans rfl; have hcz21_1 : w19.cell? ⟨gb103, 1, none⟩ = some (.int .i64 0) := (blk_cell BK103.out 1).trans rfl; have hcz21_2 : w19.cell? ⟨gb103, 2, none⟩ = some (.int .i64 0) := (blk_cell BK103.out 2).trans rfl; have hcz21_3 : w19.cell? ⟨gb103, 3, none⟩ = some (.int .u8 0) := (blk_cell BK103.out 3).trans rfl; have hfz21_0 := blk_frozen BK103.out 0; have hfz21_1 := blk_frozen BK103.out 1; have hfz21_2 := blk_frozen BK103.out 2; have hfz21_3 := blk_frozen BK103.out 3))
                  (try simp only [Act.put, List.setIfInBounds_toArray, List.set_cons_zero, List.set_cons_succ])
                  go_cut [60] (fun v60 wc => ∃ (kq : Nat) (x60_17 : Bool), v60 = .bool x60_17 ∧ Aside0 (emit_may.j2 kq l0_0 (l0_0.length : Int) x33_2 x60_17 ((rd_T59 l0_0 x33_2).f0) ((rd_T59 l0_0 x33_2).f1) ((rd_T59 l0_0 x33_2).f2) ((rd_T59 l0_0 x33_2).f3) = some r) ∧ Aside0 (kq ≤ k2) ∧ Aside0 (wc.heap[gb101]? = some (.cells #[(.slice (some ad102) l0_0.length c0_0), .int .i64 a0_1, .int .i64 a0_2, .int .u64 a0_3] 26 (0, 0))) ∧ Aside0 (wc.heap[gb103]? = some (.cells #[.int .u8 ((rd_T59 l0_0 x33_2).f0), .int .i64 ((rd_T59 l0_0 x33_2).f1), .int .i64 ((rd_T59 l0_0 x33_2).f2), .int .u8 ((rd_T59 l0_0 x33_2).f3)] 59 (0, 0))) ∧ Aside0 (Below w.heap.size w wc))
                  case first =>
                    have H := HC18.out
                    clear HC18
                    replace H := Option.bind_eq_some_iff.mp H
                    obtain ⟨t104, A220, H⟩ := H
                    replace H : (if t104 = true then (if ((rd_T59 l0_0 x33_2).f1) < 0 then (emit_may.j2 k2 l0_0 (l0_0.length : Int) x33_2 true ((rd_T59 l0_0 x33_2).f0) ((rd_T59 l0_0 x33_2).f1) ((rd_T59 l0_0 x33_2).f2) ((rd_T59 l0_0 x33_2).f3)) else (if ((rd_T59 l0_0 x33_2).f1) > 255 then (emit_may.j2 k2 l0_0 (l0_0.length : Int) x33_2 true ((rd_T59 l0_0 x33_2).f0) ((rd_T59 l0_0 x33_2).f1) ((rd_T59 l0_0 x33_2).f2) ((rd_T59 l0_0 x33_2).f3)) else (if ((rd_T59 l0_0 x33_2).f2) < 0 then (emit_may.j2 k2 l0_0 (l0_0.length : Int) x33_2 true ((rd_T59 l0_0 x33_2).f0) ((rd_T59 l0_0 x33_2).f1) ((rd_T59 l0_0 x33_2).f2) ((rd_T59 l0_0 x33_2).f3)) else (emit_may.j2 k2 l0_0 (l0_0.length : Int) x33_2 (decide (((rd_T59 l0_0 x33_2).f2) > 255)) ((rd_T59 l0_0 x33_2).f0) ((rd_T59 l0_0 x33_2).f1) ((rd_T59 l0_0 x33_2).f2) ((rd_T59 l0_0 x33_2).f3))))) else (emit_may.j2 k2 l0_0 (l0_0.length : Int) x33_2 true ((rd_T59 l0_0 x33_2).f0) ((rd_T59 l0_0 x33_2).f1) ((rd_T59 l0_0 x33_2).f2) ((rd_T59 l0_0 x33_2).f3))) = some r := H
                    have A22 := Aside0.mk A220
                    clear A220
                    by_cases c23 : t104 = true
                    · subst c23
                      have H1 : (if ((rd_T59 l0_0 x33_2).f1) < 0 then (emit_may.j2 k2 l0_0 (l0_0.length : Int) x33_2 true ((rd_T59 l0_0 x33_2).f0) ((rd_T59 l0_0 x33_2).f1) ((rd_T59 l0_0 x33_2).f2) ((rd_T59 l0_0 x33_2).f3)) else (if ((rd_T59 l0_0 x33_2).f1) > 255 then (emit_may.j2 k2 l0_0 (l0_0.length : Int) x33_2 true ((rd_T59 l0_0 x33_2).f0) ((rd_T59 l0_0 x33_2).f1) ((rd_T59 l0_0 x33_2).f2) ((rd_T59 l0_0 x33_2).f3)) else (if ((rd_T59 l0_0 x33_2).f2) < 0 then (emit_may.j2 k2 l0_0 (l0_0.length : Int) x33_2 true ((rd_T59 l0_0 x33_2).f0) ((rd_T59 l0_0 x33_2).f1) ((rd_T59 l0_0 x33_2).f2) ((rd_T59 l0_0 x33_2).f3)) else (emit_may.j2 k2 l0_0 (l0_0.length : Int) x33_2 (decide (((rd_T59 l0_0 x33_2).f2) > 255)) ((rd_T59 l0_0 x33_2).f0) ((rd_T59 l0_0 x33_2).f1) ((rd_T59 l0_0 x33_2).f2) ((rd_T59 l0_0 x33_2).f3))))) = some r := by rw [if_pos rfl] at H; exact H
                      clear H
                      have H := H1
                      clear H1
                      by_cases c24 : ((rd_T59 l0_0 x33_2).f1) < 0
                      · rw [if_pos c24] at H
                        have c24b0 : decide (((rd_T59 l0_0 x33_2).f1) < 0) = true := decide_eq_true c24
                        clear c24
                        (first | rw [c24b0] | (simp only [i64_w, i32_w]; rw [c24b0]) | rw [c24b1] | skip)
                        have H' := Aside0.mk H
                        clear H
                        have hnb25 := NB103_101.out
                        have hnc25 := NB101_103.out
                        have hcz26_0 : w19.cell? ⟨gb103, 0, none⟩ = some (.int .u8 0) := (blk_cell BK103.out 0).trans rfl
                        have hcz26_1 : w19.cell? ⟨gb103, 1, none⟩ = some (.int .i64 0) := (blk_cell BK103.out 1).trans rfl
                        have hcz26_2 : w19.cell? ⟨gb103, 2, none⟩ = some (.int .i64 0) := (blk_cell BK103.out 2).trans rfl
                        have hcz26_3 : w19.cell? ⟨gb103, 3, none⟩ = some (.int .u8 0) := (blk_cell BK103.out 3).trans rfl
                        have hfz26_0 := blk_frozen BK103.out 0
                        have hfz26_1 := blk_frozen BK103.out 1
                        have hfz26_2 := blk_frozen BK103.out 2
                        have hfz26_3 := blk_frozen BK103.out 3
                        go_wp2_with (first | ((with_reducible refine gate_callee (f := 72) rfl ?_); refine goesL_ (some 39) rfl rfl Try.func72 (by kernel_rfl) rfl #[.int .u8 ((rd_T59 l0_0 x33_2).f0)] rfl (by (try simp only [List.map_toArray, List.map_cons, List.map_nil]); first | done | rfl | (simp only [List.length_drop, List.length_take]; rfl)) ?_; (with_reducible refine (emit_known.calls ((rd_T59 l0_0 x33_2).f0) true _ A22.out).mono ?_); rintro e w' ⟨rfl, ⟨nd, rfl⟩⟩; refine ⟨_, rfl, ?_⟩))
                        go_meet
                        case rel => exact ⟨_, (true), (by first | rfl | (simp; done) | (simp [*]; done)), H', ⟨by have := HJ1.out; have := HK2.out; first | omega | exact Nat.le_refl _⟩, ⟨by (with_reducible repeat first | apply blk_drewN | apply blk_drew | apply blk_alloc); refine blk_far ?_ NB101_103.out _; (with_reducible repeat first | apply blk_drewN | apply blk_drew | apply blk_alloc); refine blk_far ?_ NB101_103.out _; (with_reducible repeat first | apply blk_drewN | apply blk_drew | apply blk_alloc); refine blk_far ?_ NB101_103.out _; (with_reducible repeat first | apply blk_drewN | apply blk_drew | apply blk_alloc); refine blk_far ?_ NB101_103.out _; (with_reducible repeat first | apply blk_drewN | apply blk_drew | apply blk_alloc); exact BK101.out⟩, ⟨by (with_reducible repeat first | apply blk_drewN | apply blk_drew | apply blk_alloc); refine blk_put (cs := #[.int .u8 ((rd_T59 l0_0 x33_2).f0), .int .i64 ((rd_T59 l0_0 x33_2).f1), .int .i64 ((rd_T59 l0_0 x33_2).f2), .int .u8 0]) ?_ 3 _ rfl; (with_reducible repeat first | apply blk_drewN | apply blk_drew | apply blk_alloc); refine blk_put (cs := #[.int .u8 ((rd_T59 l0_0 x33_2).f0), .int .i64 ((rd_T59 l0_0 x33_2).f1), .int .i64 0, .int .u8 0]) ?_ 2 _ rfl; (with_reducible repeat first | apply blk_drewN | apply blk_drew | apply blk_alloc); refine blk_put (cs := #[.int .u8 ((rd_T59 l0_0 x33_2).f0), .int .i64 0, .int .i64 0, .int .u8 0]) ?_ 1 _ rfl; (with_reducible repeat first | apply blk_drewN | apply blk_drew | apply blk_alloc); refine blk_put (cs := #[.int .u8 0, .int .i64 0, .int .i64 0, .int .u8 0]) ?_ 0 _ rfl; (with_reducible repeat first | apply blk_drewN | apply blk_drew | apply blk_alloc); exact BK103.out⟩, ⟨by repeat (first | (with_reducible first | exact HB.out | apply below_alloc | apply pw_below_drewN | apply below_drew1 | refine below_set ?_ GE101.out | refine below_set ?_ GE103.out) | exact HB.out)⟩⟩
                      · rw [if_neg c24] at H
                        have c24b0 : decide (((rd_T59 l0_0 x33_2).f1) < 0) = false := decide_eq_false c24
                        clear c24
                        (first | rw [c24b0] | (simp only [i64_w, i32_w]; rw [c24b0]) | rw [c24b1] | skip)
                        by_cases c27 : ((rd_T59 l0_0 x33_2).f1) > 255
                        · rw [if_pos c27] at H
                          have c27b0 : decide (255 < ((rd_T59 l0_0 x33_2).f1)) = true := decide_eq_true c27
                          clear c27
                          have H' := Aside0.mk H
                          clear H
                          have hnb28 := NB103_101.out
                          have hnc28 := NB101_103.out
                          have hcz29_0 : w19.cell? ⟨gb103, 0, none⟩ = some (.int .u8 0) := (blk_cell BK103.out 0).trans rfl
                          have hcz29_1 : w19.cell? ⟨gb103, 1, none⟩ = some (.int .i64 0) := (blk_cell BK103.out 1).trans rfl
                          have hcz29_2 : w19.cell? ⟨gb103, 2, none⟩ = some (.int .i64 0) := (blk_cell BK103.out 2).trans rfl
                          have hcz29_3 : w19.cell? ⟨gb103, 3, none⟩ = some (.int .u8 0) := (blk_cell BK103.out 3).trans rfl
                          have hfz29_0 := blk_frozen BK103.out 0
                          have hfz29_1 := blk_frozen BK103.out 1
                          have hfz29_2 := blk_frozen BK103.out 2
                          have hfz29_3 := blk_frozen BK103.out 3
                          go_wp2_with (first | ((with_reducible refine gate_callee (f := 72) rfl ?_); refine goesL_ (some 39) rfl rfl Try.func72 (by kernel_rfl) rfl #[.int .u8 ((rd_T59 l0_0 x33_2).f0)] rfl (by (try simp only [List.map_toArray, List.map_cons, List.map_nil]); first | done | rfl | (simp only [List.length_drop, List.length_take]; rfl)) ?_; (with_reducible refine (emit_known.calls ((rd_T59 l0_0 x33_2).f0) true _ A22.out).mono ?_); rintro e w' ⟨rfl, ⟨nd, rfl⟩⟩; refine ⟨_, rfl, ?_⟩))
                          go_meet
                          case rel => exact ⟨_, (true), (by first | rfl | (simp; done) | (simp [*]; done)), H', ⟨by have := HJ1.out; have := HK2.out; first | omega | exact Nat.le_refl _⟩, ⟨by (with_reducible repeat first | apply blk_drewN | apply blk_drew | apply blk_alloc); refine blk_far ?_ NB101_103.out _; (with_reducible repeat first | apply blk_drewN | apply blk_drew | apply blk_alloc); refine blk_far ?_ NB101_103.out _; (with_reducible repeat first | apply blk_drewN | apply blk_drew | apply blk_alloc); refine blk_far ?_ NB101_103.out _; (with_reducible repeat first | apply blk_drewN | apply blk_drew | apply blk_alloc); refine blk_far ?_ NB101_103.out _; (with_reducible repeat first | apply blk_drewN | apply blk_drew | apply blk_alloc); exact BK101.out⟩, ⟨by (with_reducible repeat first | apply blk_drewN | apply blk_drew | apply blk_alloc); refine blk_put (cs := #[.int .u8 ((rd_T59 l0_0 x33_2).f0), .int .i64 ((rd_T59 l0_0 x33_2).f1), .int .i64 ((rd_T59 l0_0 x33_2).f2), .int .u8 0]) ?_ 3 _ rfl; (with_reducible repeat first | apply blk_drewN | apply blk_drew | apply blk_alloc); refine blk_put (cs := #[.int .u8 ((rd_T59 l0_0 x33_2).f0), .int .i64 ((rd_T59 l0_0 x33_2).f1), .int .i64 0, .int .u8 0]) ?_ 2 _ rfl; (with_reducible repeat first | apply blk_drewN | apply blk_drew | apply blk_alloc); refine blk_put (cs := #[.int .u8 ((rd_T59 l0_0 x33_2).f0), .int .i64 0, .int .i64 0, .int .u8 0]) ?_ 1 _ rfl; (with_reducible repeat first | apply blk_drewN | apply blk_drew | apply blk_alloc); refine blk_put (cs := #[.int .u8 0, .int .i64 0, .int .i64 0, .int .u8 0]) ?_ 0 _ rfl; (with_reducible repeat first | apply blk_drewN | apply blk_drew | apply blk_alloc); exact BK103.out⟩, ⟨by repeat (first | (with_reducible first | exact HB.out | apply below_alloc | apply pw_below_drewN | apply below_drew1 | refine below_set ?_ GE101.out | refine below_set ?_ GE103.out) | exact HB.out)⟩⟩
                        · rw [if_neg c27] at H
                          have c27b0 : decide (255 < ((rd_T59 l0_0 x33_2).f1)) = false := decide_eq_false c27
                          clear c27
                          by_cases c30 : ((rd_T59 l0_0 x33_2).f2) < 0
                          · rw [if_pos c30] at H
                            have c30b0 : decide (((rd_T59 l0_0 x33_2).f2) < 0) = true := decide_eq_true c30
                            clear c30
                            have H' := Aside0.mk H
                            clear H
                            have hnb31 := NB103_101.out
                            have hnc31 := NB101_103.out
                            have hcz32_0 : w19.cell? ⟨gb103, 0, none⟩ = some (.int .u8 0) := (blk_cell BK103.out 0).trans rfl
                            have hcz32_1 : w19.cell? ⟨gb103, 1, none⟩ = some (.int .i64 0) := (blk_cell BK103.out 1).trans rfl
                            have hcz32_2 : w19.cell? ⟨gb103, 2, none⟩ = some (.int .i64 0) := (blk_cell BK103.out 2).trans rfl
                            have hcz32_3 : w19.cell? ⟨gb103, 3, none⟩ = some (.int .u8 0) := (blk_cell BK103.out 3).trans rfl
                            have hfz32_0 := blk_frozen BK103.out 0
                            have hfz32_1 := blk_frozen BK103.out 1
                            have hfz32_2 := blk_frozen BK103.out 2
                            have hfz32_3 := blk_frozen BK103.out 3
                            go_wp2_with (first | ((with_reducible refine gate_callee (f := 72) rfl ?_); refine goesL_ (some 39) rfl rfl Try.func72 (by kernel_rfl) rfl #[.int .u8 ((rd_T59 l0_0 x33_2).f0)] rfl (by (try simp only [List.map_toArray, List.map_cons, List.map_nil]); first | done | rfl | (simp only [List.length_drop, List.length_take]; rfl)) ?_; (with_reducible refine (emit_known.calls ((rd_T59 l0_0 x33_2).f0) true _ A22.out).mono ?_); rintro e w' ⟨rfl, ⟨nd, rfl⟩⟩; refine ⟨_, rfl, ?_⟩))
                            go_meet
                            case rel => exact ⟨_, (true), (by first | rfl | (simp; done) | (simp [*]; done)), H', ⟨by have := HJ1.out; have := HK2.out; first | omega | exact Nat.le_refl _⟩, ⟨by (with_reducible repeat first | apply blk_drewN | apply blk_drew | apply blk_alloc); refine blk_far ?_ NB101_103.out _; (with_reducible repeat first | apply blk_drewN | apply blk_drew | apply blk_alloc); refine blk_far ?_ NB101_103.out _; (with_reducible repeat first | apply blk_drewN | apply blk_drew | apply blk_alloc); refine blk_far ?_ NB101_103.out _; (with_reducible repeat first | apply blk_drewN | apply blk_drew | apply blk_alloc); refine blk_far ?_ NB101_103.out _; (with_reducible repeat first | apply blk_drewN | apply blk_drew | apply blk_alloc); exact BK101.out⟩, ⟨by (with_reducible repeat first | apply blk_drewN | apply blk_drew | apply blk_alloc); refine blk_put (cs := #[.int .u8 ((rd_T59 l0_0 x33_2).f0), .int .i64 ((rd_T59 l0_0 x33_2).f1), .int .i64 ((rd_T59 l0_0 x33_2).f2), .int .u8 0]) ?_ 3 _ rfl; (with_reducible repeat first | apply blk_drewN | apply blk_drew | apply blk_alloc); refine blk_put (cs := #[.int .u8 ((rd_T59 l0_0 x33_2).f0), .int .i64 ((rd_T59 l0_0 x33_2).f1), .int .i64 0, .int .u8 0]) ?_ 2 _ rfl; (with_reducible repeat first | apply blk_drewN | apply blk_drew | apply blk_alloc); refine blk_put (cs := #[.int .u8 ((rd_T59 l0_0 x33_2).f0), .int .i64 0, .int .i64 0, .int .u8 0]) ?_ 1 _ rfl; (with_reducible repeat first | apply blk_drewN | apply blk_drew | apply blk_alloc); refine blk_put (cs := #[.int .u8 0, .int .i64 0, .int .i64 0, .int .u8 0]) ?_ 0 _ rfl; (with_reducible repeat first | apply blk_drewN | apply blk_drew | apply blk_alloc); exact BK103.out⟩, ⟨by repeat (first | (with_reducible first | exact HB.out | apply below_alloc | apply pw_below_drewN | apply below_drew1 | refine below_set ?_ GE101.out | refine below_set ?_ GE103.out) | exact HB.out)⟩⟩
                          · rw [if_neg c30] at H
                            have c30b0 : decide (((rd_T59 l0_0 x33_2).f2) < 0) = false := decide_eq_false c30
                            clear c30
                            have H' := Aside0.mk H
                            clear H
                            have hnb33 := NB103_101.out
                            have hnc33 := NB101_103.out
                            have hcz34_0 : w19.cell? ⟨gb103, 0, none⟩ = some (.int .u8 0) := (blk_cell BK103.out 0).trans rfl
                            have hcz34_1 : w19.cell? ⟨gb103, 1, none⟩ = some (.int .i64 0) := (blk_cell BK103.out 1).trans rfl
                            have hcz34_2 : w19.cell? ⟨gb103, 2, none⟩ = some (.int .i64 0) := (blk_cell BK103.out 2).trans rfl
                            have hcz34_3 : w19.cell? ⟨gb103, 3, none⟩ = some (.int .u8 0) := (blk_cell BK103.out 3).trans rfl
                            have hfz34_0 := blk_frozen BK103.out 0
                            have hfz34_1 := blk_frozen BK103.out 1
                            have hfz34_2 := blk_frozen BK103.out 2
                            have hfz34_3 := blk_frozen BK103.out 3
                            go_wp2_with (first | ((with_reducible refine gate_callee (f := 72) rfl ?_); refine goesL_ (some 39) rfl rfl Try.func72 (by kernel_rfl) rfl #[.int .u8 ((rd_T59 l0_0 x33_2).f0)] rfl (by (try simp only [List.map_toArray, List.map_cons, List.map_nil]); first | done | rfl | (simp only [List.length_drop, List.length_take]; rfl)) ?_; (with_reducible refine (emit_known.calls ((rd_T59 l0_0 x33_2).f0) true _ A22.out).mono ?_); rintro e w' ⟨rfl, ⟨nd, rfl⟩⟩; refine ⟨_, rfl, ?_⟩))
                            go_meet
                            case rel => exact ⟨_, (decide (((rd_T59 l0_0 x33_2).f2) > 255)), (by first | rfl | (simp; done) | (simp [*]; done)), H', ⟨by have := HJ1.out; have := HK2.out; first | omega | exact Nat.le_refl _⟩, ⟨by (with_reducible repeat first | apply blk_drewN | apply blk_drew | apply blk_alloc); refine blk_far ?_ NB101_103.out _; (with_reducible repeat first | apply blk_drewN | apply blk_drew | apply blk_alloc); refine blk_far ?_ NB101_103.out _; (with_reducible repeat first | apply blk_drewN | apply blk_drew | apply blk_alloc); refine blk_far ?_ NB101_103.out _; (with_reducible repeat first | apply blk_drewN | apply blk_drew | apply blk_alloc); refine blk_far ?_ NB101_103.out _; (with_reducible repeat first | apply blk_drewN | apply blk_drew | apply blk_alloc); exact BK101.out⟩, ⟨by (with_reducible repeat first | apply blk_drewN | apply blk_drew | apply blk_alloc); refine blk_put (cs := #[.int .u8 ((rd_T59 l0_0 x33_2).f0), .int .i64 ((rd_T59 l0_0 x33_2).f1), .int .i64 ((rd_T59 l0_0 x33_2).f2), .int .u8 0]) ?_ 3 _ rfl; (with_reducible repeat first | apply blk_drewN | apply blk_drew | apply blk_alloc); refine blk_put (cs := #[.int .u8 ((rd_T59 l0_0 x33_2).f0), .int .i64 ((rd_T59 l0_0 x33_2).f1), .int .i64 0, .int .u8 0]) ?_ 2 _ rfl; (with_reducible repeat first | apply blk_drewN | apply blk_drew | apply blk_alloc); refine blk_put (cs := #[.int .u8 ((rd_T59 l0_0 x33_2).f0), .int .i64 0, .int .i64 0, .int .u8 0]) ?_ 1 _ rfl; (with_reducible repeat first | apply blk_drewN | apply blk_drew | apply blk_alloc); refine blk_put (cs := #[.int .u8 0, .int .i64 0, .int .i64 0, .int .u8 0]) ?_ 0 _ rfl; (with_reducible repeat first | apply blk_drewN | apply blk_drew | apply blk_alloc); exact BK103.out⟩, ⟨by repeat (first | (with_reducible first | exact HB.out | apply below_alloc | apply pw_below_drewN | apply below_drew1 | refine below_set ?_ GE101.out | refine below_set ?_ GE103.out) | exact HB.out)⟩⟩
                    · replace c23 := Bool.eq_false_iff.mpr c23
                      subst c23
                      have H1 : (emit_may.j2 k2 l0_0 (l0_0.length : Int) x33_2 true ((rd_T59 l0_0 x33_2).f0) ((rd_T59 l0_0 x33_2).f1) ((rd_T59 l0_0 x33_2).f2) ((rd_T59 l0_0 x33_2).f3)) = some r := by rw [if_neg (show ¬ (false = true) by decide)] at H; exact H
                      clear H
                      have H := H1
                      clear H1
                      have H' := Aside0.mk H
                      clear H
                      have hnb35 := NB103_101.out
                      have hnc35 := NB101_103.out
                      have hcz36_0 : w19.cell? ⟨gb103, 0, none⟩ = some (.int .u8 0) := (blk_cell BK103.out 0).trans rfl
                      have hcz36_1 : w19.cell? ⟨gb103, 1, none⟩ = some (.int .i64 0) := (blk_cell BK103.out 1).trans rfl
                      have hcz36_2 : w19.cell? ⟨gb103, 2, none⟩ = some (.int .i64 0) := (blk_cell BK103.out 2).trans rfl
                      have hcz36_3 : w19.cell? ⟨gb103, 3, none⟩ = some (.int .u8 0) := (blk_cell BK103.out 3).trans rfl
                      have hfz36_0 := blk_frozen BK103.out 0
                      have hfz36_1 := blk_frozen BK103.out 1
                      have hfz36_2 := blk_frozen BK103.out 2
                      have hfz36_3 := blk_frozen BK103.out 3
                      go_wp2_with (first | ((with_reducible refine gate_callee (f := 72) rfl ?_); refine goesL_ (some 39) rfl rfl Try.func72 (by kernel_rfl) rfl #[.int .u8 ((rd_T59 l0_0 x33_2).f0)] rfl (by (try simp only [List.map_toArray, List.map_cons, List.map_nil]); first | done | rfl | (simp only [List.length_drop, List.length_take]; rfl)) ?_; (with_reducible refine (emit_known.calls ((rd_T59 l0_0 x33_2).f0) false _ A22.out).mono ?_); rintro e w' ⟨rfl, ⟨nd, rfl⟩⟩; refine ⟨_, rfl, ?_⟩))
                      go_meet
                      case rel => exact ⟨_, (true), (by first | rfl | (simp; done) | (simp [*]; done)), H', ⟨by have := HJ1.out; have := HK2.out; first | omega | exact Nat.le_refl _⟩, ⟨by (with_reducible repeat first | apply blk_drewN | apply blk_drew | apply blk_alloc); refine blk_far ?_ NB101_103.out _; (with_reducible repeat first | apply blk_drewN | apply blk_drew | apply blk_alloc); refine blk_far ?_ NB101_103.out _; (with_reducible repeat first | apply blk_drewN | apply blk_drew | apply blk_alloc); refine blk_far ?_ NB101_103.out _; (with_reducible repeat first | apply blk_drewN | apply blk_drew | apply blk_alloc); refine blk_far ?_ NB101_103.out _; (with_reducible repeat first | apply blk_drewN | apply blk_drew | apply blk_alloc); exact BK101.out⟩, ⟨by (with_reducible repeat first | apply blk_drewN | apply blk_drew | apply blk_alloc); refine blk_put (cs := #[.int .u8 ((rd_T59 l0_0 x33_2).f0), .int .i64 ((rd_T59 l0_0 x33_2).f1), .int .i64 ((rd_T59 l0_0 x33_2).f2), .int .u8 0]) ?_ 3 _ rfl; (with_reducible repeat first | apply blk_drewN | apply blk_drew | apply blk_alloc); refine blk_put (cs := #[.int .u8 ((rd_T59 l0_0 x33_2).f0), .int .i64 ((rd_T59 l0_0 x33_2).f1), .int .i64 0, .int .u8 0]) ?_ 2 _ rfl; (with_reducible repeat first | apply blk_drewN | apply blk_drew | apply blk_alloc); refine blk_put (cs := #[.int .u8 ((rd_T59 l0_0 x33_2).f0), .int .i64 0, .int .i64 0, .int .u8 0]) ?_ 1 _ rfl; (with_reducible repeat first | apply blk_drewN | apply blk_drew | apply blk_alloc); refine blk_put (cs := #[.int .u8 0, .int .i64 0, .int .i64 0, .int .u8 0]) ?_ 0 _ rfl; (with_reducible repeat first | apply blk_drewN | apply blk_drew | apply blk_alloc); exact BK103.out⟩, ⟨by repeat (first | (with_reducible first | exact HB.out | apply below_alloc | apply pw_below_drewN | apply below_drew1 | refine below_set ?_ GE101.out | refine below_set ?_ GE103.out) | exact HB.out)⟩⟩
                  case rest =>
                    clear HC18
                    try clear c1
                    try clear p1
                    try clear q1
                    try clear hx1
                    try clear c2
                    try clear p2
                    try clear c3
                    try clear c4
                    try clear c4b0
                    try clear c4b1
                    try clear c5
                    try clear c6
                    try clear c6b0
                    try clear c7
                    try clear c8
                    try clear c8b0
                    try clear c10
                    try clear c10b0
                    try clear p10
                    try clear q10
                    try clear hx10
                    try clear c13
                    try clear c15
                    try clear c15b0
                    try clear c16
                    try clear c16b0
                    try clear c17
                    try clear c17b0
                    try clear c20
                    try clear c23
                    try clear c24
                    try clear c24b0
                    try clear c24b1
                    try clear c25
                    try clear c27
                    try clear c27b0
                    try clear c28
                    try clear c30
                    try clear c30b0
                    try clear c31
                    try clear c33
                    try clear c35
                    try clear hcz11_0
                    try clear hcz11_1
                    try clear hcz11_2
                    try clear hcz11_3
                    try clear hcz12_0
                    try clear hcz12_1
                    try clear hcz12_2
                    try clear hcz12_3
                    try clear hcz14_0
                    try clear hcz14_1
                    try clear hcz14_2
                    try clear hcz14_3
                    try clear hcz21_0
                    try clear hcz21_1
                    try clear hcz21_2
                    try clear hcz21_3
                    try clear hcz26_0
                    try clear hcz26_1
                    try clear hcz26_2
                    try clear hcz26_3
                    try clear hcz29_0
                    try clear hcz29_1
                    try clear hcz29_2
                    try clear hcz29_3
                    try clear hcz32_0
                    try clear hcz32_1
                    try clear hcz32_2
                    try clear hcz32_3
                    try clear hcz34_0
                    try clear hcz34_1
                    try clear hcz34_2
                    try clear hcz34_3
                    try clear hcz36_0
                    try clear hcz36_1
                    try clear hcz36_2
                    try clear hcz36_3
                    try clear hcz5_0
                    try clear hcz5_1
                    try clear hcz5_2
                    try clear hcz5_3
                    try clear hcz7_0
                    try clear hcz7_1
                    try clear hcz7_2
                    try clear hcz7_3
                    try clear hcz9_0
                    try clear hcz9_1
                    try clear hcz9_2
                    try clear hcz9_3
                    try clear hfz11_0
                    try clear hfz11_1
                    try clear hfz11_2
                    try clear hfz11_3
                    try clear hfz12_0
                    try clear hfz12_1
                    try clear hfz12_2
                    try clear hfz12_3
                    try clear hfz14_0
                    try clear hfz14_1
                    try clear hfz14_2
                    try clear hfz14_3
                    try clear hfz21_0
                    try clear hfz21_1
                    try clear hfz21_2
                    try clear hfz21_3
                    try clear hfz26_0
                    try clear hfz26_1
                    try clear hfz26_2
                    try clear hfz26_3
                    try clear hfz29_0
                    try clear hfz29_1
                    try clear hfz29_2
                    try clear hfz29_3
                    try clear hfz32_0
                    try clear hfz32_1
                    try clear hfz32_2
                    try clear hfz32_3
                    try clear hfz34_0
                    try clear hfz34_1
                    try clear hfz34_2
                    try clear hfz34_3
                    try clear hfz36_0
                    try clear hfz36_1
                    try clear hfz36_2
                    try clear hfz36_3
                    try clear hfz5_0
                    try clear hfz5_1
                    try clear hfz5_2
                    try clear hfz5_3
                    try clear hfz7_0
                    try clear hfz7_1
                    try clear hfz7_2
                    try clear hfz7_3
                    try clear hfz9_0
                    try clear hfz9_1
                    try clear hfz9_2
                    try clear hfz9_3
                    try clear hx102_0
                    try clear hx102_1
                    try clear hx102_2
                    try clear hx102_3
                    try clear p102
                    try clear p2
                    try clear q102
                    obtain ⟨kq, x60_17, rfl, HA, HJ17, BK101, BK103, HB⟩ := hcut
                    cases kq with
                    | zero => exact absurd HA.out (by simp [emit_may.j2])
                    | succ kj17 =>
                      have H := HA.out
                      clear HA
                      simp only [emit_may.j2] at H
                      by_cases c37 : x60_17 = true
                      · subst c37
                        have H1 : (some false) = some r := by rw [if_pos rfl] at H; exact H
                        clear H
                        have H := H1
                        clear H1
                        obtain rfl := Option.some.inj H
                        go_wp2
                        go_ret
                        exact ⟨by first | rfl | (simp [errW_none, errW_some] <;> rfl) | (simp [*, errW_none, errW_some] <;> rfl), by repeat (first | (with_reducible first | exact HB.out | apply below_alloc | apply pw_below_drewN | apply below_drew1 | refine below_set ?_ GE101.out | refine below_set ?_ GE103.out) | exact HB.out)⟩
                      · replace c37 := Bool.eq_false_iff.mpr c37
                        subst c37
                        have H1 : ((emit_fields.f ((rd_T59 l0_0 x33_2).f0)).bind fun t105 => (if (t105.size : Int) < 2 then (if ((rd_T59 l0_0 x33_2).f2) = 0 then (if (t105.size : Int) < 3 then (if ((rd_T59 l0_0 x33_2).f3) = 0 then (emit_may.l0 kj17 l0_0 (l0_0.length : Int) (wrap64 (x33_2 + 1))) else (some false)) else (emit_may.l0 kj17 l0_0 (l0_0.length : Int) (wrap64 (x33_2 + 1)))) else (some false)) else (if (t105.size : Int) < 3 then (if ((rd_T59 l0_0 x33_2).f3) = 0 then (emit_may.l0 kj17 l0_0 (l0_0.length : Int) (wrap64 (x33_2 + 1))) else (some false)) else (emit_may.l0 kj17 l0_0 (l0_0.length : Int) (wrap64 (x33_2 + 1)))))) = some r := by rw [if_neg (show ¬ (false = true) by decide)] at H; exact H
                        clear H
                        have H := H1
                        clear H1
                        replace H := Option.bind_eq_some_iff.mp H
                        obtain ⟨t105, A380, H⟩ := H
                        replace H : (if (t105.size : Int) < 2 then (if ((rd_T59 l0_0 x33_2).f2) = 0 then (if (t105.size : Int) < 3 then (if ((rd_T59 l0_0 x33_2).f3) = 0 then (emit_may.l0 kj17 l0_0 (l0_0.length : Int) (wrap64 (x33_2 + 1))) else (some false)) else (emit_may.l0 kj17 l0_0 (l0_0.length : Int) (wrap64 (x33_2 + 1)))) else (some false)) else (if (t105.size : Int) < 3 then (if ((rd_T59 l0_0 x33_2).f3) = 0 then (emit_may.l0 kj17 l0_0 (l0_0.length : Int) (wrap64 (x33_2 + 1))) else (some false)) else (emit_may.l0 kj17 l0_0 (l0_0.length : Int) (wrap64 (x33_2 + 1))))) = some r := H
                        have A38 := Aside0.mk A380
                        clear A380
                        by_cases c39 : (t105.size : Int) < 2
                        · rw [if_pos c39] at H
                          have c39b0 : decide ((t105.size : Int) < 2) = true := decide_eq_true c39
                          have c39b1 : decide (t105.size < 2) = true := decide_eq_true (by omega)
                          clear c39
                          by_cases c40 : ((rd_T59 l0_0 x33_2).f2) = 0
                          · rw [if_pos c40] at H
                            have c40b0 : (((rd_T59 l0_0 x33_2).f2) == 0) = true := beq_iff_eq.mpr c40
                            have c40b1 : (((rd_T59 l0_0 x33_2).f2) != 0) = false := bne_eq_false_iff_eq.mpr c40
                            clear c40
                            by_cases c41 : (t105.size : Int) < 3
                            · rw [if_pos c41] at H
                              have c41b0 : decide ((t105.size : Int) < 3) = true := decide_eq_true c41
                              have c41b1 : decide (t105.size < 3) = true := decide_eq_true (by omega)
                              clear c41
                              by_cases c42 : ((rd_T59 l0_0 x33_2).f3) = 0
                              · rw [if_pos c42] at H
                                have c42b0 : (((rd_T59 l0_0 x33_2).f3) == 0) = true := beq_iff_eq.mpr c42
                                have c42b1 : (((rd_T59 l0_0 x33_2).f3) != 0) = false := bne_eq_false_iff_eq.mpr c42
                                clear c42
                                have H' := Aside0.mk H
                                clear H
                                have hnb43 := NB103_101.out
                                have hnc43 := NB101_103.out
                                have hcz44_0 : wc.cell? ⟨gb103, 0, none⟩ = some (.int .u8 ((rd_T59 l0_0 x33_2).f0)) := (blk_cell BK103.out 0).trans rfl
                                have hcz44_1 : wc.cell? ⟨gb103, 1, none⟩ = some (.int .i64 ((rd_T59 l0_0 x33_2).f1)) := (blk_cell BK103.out 1).trans rfl
                                have hcz44_2 : wc.cell? ⟨gb103, 2, none⟩ = some (.int .i64 ((rd_T59 l0_0 x33_2).f2)) := (blk_cell BK103.out 2).trans rfl
                                have hcz44_3 : wc.cell? ⟨gb103, 3, none⟩ = some (.int .u8 ((rd_T59 l0_0 x33_2).f3)) := (blk_cell BK103.out 3).trans rfl
                                have hfz44_0 := blk_frozen BK103.out 0
                                have hfz44_1 := blk_frozen BK103.out 1
                                have hfz44_2 := blk_frozen BK103.out 2
                                have hfz44_3 := blk_frozen BK103.out 3
                                go_wp2_with (first | ((with_reducible refine gate_callee (f := 73) rfl ?_); refine goesL_ (some 63) rfl rfl Try.func73 (by kernel_rfl) rfl #[.int .u8 ((rd_T59 l0_0 x33_2).f0)] rfl (by (try simp only [List.map_toArray, List.map_cons, List.map_nil]); first | done | rfl | (simp only [List.length_drop, List.length_take]; rfl)) ?_; (with_reducible refine (emit_fields.calls ((rd_T59 l0_0 x33_2).f0) t105 _ A38.out).mono ?_); rintro e w' ⟨rfl, ⟨nd, rfl⟩⟩; refine ⟨_, rfl, ?_⟩))
                                go_roundg kj17
                                case measure => have := HJ1.out; have := HK2.out; have := HJ17.out; omega
                                case rel => exact ⟨(wrap64 (x33_2 + 1)), (by first | rfl | (simp; done) | (simp [*]; done)), H', ⟨by have := HJ1.out; have := HK2.out; have := HJ17.out; omega⟩, ⟨by (with_reducible repeat first | apply blk_drewN | apply blk_drew | apply blk_alloc); exact BK101.out⟩, ⟨by repeat (first | (with_reducible first | exact HB.out | apply below_alloc | apply pw_below_drewN | apply below_drew1 | refine below_set ?_ GE101.out | refine below_set ?_ GE103.out) | exact HB.out)⟩⟩
                              · rw [if_neg c42] at H
                                have c42b0 : (((rd_T59 l0_0 x33_2).f3) == 0) = false := beq_eq_false_iff_ne.mpr c42
                                have c42b1 : (((rd_T59 l0_0 x33_2).f3) != 0) = true := bne_iff_ne.mpr c42
                                obtain rfl := Option.some.inj H
                                have hnb45 := NB103_101.out
                                have hnc45 := NB101_103.out
                                have hcz46_0 : wc.cell? ⟨gb103, 0, none⟩ = some (.int .u8 ((rd_T59 l0_0 x33_2).f0)) := (blk_cell BK103.out 0).trans rfl
                                have hcz46_1 : wc.cell? ⟨gb103, 1, none⟩ = some (.int .i64 ((rd_T59 l0_0 x33_2).f1)) := (blk_cell BK103.out 1).trans rfl
                                have hcz46_2 : wc.cell? ⟨gb103, 2, none⟩ = some (.int .i64 ((rd_T59 l0_0 x33_2).f2)) := (blk_cell BK103.out 2).trans rfl
                                have hcz46_3 : wc.cell? ⟨gb103, 3, none⟩ = some (.int .u8 ((rd_T59 l0_0 x33_2).f3)) := (blk_cell BK103.out 3).trans rfl
                                have hfz46_0 := blk_frozen BK103.out 0
                                have hfz46_1 := blk_frozen BK103.out 1
                                have hfz46_2 := blk_frozen BK103.out 2
                                have hfz46_3 := blk_frozen BK103.out 3
                                go_wp2_with (first | ((with_reducible refine gate_callee (f := 73) rfl ?_); refine goesL_ (some 63) rfl rfl Try.func73 (by kernel_rfl) rfl #[.int .u8 ((rd_T59 l0_0 x33_2).f0)] rfl (by (try simp only [List.map_toArray, List.map_cons, List.map_nil]); first | done | rfl | (simp only [List.length_drop, List.length_take]; rfl)) ?_; (with_reducible refine (emit_fields.calls ((rd_T59 l0_0 x33_2).f0) t105 _ A38.out).mono ?_); rintro e w' ⟨rfl, ⟨nd, rfl⟩⟩; refine ⟨_, rfl, ?_⟩))
                                go_ret
                                exact ⟨by first | rfl | (simp [errW_none, errW_some] <;> rfl) | (simp [*, errW_none, errW_some] <;> rfl), by repeat (first | (with_reducible first | exact HB.out | apply below_alloc | apply pw_below_drewN | apply below_drew1 | refine below_set ?_ GE101.out | refine below_set ?_ GE103.out) | exact HB.out)⟩
                            · rw [if_neg c41] at H
                              have c41b0 : decide ((t105.size : Int) < 3) = false := decide_eq_false c41
                              have c41b1 : decide (t105.size < 3) = false := decide_eq_false (by omega)
                              clear c41
                              have H' := Aside0.mk H
                              clear H
                              have hnb47 := NB103_101.out
                              have hnc47 := NB101_103.out
                              have hcz48_0 : wc.cell? ⟨gb103, 0, none⟩ = some (.int .u8 ((rd_T59 l0_0 x33_2).f0)) := (blk_cell BK103.out 0).trans rfl
                              have hcz48_1 : wc.cell? ⟨gb103, 1, none⟩ = some (.int .i64 ((rd_T59 l0_0 x33_2).f1)) := (blk_cell BK103.out 1).trans rfl
                              have hcz48_2 : wc.cell? ⟨gb103, 2, none⟩ = some (.int .i64 ((rd_T59 l0_0 x33_2).f2)) := (blk_cell BK103.out 2).trans rfl
                              have hcz48_3 : wc.cell? ⟨gb103, 3, none⟩ = some (.int .u8 ((rd_T59 l0_0 x33_2).f3)) := (blk_cell BK103.out 3).trans rfl
                              have hfz48_0 := blk_frozen BK103.out 0
                              have hfz48_1 := blk_frozen BK103.out 1
                              have hfz48_2 := blk_frozen BK103.out 2
                              have hfz48_3 := blk_frozen BK103.out 3
                              go_wp2_with (first | ((with_reducible refine gate_callee (f := 73) rfl ?_); refine goesL_ (some 63) rfl rfl Try.func73 (by kernel_rfl) rfl #[.int .u8 ((rd_T59 l0_0 x33_2).f0)] rfl (by (try simp only [List.map_toArray, List.map_cons, List.map_nil]); first | done | rfl | (simp only [List.length_drop, List.length_take]; rfl)) ?_; (with_reducible refine (emit_fields.calls ((rd_T59 l0_0 x33_2).f0) t105 _ A38.out).mono ?_); rintro e w' ⟨rfl, ⟨nd, rfl⟩⟩; refine ⟨_, rfl, ?_⟩))
                              go_roundg kj17
                              case measure => have := HJ1.out; have := HK2.out; have := HJ17.out; omega
                              case rel => exact ⟨(wrap64 (x33_2 + 1)), (by first | rfl | (simp; done) | (simp [*]; done)), H', ⟨by have := HJ1.out; have := HK2.out; have := HJ17.out; omega⟩, ⟨by (with_reducible repeat first | apply blk_drewN | apply blk_drew | apply blk_alloc); exact BK101.out⟩, ⟨by repeat (first | (with_reducible first | exact HB.out | apply below_alloc | apply pw_below_drewN | apply below_drew1 | refine below_set ?_ GE101.out | refine below_set ?_ GE103.out) | exact HB.out)⟩⟩
                          · rw [if_neg c40] at H
                            have c40b0 : (((rd_T59 l0_0 x33_2).f2) == 0) = false := beq_eq_false_iff_ne.mpr c40
                            have c40b1 : (((rd_T59 l0_0 x33_2).f2) != 0) = true := bne_iff_ne.mpr c40
                            obtain rfl := Option.some.inj H
                            have hnb49 := NB103_101.out
                            have hnc49 := NB101_103.out
                            have hcz50_0 : wc.cell? ⟨gb103, 0, none⟩ = some (.int .u8 ((rd_T59 l0_0 x33_2).f0)) := (blk_cell BK103.out 0).trans rfl
                            have hcz50_1 : wc.cell? ⟨gb103, 1, none⟩ = some (.int .i64 ((rd_T59 l0_0 x33_2).f1)) := (blk_cell BK103.out 1).trans rfl
                            have hcz50_2 : wc.cell? ⟨gb103, 2, none⟩ = some (.int .i64 ((rd_T59 l0_0 x33_2).f2)) := (blk_cell BK103.out 2).trans rfl
                            have hcz50_3 : wc.cell? ⟨gb103, 3, none⟩ = some (.int .u8 ((rd_T59 l0_0 x33_2).f3)) := (blk_cell BK103.out 3).trans rfl
                            have hfz50_0 := blk_frozen BK103.out 0
                            have hfz50_1 := blk_frozen BK103.out 1
                            have hfz50_2 := blk_frozen BK103.out 2
                            have hfz50_3 := blk_frozen BK103.out 3
                            go_wp2_with (first | ((with_reducible refine gate_callee (f := 73) rfl ?_); refine goesL_ (some 63) rfl rfl Try.func73 (by kernel_rfl) rfl #[.int .u8 ((rd_T59 l0_0 x33_2).f0)] rfl (by (try simp only [List.map_toArray, List.map_cons, List.map_nil]); first | done | rfl | (simp only [List.length_drop, List.length_take]; rfl)) ?_; (with_reducible refine (emit_fields.calls ((rd_T59 l0_0 x33_2).f0) t105 _ A38.out).mono ?_); rintro e w' ⟨rfl, ⟨nd, rfl⟩⟩; refine ⟨_, rfl, ?_⟩))
                            go_ret
                            exact ⟨by first | rfl | (simp [errW_none, errW_some] <;> rfl) | (simp [*, errW_none, errW_some] <;> rfl), by repeat (first | (with_reducible first | exact HB.out | apply below_alloc | apply pw_below_drewN | apply below_drew1 | refine below_set ?_ GE101.out | refine below_set ?_ GE103.out) | exact HB.out)⟩
                        · rw [if_neg c39] at H
                          have c39b0 : decide ((t105.size : Int) < 2) = false := decide_eq_false c39
                          have c39b1 : decide (t105.size < 2) = false := decide_eq_false (by omega)
                          clear c39
                          by_cases c51 : (t105.size : Int) < 3
                          · rw [if_pos c51] at H
                            have c51b0 : decide ((t105.size : Int) < 3) = true := decide_eq_true c51
                            have c51b1 : decide (t105.size < 3) = true := decide_eq_true (by omega)
                            clear c51
                            by_cases c52 : ((rd_T59 l0_0 x33_2).f3) = 0
                            · rw [if_pos c52] at H
                              have c52b0 : (((rd_T59 l0_0 x33_2).f3) == 0) = true := beq_iff_eq.mpr c52
                              have c52b1 : (((rd_T59 l0_0 x33_2).f3) != 0) = false := bne_eq_false_iff_eq.mpr c52
                              clear c52
                              have H' := Aside0.mk H
                              clear H
                              have hnb53 := NB103_101.out
                              have hnc53 := NB101_103.out
                              have hcz54_0 : wc.cell? ⟨gb103, 0, none⟩ = some (.int .u8 ((rd_T59 l0_0 x33_2).f0)) := (blk_cell BK103.out 0).trans rfl
                              have hcz54_1 : wc.cell? ⟨gb103, 1, none⟩ = some (.int .i64 ((rd_T59 l0_0 x33_2).f1)) := (blk_cell BK103.out 1).trans rfl
                              have hcz54_2 : wc.cell? ⟨gb103, 2, none⟩ = some (.int .i64 ((rd_T59 l0_0 x33_2).f2)) := (blk_cell BK103.out 2).trans rfl
                              have hcz54_3 : wc.cell? ⟨gb103, 3, none⟩ = some (.int .u8 ((rd_T59 l0_0 x33_2).f3)) := (blk_cell BK103.out 3).trans rfl
                              have hfz54_0 := blk_frozen BK103.out 0
                              have hfz54_1 := blk_frozen BK103.out 1
                              have hfz54_2 := blk_frozen BK103.out 2
                              have hfz54_3 := blk_frozen BK103.out 3
                              go_wp2_with (first | ((with_reducible refine gate_callee (f := 73) rfl ?_); refine goesL_ (some 63) rfl rfl Try.func73 (by kernel_rfl) rfl #[.int .u8 ((rd_T59 l0_0 x33_2).f0)] rfl (by (try simp only [List.map_toArray, List.map_cons, List.map_nil]); first | done | rfl | (simp only [List.length_drop, List.length_take]; rfl)) ?_; (with_reducible refine (emit_fields.calls ((rd_T59 l0_0 x33_2).f0) t105 _ A38.out).mono ?_); rintro e w' ⟨rfl, ⟨nd, rfl⟩⟩; refine ⟨_, rfl, ?_⟩))
                              go_roundg kj17
                              case measure => have := HJ1.out; have := HK2.out; have := HJ17.out; omega
                              case rel => exact ⟨(wrap64 (x33_2 + 1)), (by first | rfl | (simp; done) | (simp [*]; done)), H', ⟨by have := HJ1.out; have := HK2.out; have := HJ17.out; omega⟩, ⟨by (with_reducible repeat first | apply blk_drewN | apply blk_drew | apply blk_alloc); exact BK101.out⟩, ⟨by repeat (first | (with_reducible first | exact HB.out | apply below_alloc | apply pw_below_drewN | apply below_drew1 | refine below_set ?_ GE101.out | refine below_set ?_ GE103.out) | exact HB.out)⟩⟩
                            · rw [if_neg c52] at H
                              have c52b0 : (((rd_T59 l0_0 x33_2).f3) == 0) = false := beq_eq_false_iff_ne.mpr c52
                              have c52b1 : (((rd_T59 l0_0 x33_2).f3) != 0) = true := bne_iff_ne.mpr c52
                              obtain rfl := Option.some.inj H
                              have hnb55 := NB103_101.out
                              have hnc55 := NB101_103.out
                              have hcz56_0 : wc.cell? ⟨gb103, 0, none⟩ = some (.int .u8 ((rd_T59 l0_0 x33_2).f0)) := (blk_cell BK103.out 0).trans rfl
                              have hcz56_1 : wc.cell? ⟨gb103, 1, none⟩ = some (.int .i64 ((rd_T59 l0_0 x33_2).f1)) := (blk_cell BK103.out 1).trans rfl
                              have hcz56_2 : wc.cell? ⟨gb103, 2, none⟩ = some (.int .i64 ((rd_T59 l0_0 x33_2).f2)) := (blk_cell BK103.out 2).trans rfl
                              have hcz56_3 : wc.cell? ⟨gb103, 3, none⟩ = some (.int .u8 ((rd_T59 l0_0 x33_2).f3)) := (blk_cell BK103.out 3).trans rfl
                              have hfz56_0 := blk_frozen BK103.out 0
                              have hfz56_1 := blk_frozen BK103.out 1
                              have hfz56_2 := blk_frozen BK103.out 2
                              have hfz56_3 := blk_frozen BK103.out 3
                              go_wp2_with (first | ((with_reducible refine gate_callee (f := 73) rfl ?_); refine goesL_ (some 63) rfl rfl Try.func73 (by kernel_rfl) rfl #[.int .u8 ((rd_T59 l0_0 x33_2).f0)] rfl (by (try simp only [List.map_toArray, List.map_cons, List.map_nil]); first | done | rfl | (simp only [List.length_drop, List.length_take]; rfl)) ?_; (with_reducible refine (emit_fields.calls ((rd_T59 l0_0 x33_2).f0) t105 _ A38.out).mono ?_); rintro e w' ⟨rfl, ⟨nd, rfl⟩⟩; refine ⟨_, rfl, ?_⟩))
                              go_ret
                              exact ⟨by first | rfl | (simp [errW_none, errW_some] <;> rfl) | (simp [*, errW_none, errW_some] <;> rfl), by repeat (first | (with_reducible first | exact HB.out | apply below_alloc | apply pw_below_drewN | apply below_drew1 | refine below_set ?_ GE101.out | refine below_set ?_ GE103.out) | exact HB.out)⟩
                          · rw [if_neg c51] at H
                            have c51b0 : decide ((t105.size : Int) < 3) = false := decide_eq_false c51
                            have c51b1 : decide (t105.size < 3) = false := decide_eq_false (by omega)
                            clear c51
                            have H' := Aside0.mk H
                            clear H
                            have hnb57 := NB103_101.out
                            have hnc57 := NB101_103.out
                            have hcz58_0 : wc.cell? ⟨gb103, 0, none⟩ = some (.int .u8 ((rd_T59 l0_0 x33_2).f0)) := (blk_cell BK103.out 0).trans rfl
                            have hcz58_1 : wc.cell? ⟨gb103, 1, none⟩ = some (.int .i64 ((rd_T59 l0_0 x33_2).f1)) := (blk_cell BK103.out 1).trans rfl
                            have hcz58_2 : wc.cell? ⟨gb103, 2, none⟩ = some (.int .i64 ((rd_T59 l0_0 x33_2).f2)) := (blk_cell BK103.out 2).trans rfl
                            have hcz58_3 : wc.cell? ⟨gb103, 3, none⟩ = some (.int .u8 ((rd_T59 l0_0 x33_2).f3)) := (blk_cell BK103.out 3).trans rfl
                            have hfz58_0 := blk_frozen BK103.out 0
                            have hfz58_1 := blk_frozen BK103.out 1
                            have hfz58_2 := blk_frozen BK103.out 2
                            have hfz58_3 := blk_frozen BK103.out 3
                            go_wp2_with (first | ((with_reducible refine gate_callee (f := 73) rfl ?_); refine goesL_ (some 63) rfl rfl Try.func73 (by kernel_rfl) rfl #[.int .u8 ((rd_T59 l0_0 x33_2).f0)] rfl (by (try simp only [List.map_toArray, List.map_cons, List.map_nil]); first | done | rfl | (simp only [List.length_drop, List.length_take]; rfl)) ?_; (with_reducible refine (emit_fields.calls ((rd_T59 l0_0 x33_2).f0) t105 _ A38.out).mono ?_); rintro e w' ⟨rfl, ⟨nd, rfl⟩⟩; refine ⟨_, rfl, ?_⟩))
                            go_roundg kj17
                            case measure => have := HJ1.out; have := HK2.out; have := HJ17.out; omega
                            case rel => exact ⟨(wrap64 (x33_2 + 1)), (by first | rfl | (simp; done) | (simp [*]; done)), H', ⟨by have := HJ1.out; have := HK2.out; have := HJ17.out; omega⟩, ⟨by (with_reducible repeat first | apply blk_drewN | apply blk_drew | apply blk_alloc); exact BK101.out⟩, ⟨by repeat (first | (with_reducible first | exact HB.out | apply below_alloc | apply pw_below_drewN | apply below_drew1 | refine below_set ?_ GE101.out | refine below_set ?_ GE103.out) | exact HB.out)⟩⟩
                · rw [if_neg c17] at H
                  exact absurd H (by simp)
              · rw [if_neg c16] at H
                exact absurd H (by simp)
            · rw [if_neg c15] at H
              have c15b0 : decide (x33_2 < (l0_0.length : Int)) = false := decide_eq_false c15
              clear c15
              obtain rfl := Option.some.inj H
              go_wp2
              go_ret
              exact ⟨by first | rfl | (simp [errW_none, errW_some] <;> rfl) | (simp [*, errW_none, errW_some] <;> rfl), by repeat (first | (with_reducible first | exact HB.out | apply below_alloc | apply pw_below_drewN | apply below_drew1 | refine below_set ?_ GE101.out) | exact HB.out)⟩

end Go.Proofs.Ythbjcafldbocpaa.P0
