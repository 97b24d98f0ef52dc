-- Out of the translation, by this session's turn of the print (wip/gp.py).
import Derived.Test.YthbjcafldbocpaaCVerifyDoesx0
namespace Go.Proofs.Ythbjcafldbocpaa.P0
open Go.RowKit Go.Proofs.YthbjcafldbocpaaW.PrintWords Go.Proofs.YthbjcafldbocpaaW.PrintLast Go.Proofs.YthbjcafldbocpaaW.PrintMore
attribute [local go_sem] max2_int min2_int max_two min_two max_three min_three max_four min_four   -- for this text's walks alone
set_option linter.unusedVariables false
set_option linter.unusedSimpArgs false

mutual
def recoupref24_Can.j0 : Nat → Bool → List (S59) → Int → Int → Int → Option (Bool)
  | 0, _, _, _, _, _ => none
  | k + 1, x29, x118000, x118001, x118002, x118003 => if x29 = true then (some false) else (recoupref24_Can.l0 k 0 x118000 x118001 x118002 x118003)
def recoupref24_Can.l0 : Nat → Int → List (S59) → Int → Int → Int → Option (Bool)
  | 0, _, _, _, _, _ => none
  | k + 1, x3, x118000, x118001, x118002, x118003 => if x3 < (x118000.length : Int) then (if 0 ≤ x3 then (if ((rd_T59 x118000 x3).f0) < 1 then (recoupref24_Can.j2 k x3 true x118000 x118001 x118002 x118003 ((rd_T59 x118000 x3).f0) ((rd_T59 x118000 x3).f1) ((rd_T59 x118000 x3).f2) ((rd_T59 x118000 x3).f3)) else (if ((rd_T59 x118000 x3).f0) > 4 then (recoupref24_Can.j2 k x3 true x118000 x118001 x118002 x118003 ((rd_T59 x118000 x3).f0) ((rd_T59 x118000 x3).f1) ((rd_T59 x118000 x3).f2) ((rd_T59 x118000 x3).f3)) else (if ((rd_T59 x118000 x3).f1) < 0 then (recoupref24_Can.j2 k x3 true x118000 x118001 x118002 x118003 ((rd_T59 x118000 x3).f0) ((rd_T59 x118000 x3).f1) ((rd_T59 x118000 x3).f2) ((rd_T59 x118000 x3).f3)) else (if ((rd_T59 x118000 x3).f1) > 255 then (recoupref24_Can.j2 k x3 true x118000 x118001 x118002 x118003 ((rd_T59 x118000 x3).f0) ((rd_T59 x118000 x3).f1) ((rd_T59 x118000 x3).f2) ((rd_T59 x118000 x3).f3)) else (if ((rd_T59 x118000 x3).f2) < 0 then (recoupref24_Can.j2 k x3 true x118000 x118001 x118002 x118003 ((rd_T59 x118000 x3).f0) ((rd_T59 x118000 x3).f1) ((rd_T59 x118000 x3).f2) ((rd_T59 x118000 x3).f3)) else (recoupref24_Can.j2 k x3 (decide (((rd_T59 x118000 x3).f2) > 255)) x118000 x118001 x118002 x118003 ((rd_T59 x118000 x3).f0) ((rd_T59 x118000 x3).f1) ((rd_T59 x118000 x3).f2) ((rd_T59 x118000 x3).f3))))))) else (none)) else (some true)
def recoupref24_Can.j2 : Nat → Int → Bool → List (S59) → Int → Int → Int → Int → Int → Int → Int → Option (Bool)
  | 0, _, _, _, _, _, _, _, _, _, _ => none
  | k + 1, x3, x69, x118000, x118001, x118002, x118003, x120000, x120001, x120002, x120003 => if x69 = true then (some false) else ((recoupref24_fields.f x120000).bind fun t120 => (if t120 < 2 then (if x120002 = 0 then (if t120 < 3 then (if x120003 = 0 then (recoupref24_Can.l0 k (wrap64 (x3 + 1)) x118000 x118001 x118002 x118003) else (some false)) else (recoupref24_Can.l0 k (wrap64 (x3 + 1)) x118000 x118001 x118002 x118003)) else (some false)) else (if t120 < 3 then (if x120003 = 0 then (recoupref24_Can.l0 k (wrap64 (x3 + 1)) x118000 x118001 x118002 x118003) else (some false)) else (recoupref24_Can.l0 k (wrap64 (x3 + 1)) x118000 x118001 x118002 x118003))))
end
def recoupref24_Can.f (k : Nat) (l0_0 : List (S59)) (a0_1 : Int) (a0_2 : Int) (a0_3 : Int) : Option (Bool) := if a0_1 < 0 then (recoupref24_Can.j0 k true l0_0 a0_1 a0_2 a0_3) else (if a0_1 > 256 then (recoupref24_Can.j0 k true l0_0 a0_1 a0_2 a0_3) else (if a0_2 < 0 then (recoupref24_Can.j0 k true l0_0 a0_1 a0_2 a0_3) else (if a0_2 > 64 then (recoupref24_Can.j0 k true l0_0 a0_1 a0_2 a0_3) else (recoupref24_Can.j0 k (decide ((l0_0.length : Int) > 65536)) l0_0 a0_1 a0_2 a0_3))))
set_option maxHeartbeats 8000000 in
set_option maxRecDepth 100000 in
theorem recoupref24_Can.calls (k : Nat) (A0_0 : Option Addr) (c0_0 : Nat) (l0_0 : List (S59)) (a0_1 : Int) (a0_2 : Int) (a0_3 : Int) (r : Bool) (w : World) (hr0_0 : Kd.C k59 w A0_0 l0_0.length l0_0) (hc0_0 : l0_0.length ≤ c0_0) (h : recoupref24_Can.f k l0_0 a0_1 a0_2 a0_3 = some r) :
    Calls Try.prog 50 #[.agg #[.slice A0_0 l0_0.length c0_0, .int .i64 a0_1, .int .i64 a0_2, .int .u64 a0_3]] w fun e w' => e = .returned (.bool r) ∧ Below w.heap.size w w' := by
  have hu26 := Try.underlying26
  have hu59 := Try.underlying59
  have HR0_0 := Aside0.mk hr0_0
  have HC0_0 := Aside0.mk hc0_0
  clear hr0_0 hc0_0
  have HB := Aside0.mk (Below.refl w.heap.size w)
  have H : (if a0_1 < 0 then (recoupref24_Can.j0 k true l0_0 a0_1 a0_2 a0_3) else (if a0_1 > 256 then (recoupref24_Can.j0 k true l0_0 a0_1 a0_2 a0_3) else (if a0_2 < 0 then (recoupref24_Can.j0 k true l0_0 a0_1 a0_2 a0_3) else (if a0_2 > 64 then (recoupref24_Can.j0 k true l0_0 a0_1 a0_2 a0_3) else (recoupref24_Can.j0 k (decide ((l0_0.length : Int) > 65536)) l0_0 a0_1 a0_2 a0_3))))) = some r := h
  clear h
  have HC2 := Aside0.mk H
  clear H
  go_enter Try.func50, Try.ntmps50
  go_upto_region 1 with (first | ((with_reducible refine gate_dst (N := 1) rfl ?_); (try (refine gate_guard (by rfl) ?_; dsimp only)); refine box_event ?hg (N := 1) ?hd (cs := #[.slice A0_0 l0_0.length c0_0, .int .i64 a0_1, .int .i64 a0_2, .int .u64 a0_3]) (t := 26) ?hr ?_; (case hd => rfl); (case hg => rfl); (case hr => first | (go_simp; done) | (go_simp; rfl)); intro gb117 hg w3 hbox hb; have n0_ := Aside0.mk (below_step (by repeat (first | (with_reducible first | exact HB.out | apply below_alloc | apply pw_below_drewN | apply below_drew1) | exact HB.out)) hb); have n1_ := Aside0.mk (hbox); have n2_ := Aside0.mk ((by rw [hg]; exact (below_size (by repeat (first | (with_reducible first | exact HB.out | apply below_alloc | apply pw_below_drewN | apply below_drew1) | exact HB.out))) : w.heap.size ≤ gb117)); have n3_ := Aside0.mk ((by rw [hg]; exact (below_size (by repeat (first | (with_reducible first | exact HB.out | apply below_alloc | apply pw_below_drewN | apply below_drew1) | exact HB.out))) : w.heap.size ≤ gb117)); clear HB; have HB := n0_; have BK117 := n1_; have GW117 := n2_; have GE117 := n3_; clear n0_ n1_ n2_ n3_; clear hb hbox hg))
  (try simp only [Act.put, List.setIfInBounds_toArray, List.set_cons_zero, List.set_cons_succ])
  go_cut [29] (fun v29 wc => ∃ (kq : Nat) (x29_1 : Bool), v29 = .bool x29_1 ∧ Aside0 (recoupref24_Can.j0 kq x29_1 l0_0 a0_1 a0_2 a0_3 = some r) ∧ Aside0 (kq ≤ k) ∧ Aside0 (wc.heap[gb117]? = some (.cells #[(.slice A0_0 l0_0.length c0_0), .int .i64 a0_1, .int .i64 a0_2, .int .u64 a0_3] 26 (0, 0))) ∧ Aside0 (Below w.heap.size w wc))
  case first =>
    have H := HC2.out
    clear HC2
    by_cases c4 : a0_1 < 0
    · rw [if_pos c4] at H
      have c4b0 : decide (a0_1 < 0) = true := decide_eq_true c4
      clear c4
      (first | rw [c4b0] | (simp only [i64_w, i32_w]; rw [c4b0]) | rw [c4b1] | skip)
      have H' := Aside0.mk H
      clear H
      have hcz5_0 : w3.cell? ⟨gb117, 0, none⟩ = some (.slice A0_0 l0_0.length c0_0) := (blk_cell BK117.out 0).trans rfl
      have hcz5_1 : w3.cell? ⟨gb117, 1, none⟩ = some (.int .i64 a0_1) := (blk_cell BK117.out 1).trans rfl
      have hcz5_2 : w3.cell? ⟨gb117, 2, none⟩ = some (.int .i64 a0_2) := (blk_cell BK117.out 2).trans rfl
      have hcz5_3 : w3.cell? ⟨gb117, 3, none⟩ = some (.int .u64 a0_3) := (blk_cell BK117.out 3).trans rfl
      have hfz5_0 := blk_frozen BK117.out 0
      have hfz5_1 := blk_frozen BK117.out 1
      have hfz5_2 := blk_frozen BK117.out 2
      have hfz5_3 := blk_frozen BK117.out 3
      go_wp2
      go_meet
      case rel => exact ⟨_, (true), (by first | rfl | (simp; done) | (simp [*]; done)), H', ⟨by first | omega | exact Nat.le_refl _⟩, ⟨by (with_reducible repeat first | apply blk_drewN | apply blk_drew | apply blk_alloc); exact BK117.out⟩, ⟨by repeat (first | (with_reducible first | exact HB.out | apply below_alloc | apply pw_below_drewN | apply below_drew1 | refine below_set ?_ GE117.out) | exact HB.out)⟩⟩
    · rw [if_neg c4] at H
      have c4b0 : decide (a0_1 < 0) = false := decide_eq_false c4
      clear c4
      (first | rw [c4b0] | (simp only [i64_w, i32_w]; rw [c4b0]) | rw [c4b1] | skip)
      by_cases c6 : a0_1 > 256
      · rw [if_pos c6] at H
        have c6b0 : decide (256 < a0_1) = true := decide_eq_true c6
        clear c6
        have H' := Aside0.mk H
        clear H
        have hcz7_0 : w3.cell? ⟨gb117, 0, none⟩ = some (.slice A0_0 l0_0.length c0_0) := (blk_cell BK117.out 0).trans rfl
        have hcz7_1 : w3.cell? ⟨gb117, 1, none⟩ = some (.int .i64 a0_1) := (blk_cell BK117.out 1).trans rfl
        have hcz7_2 : w3.cell? ⟨gb117, 2, none⟩ = some (.int .i64 a0_2) := (blk_cell BK117.out 2).trans rfl
        have hcz7_3 : w3.cell? ⟨gb117, 3, none⟩ = some (.int .u64 a0_3) := (blk_cell BK117.out 3).trans rfl
        have hfz7_0 := blk_frozen BK117.out 0
        have hfz7_1 := blk_frozen BK117.out 1
        have hfz7_2 := blk_frozen BK117.out 2
        have hfz7_3 := blk_frozen BK117.out 3
        go_wp2
        go_meet
        case rel => exact ⟨_, (true), (by first | rfl | (simp; done) | (simp [*]; done)), H', ⟨by first | omega | exact Nat.le_refl _⟩, ⟨by (with_reducible repeat first | apply blk_drewN | apply blk_drew | apply blk_alloc); exact BK117.out⟩, ⟨by repeat (first | (with_reducible first | exact HB.out | apply below_alloc | apply pw_below_drewN | apply below_drew1 | refine below_set ?_ GE117.out) | exact HB.out)⟩⟩
      · rw [if_neg c6] at H
        have c6b0 : decide (256 < a0_1) = false := decide_eq_false c6
        clear c6
        by_cases c8 : a0_2 < 0
        · rw [if_pos c8] at H
          have c8b0 : decide (a0_2 < 0) = true := decide_eq_true c8
          clear c8
          have H' := Aside0.mk H
          clear H
          have hcz9_0 : w3.cell? ⟨gb117, 0, none⟩ = some (.slice A0_0 l0_0.length c0_0) := (blk_cell BK117.out 0).trans rfl
          have hcz9_1 : w3.cell? ⟨gb117, 1, none⟩ = some (.int .i64 a0_1) := (blk_cell BK117.out 1).trans rfl
          have hcz9_2 : w3.cell? ⟨gb117, 2, none⟩ = some (.int .i64 a0_2) := (blk_cell BK117.out 2).trans rfl
          have hcz9_3 : w3.cell? ⟨gb117, 3, none⟩ = some (.int .u64 a0_3) := (blk_cell BK117.out 3).trans rfl
          have hfz9_0 := blk_frozen BK117.out 0
          have hfz9_1 := blk_frozen BK117.out 1
          have hfz9_2 := blk_frozen BK117.out 2
          have hfz9_3 := blk_frozen BK117.out 3
          go_wp2
          go_meet
          case rel => exact ⟨_, (true), (by first | rfl | (simp; done) | (simp [*]; done)), H', ⟨by first | omega | exact Nat.le_refl _⟩, ⟨by (with_reducible repeat first | apply blk_drewN | apply blk_drew | apply blk_alloc); exact BK117.out⟩, ⟨by repeat (first | (with_reducible first | exact HB.out | apply below_alloc | apply pw_below_drewN | apply below_drew1 | refine below_set ?_ GE117.out) | exact HB.out)⟩⟩
        · rw [if_neg c8] at H
          have c8b0 : decide (a0_2 < 0) = false := decide_eq_false c8
          clear c8
          by_cases c10 : a0_2 > 64
          · rw [if_pos c10] at H
            have c10b0 : decide (64 < a0_2) = true := decide_eq_true c10
            clear c10
            have H' := Aside0.mk H
            clear H
            have hcz11_0 : w3.cell? ⟨gb117, 0, none⟩ = some (.slice A0_0 l0_0.length c0_0) := (blk_cell BK117.out 0).trans rfl
            have hcz11_1 : w3.cell? ⟨gb117, 1, none⟩ = some (.int .i64 a0_1) := (blk_cell BK117.out 1).trans rfl
            have hcz11_2 : w3.cell? ⟨gb117, 2, none⟩ = some (.int .i64 a0_2) := (blk_cell BK117.out 2).trans rfl
            have hcz11_3 : w3.cell? ⟨gb117, 3, none⟩ = some (.int .u64 a0_3) := (blk_cell BK117.out 3).trans rfl
            have hfz11_0 := blk_frozen BK117.out 0
            have hfz11_1 := blk_frozen BK117.out 1
            have hfz11_2 := blk_frozen BK117.out 2
            have hfz11_3 := blk_frozen BK117.out 3
            go_wp2
            go_meet
            case rel => exact ⟨_, (true), (by first | rfl | (simp; done) | (simp [*]; done)), H', ⟨by first | omega | exact Nat.le_refl _⟩, ⟨by (with_reducible repeat first | apply blk_drewN | apply blk_drew | apply blk_alloc); exact BK117.out⟩, ⟨by repeat (first | (with_reducible first | exact HB.out | apply below_alloc | apply pw_below_drewN | apply below_drew1 | refine below_set ?_ GE117.out) | exact HB.out)⟩⟩
          · rw [if_neg c10] at H
            have c10b0 : decide (64 < a0_2) = false := decide_eq_false c10
            clear c10
            have H' := Aside0.mk H
            clear H
            have hcz12_0 : w3.cell? ⟨gb117, 0, none⟩ = some (.slice A0_0 l0_0.length c0_0) := (blk_cell BK117.out 0).trans rfl
            have hcz12_1 : w3.cell? ⟨gb117, 1, none⟩ = some (.int .i64 a0_1) := (blk_cell BK117.out 1).trans rfl
            have hcz12_2 : w3.cell? ⟨gb117, 2, none⟩ = some (.int .i64 a0_2) := (blk_cell BK117.out 2).trans rfl
            have hcz12_3 : w3.cell? ⟨gb117, 3, none⟩ = some (.int .u64 a0_3) := (blk_cell BK117.out 3).trans rfl
            have hfz12_0 := blk_frozen BK117.out 0
            have hfz12_1 := blk_frozen BK117.out 1
            have hfz12_2 := blk_frozen BK117.out 2
            have hfz12_3 := blk_frozen BK117.out 3
            go_wp2
            go_meet
            case rel => exact ⟨_, (decide ((l0_0.length : Int) > 65536)), (by first | rfl | (simp; done) | (simp [*]; done)), H', ⟨by first | omega | exact Nat.le_refl _⟩, ⟨by (with_reducible repeat first | apply blk_drewN | apply blk_drew | apply blk_alloc); exact BK117.out⟩, ⟨by repeat (first | (with_reducible first | exact HB.out | apply below_alloc | apply pw_below_drewN | apply below_drew1 | refine below_set ?_ GE117.out) | exact HB.out)⟩⟩
  case rest =>
    clear HC2
    try clear c1
    try clear p2
    try clear c4
    try clear c4b0
    try clear c4b1
    try clear c5
    try clear c6
    try clear c6b0
    try clear c8
    try clear c8b0
    try clear c10
    try clear c10b0
    try clear hcz11_0
    try clear hcz11_1
    try clear hcz11_2
    try clear hcz11_3
    try clear hcz12_0
    try clear hcz12_1
    try clear hcz12_2
    try clear hcz12_3
    try clear hcz5_0
    try clear hcz5_1
    try clear hcz5_2
    try clear hcz5_3
    try clear hcz7_0
    try clear hcz7_1
    try clear hcz7_2
    try clear hcz7_3
    try clear hcz9_0
    try clear hcz9_1
    try clear hcz9_2
    try clear hcz9_3
    try clear hfz11_0
    try clear hfz11_1
    try clear hfz11_2
    try clear hfz11_3
    try clear hfz12_0
    try clear hfz12_1
    try clear hfz12_2
    try clear hfz12_3
    try clear hfz5_0
    try clear hfz5_1
    try clear hfz5_2
    try clear hfz5_3
    try clear hfz7_0
    try clear hfz7_1
    try clear hfz7_2
    try clear hfz7_3
    try clear hfz9_0
    try clear hfz9_1
    try clear hfz9_2
    try clear hfz9_3
    obtain ⟨kq, x29_1, rfl, HA, HJ1, BK117, HB⟩ := hcut
    cases kq with
    | zero => exact absurd HA.out (by simp [recoupref24_Can.j0])
    | succ kj1 =>
      have H := HA.out
      clear HA
      simp only [recoupref24_Can.j0] at H
      by_cases c13 : x29_1 = true
      · subst c13
        have H1 : (some false) = some r := by rw [if_pos rfl] at H; exact H
        clear H
        have H := H1
        clear H1
        obtain rfl := Option.some.inj H
        go_wp2
        go_ret
        exact ⟨by first | rfl | (simp [errW_none, errW_some] <;> rfl) | (simp [*, errW_none, errW_some] <;> rfl), by repeat (first | (with_reducible first | exact HB.out | apply below_alloc | apply pw_below_drewN | apply below_drew1 | refine below_set ?_ GE117.out) | exact HB.out)⟩
      · replace c13 := Bool.eq_false_iff.mpr c13
        subst c13
        have H1 : (recoupref24_Can.l0 kj1 0 l0_0 a0_1 a0_2 a0_3) = some r := by rw [if_neg (show ¬ (false = true) by decide)] at H; exact H
        clear H
        have H := H1
        clear H1
        have H' := Aside0.mk H
        clear H
        go_wp2
        go_loopg [3] kj1 (fun kq v3 w' => ∃ (x3_2 : Int), v3 = .int .i64 x3_2 ∧ Aside0 (recoupref24_Can.l0 kq x3_2 l0_0 a0_1 a0_2 a0_3 = some r) ∧ Aside0 (kq ≤ kj1) ∧ Aside0 (w'.heap[gb117]? = some (.cells #[(.slice A0_0 l0_0.length c0_0), .int .i64 a0_1, .int .i64 a0_2, .int .u64 a0_3] 26 (0, 0))) ∧ Aside0 (Below w.heap.size w w'))
        case atStart => exact ⟨(0), (by first | rfl | (simp; done) | (simp [*]; done)), H', ⟨Nat.le_refl _⟩, ⟨by (with_reducible repeat first | apply blk_drewN | apply blk_drew | apply blk_alloc); exact BK117.out⟩, ⟨by repeat (first | (with_reducible first | exact HB.out | apply below_alloc | apply pw_below_drewN | apply below_drew1 | refine below_set ?_ GE117.out) | exact HB.out)⟩⟩
        case round =>
          clear H'
          try clear c1
          try clear p2
          try clear c4
          try clear c4b0
          try clear c4b1
          try clear c5
          try clear c6
          try clear c6b0
          try clear c8
          try clear c8b0
          try clear c10
          try clear c10b0
          try clear c13
          try clear hcz11_0
          try clear hcz11_1
          try clear hcz11_2
          try clear hcz11_3
          try clear hcz12_0
          try clear hcz12_1
          try clear hcz12_2
          try clear hcz12_3
          try clear hcz5_0
          try clear hcz5_1
          try clear hcz5_2
          try clear hcz5_3
          try clear hcz7_0
          try clear hcz7_1
          try clear hcz7_2
          try clear hcz7_3
          try clear hcz9_0
          try clear hcz9_1
          try clear hcz9_2
          try clear hcz9_3
          try clear hfz11_0
          try clear hfz11_1
          try clear hfz11_2
          try clear hfz11_3
          try clear hfz12_0
          try clear hfz12_1
          try clear hfz12_2
          try clear hfz12_3
          try clear hfz5_0
          try clear hfz5_1
          try clear hfz5_2
          try clear hfz5_3
          try clear hfz7_0
          try clear hfz7_1
          try clear hfz7_2
          try clear hfz7_3
          try clear hfz9_0
          try clear hfz9_1
          try clear hfz9_2
          try clear hfz9_3
          try clear p2
          obtain ⟨x3_2, rfl, HA, HK2, BK117, HB⟩ := hrel
          cases gk with
          | zero => exact absurd HA.out (by simp [recoupref24_Can.l0])
          | succ k2 =>
            have H := HA.out
            clear HA
            simp only [recoupref24_Can.l0] at H
            by_cases c14 : x3_2 < (l0_0.length : Int)
            · rw [if_pos c14] at H
              have c14b0 : decide (x3_2 < (l0_0.length : Int)) = true := decide_eq_true c14
              clear c14
              by_cases c15 : 0 ≤ x3_2
              · rw [if_pos c15] at H
                have c15b0 : decide (0 ≤ x3_2) = true := decide_eq_true c15
                clear c15
                have HC16 := Aside0.mk H
                clear H
                have hcz17_0 : wr.cell? ⟨gb117, 0, none⟩ = some (.slice A0_0 l0_0.length c0_0) := (blk_cell BK117.out 0).trans rfl
                have hcz17_1 : wr.cell? ⟨gb117, 1, none⟩ = some (.int .i64 a0_1) := (blk_cell BK117.out 1).trans rfl
                have hcz17_2 : wr.cell? ⟨gb117, 2, none⟩ = some (.int .i64 a0_2) := (blk_cell BK117.out 2).trans rfl
                have hcz17_3 : wr.cell? ⟨gb117, 3, none⟩ = some (.int .u64 a0_3) := (blk_cell BK117.out 3).trans rfl
                have hfz17_0 := blk_frozen BK117.out 0
                have hfz17_1 := blk_frozen BK117.out 1
                have hfz17_2 := blk_frozen BK117.out 2
                have hfz17_3 := blk_frozen BK117.out 3
                have p118 : 0 ≤ (x3_2 : Int) := of_decide_eq_true (by first | (with_reducible assumption) | assumption)
                have q118 : x3_2 < (l0_0.length : Int) := of_decide_eq_true (by first | (with_reducible assumption) | assumption)
                obtain ⟨ad118, e118, hx118_0, hx118_1, hx118_2, hx118_3⟩ := at_T59 HR0_0.out x3_2 p118 q118
                cases e118
                replace hx118_0 := (HB.out.cell (World.block_lt_of_cell? w _ hx118_0)).trans hx118_0
                replace hx118_1 := (HB.out.cell (World.block_lt_of_cell? w _ hx118_1)).trans hx118_1
                replace hx118_2 := (HB.out.cell (World.block_lt_of_cell? w _ hx118_2)).trans hx118_2
                replace hx118_3 := (HB.out.cell (World.block_lt_of_cell? w _ hx118_3)).trans hx118_3
                replace p118 := eq_true p118
                replace q118 := eq_true q118
                go_upto_region 7 with (first | ((with_reducible refine gate_dst (N := 4) rfl ?_); (try (refine gate_guard (by rfl) ?_; dsimp only)); refine box_event ?hg (N := 4) ?hd (cs := #[.int .u8 0, .int .i64 0, .int .i64 0, .int .u8 0]) (t := 59) ?hr ?_; (case hd => rfl); (case hg => rfl); (case hr => first | (go_simp; done) | (go_simp; rfl)); intro gb119 hg w18 hbox hb; have n0_ := Aside0.mk (blk_below (g := gb117) (o := .cells #[.slice (some ad118) l0_0.length c0_0, .int .i64 a0_1, .int .i64 a0_2, .int .u64 a0_3] 26 (0, 0)) (by (with_reducible repeat first | apply blk_drewN | apply blk_drew | apply blk_alloc); exact BK117.out) hb); have n1_ := Aside0.mk (below_step (by repeat (first | (with_reducible first | exact HB.out | apply below_alloc | apply pw_below_drewN | apply below_drew1 | refine below_set ?_ GE117.out) | exact HB.out)) hb); have n2_ := Aside0.mk (hbox); have n3_ := Aside0.mk ((by rw [hg]; exact (below_size (by repeat (first | (with_reducible first | exact HB.out | apply below_alloc | apply pw_below_drewN | apply below_drew1 | refine below_set ?_ GE117.out) | exact HB.out))) : w.heap.size ≤ gb119)); have n4_ := Aside0.mk ((by rw [hg]; exact (below_size (by repeat (first | (with_reducible first | exact HB.out | apply below_alloc | apply pw_below_drewN | apply below_drew1 | refine below_set ?_ GE117.out) | exact HB.out))) : w.heap.size ≤ gb119)); have n5_ := Aside0.mk ((by rw [hg]; exact Nat.ne_of_lt (blk_lt (g := gb117) (o := .cells #[.slice (some ad118) l0_0.length c0_0, .int .i64 a0_1, .int .i64 a0_2, .int .u64 a0_3] 26 (0, 0)) (by (with_reducible repeat first | apply blk_drewN | apply blk_drew | apply blk_alloc); exact BK117.out)) : gb117 ≠ gb119)); have n6_ := Aside0.mk ((by rw [hg]; exact Nat.ne_of_gt (blk_lt (g := gb117) (o := .cells #[.slice (some ad118) l0_0.length c0_0, .int .i64 a0_1, .int .i64 a0_2, .int .u64 a0_3] 26 (0, 0)) (by (with_reducible repeat first | apply blk_drewN | apply blk_drew | apply blk_alloc); exact BK117.out)) : gb119 ≠ gb117)); clear BK117 HB; have BK117 := n0_; have HB := n1_; have BK119 := n2_; have GW119 := n3_; have GE119 := n4_; have NB117_119 := n5_; have NB119_117 := n6_; clear n0_ n1_ n2_ n3_ n4_ n5_ n6_; clear hb hbox hg; have hnb19 := NB119_117.out; have hnc19 := NB117_119.out; have hcz20_0 : w18.cell? ⟨gb119, 0, none⟩ = some (.int .u8 0) := (blk_cell BK119.out 0).trans rfl; have hcz20_1 : w18.cell? ⟨gb119, 1, none⟩ = some (.int .i64 0) := (blk_cell BK119.out 1).trans rfl; have hcz20_2 : w18.cell? ⟨gb119, 2, none⟩ = some (.int .i64 0) := (blk_cell BK119.out 2).trans rfl; have hcz20_3 : w18.cell? ⟨gb119, 3, none⟩ = some (.int .u8 0) := (blk_cell BK119.out 3).trans rfl; have hfz20_0 := blk_frozen BK119.out 0; have hfz20_1 := blk_frozen BK119.out 1; have hfz20_2 := blk_frozen BK119.out 2; have hfz20_3 := blk_frozen BK119.out 3))
                (try simp only [Act.put, List.setIfInBounds_toArray, List.set_cons_zero, List.set_cons_succ])
                go_cut [69] (fun v69 wc => ∃ (kq : Nat) (x69_15 : Bool), v69 = .bool x69_15 ∧ Aside0 (recoupref24_Can.j2 kq x3_2 x69_15 l0_0 a0_1 a0_2 a0_3 ((rd_T59 l0_0 x3_2).f0) ((rd_T59 l0_0 x3_2).f1) ((rd_T59 l0_0 x3_2).f2) ((rd_T59 l0_0 x3_2).f3) = some r) ∧ Aside0 (kq ≤ k2) ∧ Aside0 (wc.heap[gb117]? = some (.cells #[(.slice (some ad118) l0_0.length c0_0), .int .i64 a0_1, .int .i64 a0_2, .int .u64 a0_3] 26 (0, 0))) ∧ Aside0 (wc.heap[gb119]? = some (.cells #[.int .u8 ((rd_T59 l0_0 x3_2).f0), .int .i64 ((rd_T59 l0_0 x3_2).f1), .int .i64 ((rd_T59 l0_0 x3_2).f2), .int .u8 ((rd_T59 l0_0 x3_2).f3)] 59 (0, 0))) ∧ Aside0 (Below w.heap.size w wc))
                case first =>
                  have H := HC16.out
                  clear HC16
                  by_cases c21 : ((rd_T59 l0_0 x3_2).f0) < 1
                  · rw [if_pos c21] at H
                    have c21b0 : decide (((rd_T59 l0_0 x3_2).f0) < 1) = true := decide_eq_true c21
                    clear c21
                    (first | rw [c21b0] | (simp only [i64_w, i32_w]; rw [c21b0]) | rw [c21b1] | skip)
                    have H' := Aside0.mk H
                    clear H
                    have hnb22 := NB119_117.out
                    have hnc22 := NB117_119.out
                    have hcz23_0 : w18.cell? ⟨gb119, 0, none⟩ = some (.int .u8 0) := (blk_cell BK119.out 0).trans rfl
                    have hcz23_1 : w18.cell? ⟨gb119, 1, none⟩ = some (.int .i64 0) := (blk_cell BK119.out 1).trans rfl
                    have hcz23_2 : w18.cell? ⟨gb119, 2, none⟩ = some (.int .i64 0) := (blk_cell BK119.out 2).trans rfl
                    have hcz23_3 : w18.cell? ⟨gb119, 3, none⟩ = some (.int .u8 0) := (blk_cell BK119.out 3).trans rfl
                    have hfz23_0 := blk_frozen BK119.out 0
                    have hfz23_1 := blk_frozen BK119.out 1
                    have hfz23_2 := blk_frozen BK119.out 2
                    have hfz23_3 := blk_frozen BK119.out 3
                    go_wp2
                    go_meet
                    case rel => exact ⟨_, (true), (by first | rfl | (simp; done) | (simp [*]; done)), H', ⟨by have := HJ1.out; have := HK2.out; first | omega | exact Nat.le_refl _⟩, ⟨by (with_reducible repeat first | apply blk_drewN | apply blk_drew | apply blk_alloc); refine blk_far ?_ NB117_119.out _; (with_reducible repeat first | apply blk_drewN | apply blk_drew | apply blk_alloc); refine blk_far ?_ NB117_119.out _; (with_reducible repeat first | apply blk_drewN | apply blk_drew | apply blk_alloc); refine blk_far ?_ NB117_119.out _; (with_reducible repeat first | apply blk_drewN | apply blk_drew | apply blk_alloc); refine blk_far ?_ NB117_119.out _; (with_reducible repeat first | apply blk_drewN | apply blk_drew | apply blk_alloc); exact BK117.out⟩, ⟨by (with_reducible repeat first | apply blk_drewN | apply blk_drew | apply blk_alloc); refine blk_put (cs := #[.int .u8 ((rd_T59 l0_0 x3_2).f0), .int .i64 ((rd_T59 l0_0 x3_2).f1), .int .i64 ((rd_T59 l0_0 x3_2).f2), .int .u8 0]) ?_ 3 _ rfl; (with_reducible repeat first | apply blk_drewN | apply blk_drew | apply blk_alloc); refine blk_put (cs := #[.int .u8 ((rd_T59 l0_0 x3_2).f0), .int .i64 ((rd_T59 l0_0 x3_2).f1), .int .i64 0, .int .u8 0]) ?_ 2 _ rfl; (with_reducible repeat first | apply blk_drewN | apply blk_drew | apply blk_alloc); refine blk_put (cs := #[.int .u8 ((rd_T59 l0_0 x3_2).f0), .int .i64 0, .int .i64 0, .int .u8 0]) ?_ 1 _ rfl; (with_reducible repeat first | apply blk_drewN | apply blk_drew | apply blk_alloc); refine blk_put (cs := #[.int .u8 0, .int .i64 0, .int .i64 0, .int .u8 0]) ?_ 0 _ rfl; (with_reducible repeat first | apply blk_drewN | apply blk_drew | apply blk_alloc); exact BK119.out⟩, ⟨by repeat (first | (with_reducible first | exact HB.out | apply below_alloc | apply pw_below_drewN | apply below_drew1 | refine below_set ?_ GE117.out | refine below_set ?_ GE119.out) | exact HB.out)⟩⟩
                  · rw [if_neg c21] at H
                    have c21b0 : decide (((rd_T59 l0_0 x3_2).f0) < 1) = false := decide_eq_false c21
                    clear c21
                    (first | rw [c21b0] | (simp only [i64_w, i32_w]; rw [c21b0]) | rw [c21b1] | skip)
                    by_cases c24 : ((rd_T59 l0_0 x3_2).f0) > 4
                    · rw [if_pos c24] at H
                      have c24b0 : decide (4 < ((rd_T59 l0_0 x3_2).f0)) = true := decide_eq_true c24
                      clear c24
                      have H' := Aside0.mk H
                      clear H
                      have hnb25 := NB119_117.out
                      have hnc25 := NB117_119.out
                      have hcz26_0 : w18.cell? ⟨gb119, 0, none⟩ = some (.int .u8 0) := (blk_cell BK119.out 0).trans rfl
                      have hcz26_1 : w18.cell? ⟨gb119, 1, none⟩ = some (.int .i64 0) := (blk_cell BK119.out 1).trans rfl
                      have hcz26_2 : w18.cell? ⟨gb119, 2, none⟩ = some (.int .i64 0) := (blk_cell BK119.out 2).trans rfl
                      have hcz26_3 : w18.cell? ⟨gb119, 3, none⟩ = some (.int .u8 0) := (blk_cell BK119.out 3).trans rfl
                      have hfz26_0 := blk_frozen BK119.out 0
                      have hfz26_1 := blk_frozen BK119.out 1
                      have hfz26_2 := blk_frozen BK119.out 2
                      have hfz26_3 := blk_frozen BK119.out 3
                      go_wp2
                      go_meet
                      case rel => exact ⟨_, (true), (by first | rfl | (simp; done) | (simp [*]; done)), H', ⟨by have := HJ1.out; have := HK2.out; first | omega | exact Nat.le_refl _⟩, ⟨by (with_reducible repeat first | apply blk_drewN | apply blk_drew | apply blk_alloc); refine blk_far ?_ NB117_119.out _; (with_reducible repeat first | apply blk_drewN | apply blk_drew | apply blk_alloc); refine blk_far ?_ NB117_119.out _; (with_reducible repeat first | apply blk_drewN | apply blk_drew | apply blk_alloc); refine blk_far ?_ NB117_119.out _; (with_reducible repeat first | apply blk_drewN | apply blk_drew | apply blk_alloc); refine blk_far ?_ NB117_119.out _; (with_reducible repeat first | apply blk_drewN | apply blk_drew | apply blk_alloc); exact BK117.out⟩, ⟨by (with_reducible repeat first | apply blk_drewN | apply blk_drew | apply blk_alloc); refine blk_put (cs := #[.int .u8 ((rd_T59 l0_0 x3_2).f0), .int .i64 ((rd_T59 l0_0 x3_2).f1), .int .i64 ((rd_T59 l0_0 x3_2).f2), .int .u8 0]) ?_ 3 _ rfl; (with_reducible repeat first | apply blk_drewN | apply blk_drew | apply blk_alloc); refine blk_put (cs := #[.int .u8 ((rd_T59 l0_0 x3_2).f0), .int .i64 ((rd_T59 l0_0 x3_2).f1), .int .i64 0, .int .u8 0]) ?_ 2 _ rfl; (with_reducible repeat first | apply blk_drewN | apply blk_drew | apply blk_alloc); refine blk_put (cs := #[.int .u8 ((rd_T59 l0_0 x3_2).f0), .int .i64 0, .int .i64 0, .int .u8 0]) ?_ 1 _ rfl; (with_reducible repeat first | apply blk_drewN | apply blk_drew | apply blk_alloc); refine blk_put (cs := #[.int .u8 0, .int .i64 0, .int .i64 0, .int .u8 0]) ?_ 0 _ rfl; (with_reducible repeat first | apply blk_drewN | apply blk_drew | apply blk_alloc); exact BK119.out⟩, ⟨by repeat (first | (with_reducible first | exact HB.out | apply below_alloc | apply pw_below_drewN | apply below_drew1 | refine below_set ?_ GE117.out | refine below_set ?_ GE119.out) | exact HB.out)⟩⟩
                    · rw [if_neg c24] at H
                      have c24b0 : decide (4 < ((rd_T59 l0_0 x3_2).f0)) = false := decide_eq_false c24
                      clear c24
                      by_cases c27 : ((rd_T59 l0_0 x3_2).f1) < 0
                      · rw [if_pos c27] at H
                        have c27b0 : decide (((rd_T59 l0_0 x3_2).f1) < 0) = true := decide_eq_true c27
                        clear c27
                        have H' := Aside0.mk H
                        clear H
                        have hnb28 := NB119_117.out
                        have hnc28 := NB117_119.out
                        have hcz29_0 : w18.cell? ⟨gb119, 0, none⟩ = some (.int .u8 0) := (blk_cell BK119.out 0).trans rfl
                        have hcz29_1 : w18.cell? ⟨gb119, 1, none⟩ = some (.int .i64 0) := (blk_cell BK119.out 1).trans rfl
                        have hcz29_2 : w18.cell? ⟨gb119, 2, none⟩ = some (.int .i64 0) := (blk_cell BK119.out 2).trans rfl
                        have hcz29_3 : w18.cell? ⟨gb119, 3, none⟩ = some (.int .u8 0) := (blk_cell BK119.out 3).trans rfl
                        have hfz29_0 := blk_frozen BK119.out 0
                        have hfz29_1 := blk_frozen BK119.out 1
                        have hfz29_2 := blk_frozen BK119.out 2
                        have hfz29_3 := blk_frozen BK119.out 3
                        go_wp2
                        go_meet
                        case rel => exact ⟨_, (true), (by first | rfl | (simp; done) | (simp [*]; done)), H', ⟨by have := HJ1.out; have := HK2.out; first | omega | exact Nat.le_refl _⟩, ⟨by (with_reducible repeat first | apply blk_drewN | apply blk_drew | apply blk_alloc); refine blk_far ?_ NB117_119.out _; (with_reducible repeat first | apply blk_drewN | apply blk_drew | apply blk_alloc); refine blk_far ?_ NB117_119.out _; (with_reducible repeat first | apply blk_drewN | apply blk_drew | apply blk_alloc); refine blk_far ?_ NB117_119.out _; (with_reducible repeat first | apply blk_drewN | apply blk_drew | apply blk_alloc); refine blk_far ?_ NB117_119.out _; (with_reducible repeat first | apply blk_drewN | apply blk_drew | apply blk_alloc); exact BK117.out⟩, ⟨by (with_reducible repeat first | apply blk_drewN | apply blk_drew | apply blk_alloc); refine blk_put (cs := #[.int .u8 ((rd_T59 l0_0 x3_2).f0), .int .i64 ((rd_T59 l0_0 x3_2).f1), .int .i64 ((rd_T59 l0_0 x3_2).f2), .int .u8 0]) ?_ 3 _ rfl; (with_reducible repeat first | apply blk_drewN | apply blk_drew | apply blk_alloc); refine blk_put (cs := #[.int .u8 ((rd_T59 l0_0 x3_2).f0), .int .i64 ((rd_T59 l0_0 x3_2).f1), .int .i64 0, .int .u8 0]) ?_ 2 _ rfl; (with_reducible repeat first | apply blk_drewN | apply blk_drew | apply blk_alloc); refine blk_put (cs := #[.int .u8 ((rd_T59 l0_0 x3_2).f0), .int .i64 0, .int .i64 0, .int .u8 0]) ?_ 1 _ rfl; (with_reducible repeat first | apply blk_drewN | apply blk_drew | apply blk_alloc); refine blk_put (cs := #[.int .u8 0, .int .i64 0, .int .i64 0, .int .u8 0]) ?_ 0 _ rfl; (with_reducible repeat first | apply blk_drewN | apply blk_drew | apply blk_alloc); exact BK119.out⟩, ⟨by repeat (first | (with_reducible first | exact HB.out | apply below_alloc | apply pw_below_drewN | apply below_drew1 | refine below_set ?_ GE117.out | refine below_set ?_ GE119.out) | exact HB.out)⟩⟩
                      · rw [if_neg c27] at H
                        have c27b0 : decide (((rd_T59 l0_0 x3_2).f1) < 0) = false := decide_eq_false c27
                        clear c27
                        by_cases c30 : ((rd_T59 l0_0 x3_2).f1) > 255
                        · rw [if_pos c30] at H
                          have c30b0 : decide (255 < ((rd_T59 l0_0 x3_2).f1)) = true := decide_eq_true c30
                          clear c30
                          have H' := Aside0.mk H
                          clear H
                          have hnb31 := NB119_117.out
                          have hnc31 := NB117_119.out
                          have hcz32_0 : w18.cell? ⟨gb119, 0, none⟩ = some (.int .u8 0) := (blk_cell BK119.out 0).trans rfl
                          have hcz32_1 : w18.cell? ⟨gb119, 1, none⟩ = some (.int .i64 0) := (blk_cell BK119.out 1).trans rfl
                          have hcz32_2 : w18.cell? ⟨gb119, 2, none⟩ = some (.int .i64 0) := (blk_cell BK119.out 2).trans rfl
                          have hcz32_3 : w18.cell? ⟨gb119, 3, none⟩ = some (.int .u8 0) := (blk_cell BK119.out 3).trans rfl
                          have hfz32_0 := blk_frozen BK119.out 0
                          have hfz32_1 := blk_frozen BK119.out 1
                          have hfz32_2 := blk_frozen BK119.out 2
                          have hfz32_3 := blk_frozen BK119.out 3
                          go_wp2
                          go_meet
                          case rel => exact ⟨_, (true), (by first | rfl | (simp; done) | (simp [*]; done)), H', ⟨by have := HJ1.out; have := HK2.out; first | omega | exact Nat.le_refl _⟩, ⟨by (with_reducible repeat first | apply blk_drewN | apply blk_drew | apply blk_alloc); refine blk_far ?_ NB117_119.out _; (with_reducible repeat first | apply blk_drewN | apply blk_drew | apply blk_alloc); refine blk_far ?_ NB117_119.out _; (with_reducible repeat first | apply blk_drewN | apply blk_drew | apply blk_alloc); refine blk_far ?_ NB117_119.out _; (with_reducible repeat first | apply blk_drewN | apply blk_drew | apply blk_alloc); refine blk_far ?_ NB117_119.out _; (with_reducible repeat first | apply blk_drewN | apply blk_drew | apply blk_alloc); exact BK117.out⟩, ⟨by (with_reducible repeat first | apply blk_drewN | apply blk_drew | apply blk_alloc); refine blk_put (cs := #[.int .u8 ((rd_T59 l0_0 x3_2).f0), .int .i64 ((rd_T59 l0_0 x3_2).f1), .int .i64 ((rd_T59 l0_0 x3_2).f2), .int .u8 0]) ?_ 3 _ rfl; (with_reducible repeat first | apply blk_drewN | apply blk_drew | apply blk_alloc); refine blk_put (cs := #[.int .u8 ((rd_T59 l0_0 x3_2).f0), .int .i64 ((rd_T59 l0_0 x3_2).f1), .int .i64 0, .int .u8 0]) ?_ 2 _ rfl; (with_reducible repeat first | apply blk_drewN | apply blk_drew | apply blk_alloc); refine blk_put (cs := #[.int .u8 ((rd_T59 l0_0 x3_2).f0), .int .i64 0, .int .i64 0, .int .u8 0]) ?_ 1 _ rfl; (with_reducible repeat first | apply blk_drewN | apply blk_drew | apply blk_alloc); refine blk_put (cs := #[.int .u8 0, .int .i64 0, .int .i64 0, .int .u8 0]) ?_ 0 _ rfl; (with_reducible repeat first | apply blk_drewN | apply blk_drew | apply blk_alloc); exact BK119.out⟩, ⟨by repeat (first | (with_reducible first | exact HB.out | apply below_alloc | apply pw_below_drewN | apply below_drew1 | refine below_set ?_ GE117.out | refine below_set ?_ GE119.out) | exact HB.out)⟩⟩
                        · rw [if_neg c30] at H
                          have c30b0 : decide (255 < ((rd_T59 l0_0 x3_2).f1)) = false := decide_eq_false c30
                          clear c30
                          by_cases c33 : ((rd_T59 l0_0 x3_2).f2) < 0
                          · rw [if_pos c33] at H
                            have c33b0 : decide (((rd_T59 l0_0 x3_2).f2) < 0) = true := decide_eq_true c33
                            clear c33
                            have H' := Aside0.mk H
                            clear H
                            have hnb34 := NB119_117.out
                            have hnc34 := NB117_119.out
                            have hcz35_0 : w18.cell? ⟨gb119, 0, none⟩ = some (.int .u8 0) := (blk_cell BK119.out 0).trans rfl
                            have hcz35_1 : w18.cell? ⟨gb119, 1, none⟩ = some (.int .i64 0) := (blk_cell BK119.out 1).trans rfl
                            have hcz35_2 : w18.cell? ⟨gb119, 2, none⟩ = some (.int .i64 0) := (blk_cell BK119.out 2).trans rfl
                            have hcz35_3 : w18.cell? ⟨gb119, 3, none⟩ = some (.int .u8 0) := (blk_cell BK119.out 3).trans rfl
                            have hfz35_0 := blk_frozen BK119.out 0
                            have hfz35_1 := blk_frozen BK119.out 1
                            have hfz35_2 := blk_frozen BK119.out 2
                            have hfz35_3 := blk_frozen BK119.out 3
                            go_wp2
                            go_meet
                            case rel => exact ⟨_, (true), (by first | rfl | (simp; done) | (simp [*]; done)), H', ⟨by have := HJ1.out; have := HK2.out; first | omega | exact Nat.le_refl _⟩, ⟨by (with_reducible repeat first | apply blk_drewN | apply blk_drew | apply blk_alloc); refine blk_far ?_ NB117_119.out _; (with_reducible repeat first | apply blk_drewN | apply blk_drew | apply blk_alloc); refine blk_far ?_ NB117_119.out _; (with_reducible repeat first | apply blk_drewN | apply blk_drew | apply blk_alloc); refine blk_far ?_ NB117_119.out _; (with_reducible repeat first | apply blk_drewN | apply blk_drew | apply blk_alloc); refine blk_far ?_ NB117_119.out _; (with_reducible repeat first | apply blk_drewN | apply blk_drew | apply blk_alloc); exact BK117.out⟩, ⟨by (with_reducible repeat first | apply blk_drewN | apply blk_drew | apply blk_alloc); refine blk_put (cs := #[.int .u8 ((rd_T59 l0_0 x3_2).f0), .int .i64 ((rd_T59 l0_0 x3_2).f1), .int .i64 ((rd_T59 l0_0 x3_2).f2), .int .u8 0]) ?_ 3 _ rfl; (with_reducible repeat first | apply blk_drewN | apply blk_drew | apply blk_alloc); refine blk_put (cs := #[.int .u8 ((rd_T59 l0_0 x3_2).f0), .int .i64 ((rd_T59 l0_0 x3_2).f1), .int .i64 0, .int .u8 0]) ?_ 2 _ rfl; (with_reducible repeat first | apply blk_drewN | apply blk_drew | apply blk_alloc); refine blk_put (cs := #[.int .u8 ((rd_T59 l0_0 x3_2).f0), .int .i64 0, .int .i64 0, .int .u8 0]) ?_ 1 _ rfl; (with_reducible repeat first | apply blk_drewN | apply blk_drew | apply blk_alloc); refine blk_put (cs := #[.int .u8 0, .int .i64 0, .int .i64 0, .int .u8 0]) ?_ 0 _ rfl; (with_reducible repeat first | apply blk_drewN | apply blk_drew | apply blk_alloc); exact BK119.out⟩, ⟨by repeat (first | (with_reducible first | exact HB.out | apply below_alloc | apply pw_below_drewN | apply below_drew1 | refine below_set ?_ GE117.out | refine below_set ?_ GE119.out) | exact HB.out)⟩⟩
                          · rw [if_neg c33] at H
                            have c33b0 : decide (((rd_T59 l0_0 x3_2).f2) < 0) = false := decide_eq_false c33
                            clear c33
                            have H' := Aside0.mk H
                            clear H
                            have hnb36 := NB119_117.out
                            have hnc36 := NB117_119.out
                            have hcz37_0 : w18.cell? ⟨gb119, 0, none⟩ = some (.int .u8 0) := (blk_cell BK119.out 0).trans rfl
                            have hcz37_1 : w18.cell? ⟨gb119, 1, none⟩ = some (.int .i64 0) := (blk_cell BK119.out 1).trans rfl
                            have hcz37_2 : w18.cell? ⟨gb119, 2, none⟩ = some (.int .i64 0) := (blk_cell BK119.out 2).trans rfl
                            have hcz37_3 : w18.cell? ⟨gb119, 3, none⟩ = some (.int .u8 0) := (blk_cell BK119.out 3).trans rfl
                            have hfz37_0 := blk_frozen BK119.out 0
                            have hfz37_1 := blk_frozen BK119.out 1
                            have hfz37_2 := blk_frozen BK119.out 2
                            have hfz37_3 := blk_frozen BK119.out 3
                            go_wp2
                            go_meet
                            case rel => exact ⟨_, (decide (((rd_T59 l0_0 x3_2).f2) > 255)), (by first | rfl | (simp; done) | (simp [*]; done)), H', ⟨by have := HJ1.out; have := HK2.out; first | omega | exact Nat.le_refl _⟩, ⟨by (with_reducible repeat first | apply blk_drewN | apply blk_drew | apply blk_alloc); refine blk_far ?_ NB117_119.out _; (with_reducible repeat first | apply blk_drewN | apply blk_drew | apply blk_alloc); refine blk_far ?_ NB117_119.out _; (with_reducible repeat first | apply blk_drewN | apply blk_drew | apply blk_alloc); refine blk_far ?_ NB117_119.out _; (with_reducible repeat first | apply blk_drewN | apply blk_drew | apply blk_alloc); refine blk_far ?_ NB117_119.out _; (with_reducible repeat first | apply blk_drewN | apply blk_drew | apply blk_alloc); exact BK117.out⟩, ⟨by (with_reducible repeat first | apply blk_drewN | apply blk_drew | apply blk_alloc); refine blk_put (cs := #[.int .u8 ((rd_T59 l0_0 x3_2).f0), .int .i64 ((rd_T59 l0_0 x3_2).f1), .int .i64 ((rd_T59 l0_0 x3_2).f2), .int .u8 0]) ?_ 3 _ rfl; (with_reducible repeat first | apply blk_drewN | apply blk_drew | apply blk_alloc); refine blk_put (cs := #[.int .u8 ((rd_T59 l0_0 x3_2).f0), .int .i64 ((rd_T59 l0_0 x3_2).f1), .int .i64 0, .int .u8 0]) ?_ 2 _ rfl; (with_reducible repeat first | apply blk_drewN | apply blk_drew | apply blk_alloc); refine blk_put (cs := #[.int .u8 ((rd_T59 l0_0 x3_2).f0), .int .i64 0, .int .i64 0, .int .u8 0]) ?_ 1 _ rfl; (with_reducible repeat first | apply blk_drewN | apply blk_drew | apply blk_alloc); refine blk_put (cs := #[.int .u8 0, .int .i64 0, .int .i64 0, .int .u8 0]) ?_ 0 _ rfl; (with_reducible repeat first | apply blk_drewN | apply blk_drew | apply blk_alloc); exact BK119.out⟩, ⟨by repeat (first | (with_reducible first | exact HB.out | apply below_alloc | apply pw_below_drewN | apply below_drew1 | refine below_set ?_ GE117.out | refine below_set ?_ GE119.out) | exact HB.out)⟩⟩
                case rest =>
                  clear HC16
                  try clear c1
                  try clear p1
                  try clear q1
                  try clear hx1
                  try clear c2
                  try clear p2
                  try clear c3
                  try clear c4
                  try clear c4b0
                  try clear c4b1
                  try clear c5
                  try clear c6
                  try clear c6b0
                  try clear c8
                  try clear c8b0
                  try clear c10
                  try clear c10b0
                  try clear p11
                  try clear q11
                  try clear hx11
                  try clear c13
                  try clear c14
                  try clear c14b0
                  try clear c15
                  try clear c15b0
                  try clear c19
                  try clear c21
                  try clear c21b0
                  try clear c21b1
                  try clear c22
                  try clear c24
                  try clear c24b0
                  try clear c25
                  try clear c27
                  try clear c27b0
                  try clear c28
                  try clear c30
                  try clear c30b0
                  try clear c31
                  try clear c33
                  try clear c33b0
                  try clear c34
                  try clear c36
                  try clear hcz11_0
                  try clear hcz11_1
                  try clear hcz11_2
                  try clear hcz11_3
                  try clear hcz12_0
                  try clear hcz12_1
                  try clear hcz12_2
                  try clear hcz12_3
                  try clear hcz17_0
                  try clear hcz17_1
                  try clear hcz17_2
                  try clear hcz17_3
                  try clear hcz20_0
                  try clear hcz20_1
                  try clear hcz20_2
                  try clear hcz20_3
                  try clear hcz23_0
                  try clear hcz23_1
                  try clear hcz23_2
                  try clear hcz23_3
                  try clear hcz26_0
                  try clear hcz26_1
                  try clear hcz26_2
                  try clear hcz26_3
                  try clear hcz29_0
                  try clear hcz29_1
                  try clear hcz29_2
                  try clear hcz29_3
                  try clear hcz32_0
                  try clear hcz32_1
                  try clear hcz32_2
                  try clear hcz32_3
                  try clear hcz35_0
                  try clear hcz35_1
                  try clear hcz35_2
                  try clear hcz35_3
                  try clear hcz37_0
                  try clear hcz37_1
                  try clear hcz37_2
                  try clear hcz37_3
                  try clear hcz5_0
                  try clear hcz5_1
                  try clear hcz5_2
                  try clear hcz5_3
                  try clear hcz7_0
                  try clear hcz7_1
                  try clear hcz7_2
                  try clear hcz7_3
                  try clear hcz9_0
                  try clear hcz9_1
                  try clear hcz9_2
                  try clear hcz9_3
                  try clear hfz11_0
                  try clear hfz11_1
                  try clear hfz11_2
                  try clear hfz11_3
                  try clear hfz12_0
                  try clear hfz12_1
                  try clear hfz12_2
                  try clear hfz12_3
                  try clear hfz17_0
                  try clear hfz17_1
                  try clear hfz17_2
                  try clear hfz17_3
                  try clear hfz20_0
                  try clear hfz20_1
                  try clear hfz20_2
                  try clear hfz20_3
                  try clear hfz23_0
                  try clear hfz23_1
                  try clear hfz23_2
                  try clear hfz23_3
                  try clear hfz26_0
                  try clear hfz26_1
                  try clear hfz26_2
                  try clear hfz26_3
                  try clear hfz29_0
                  try clear hfz29_1
                  try clear hfz29_2
                  try clear hfz29_3
                  try clear hfz32_0
                  try clear hfz32_1
                  try clear hfz32_2
                  try clear hfz32_3
                  try clear hfz35_0
                  try clear hfz35_1
                  try clear hfz35_2
                  try clear hfz35_3
                  try clear hfz37_0
                  try clear hfz37_1
                  try clear hfz37_2
                  try clear hfz37_3
                  try clear hfz5_0
                  try clear hfz5_1
                  try clear hfz5_2
                  try clear hfz5_3
                  try clear hfz7_0
                  try clear hfz7_1
                  try clear hfz7_2
                  try clear hfz7_3
                  try clear hfz9_0
                  try clear hfz9_1
                  try clear hfz9_2
                  try clear hfz9_3
                  try clear hx118_0
                  try clear hx118_1
                  try clear hx118_2
                  try clear hx118_3
                  try clear p118
                  try clear p2
                  try clear q118
                  obtain ⟨kq, x69_15, rfl, HA, HJ15, BK117, BK119, HB⟩ := hcut
                  cases kq with
                  | zero => exact absurd HA.out (by simp [recoupref24_Can.j2])
                  | succ kj15 =>
                    have H := HA.out
                    clear HA
                    simp only [recoupref24_Can.j2] at H
                    by_cases c38 : x69_15 = true
                    · subst c38
                      have H1 : (some false) = some r := by rw [if_pos rfl] at H; exact H
                      clear H
                      have H := H1
                      clear H1
                      obtain rfl := Option.some.inj H
                      go_wp2
                      go_ret
                      exact ⟨by first | rfl | (simp [errW_none, errW_some] <;> rfl) | (simp [*, errW_none, errW_some] <;> rfl), by repeat (first | (with_reducible first | exact HB.out | apply below_alloc | apply pw_below_drewN | apply below_drew1 | refine below_set ?_ GE117.out | refine below_set ?_ GE119.out) | exact HB.out)⟩
                    · replace c38 := Bool.eq_false_iff.mpr c38
                      subst c38
                      have H1 : ((recoupref24_fields.f ((rd_T59 l0_0 x3_2).f0)).bind fun t120 => (if t120 < 2 then (if ((rd_T59 l0_0 x3_2).f2) = 0 then (if t120 < 3 then (if ((rd_T59 l0_0 x3_2).f3) = 0 then (recoupref24_Can.l0 kj15 (wrap64 (x3_2 + 1)) l0_0 a0_1 a0_2 a0_3) else (some false)) else (recoupref24_Can.l0 kj15 (wrap64 (x3_2 + 1)) l0_0 a0_1 a0_2 a0_3)) else (some false)) else (if t120 < 3 then (if ((rd_T59 l0_0 x3_2).f3) = 0 then (recoupref24_Can.l0 kj15 (wrap64 (x3_2 + 1)) l0_0 a0_1 a0_2 a0_3) else (some false)) else (recoupref24_Can.l0 kj15 (wrap64 (x3_2 + 1)) l0_0 a0_1 a0_2 a0_3)))) = some r := by rw [if_neg (show ¬ (false = true) by decide)] at H; exact H
                      clear H
                      have H := H1
                      clear H1
                      replace H := Option.bind_eq_some_iff.mp H
                      obtain ⟨t120, A390, H⟩ := H
                      replace H : (if t120 < 2 then (if ((rd_T59 l0_0 x3_2).f2) = 0 then (if t120 < 3 then (if ((rd_T59 l0_0 x3_2).f3) = 0 then (recoupref24_Can.l0 kj15 (wrap64 (x3_2 + 1)) l0_0 a0_1 a0_2 a0_3) else (some false)) else (recoupref24_Can.l0 kj15 (wrap64 (x3_2 + 1)) l0_0 a0_1 a0_2 a0_3)) else (some false)) else (if t120 < 3 then (if ((rd_T59 l0_0 x3_2).f3) = 0 then (recoupref24_Can.l0 kj15 (wrap64 (x3_2 + 1)) l0_0 a0_1 a0_2 a0_3) else (some false)) else (recoupref24_Can.l0 kj15 (wrap64 (x3_2 + 1)) l0_0 a0_1 a0_2 a0_3))) = some r := H
                      have A39 := Aside0.mk A390
                      clear A390
                      by_cases c40 : t120 < 2
                      · rw [if_pos c40] at H
                        have c40b0 : decide (t120 < 2) = true := decide_eq_true c40
                        clear c40
                        by_cases c41 : ((rd_T59 l0_0 x3_2).f2) = 0
                        · rw [if_pos c41] at H
                          have c41b0 : (((rd_T59 l0_0 x3_2).f2) == 0) = true := beq_iff_eq.mpr c41
                          have c41b1 : (((rd_T59 l0_0 x3_2).f2) != 0) = false := bne_eq_false_iff_eq.mpr c41
                          clear c41
                          by_cases c42 : t120 < 3
                          · rw [if_pos c42] at H
                            have c42b0 : decide (t120 < 3) = true := decide_eq_true c42
                            clear c42
                            by_cases c43 : ((rd_T59 l0_0 x3_2).f3) = 0
                            · rw [if_pos c43] at H
                              have c43b0 : (((rd_T59 l0_0 x3_2).f3) == 0) = true := beq_iff_eq.mpr c43
                              have c43b1 : (((rd_T59 l0_0 x3_2).f3) != 0) = false := bne_eq_false_iff_eq.mpr c43
                              clear c43
                              have H' := Aside0.mk H
                              clear H
                              have hnb44 := NB119_117.out
                              have hnc44 := NB117_119.out
                              have hcz45_0 : wc.cell? ⟨gb119, 0, none⟩ = some (.int .u8 ((rd_T59 l0_0 x3_2).f0)) := (blk_cell BK119.out 0).trans rfl
                              have hcz45_1 : wc.cell? ⟨gb119, 1, none⟩ = some (.int .i64 ((rd_T59 l0_0 x3_2).f1)) := (blk_cell BK119.out 1).trans rfl
                              have hcz45_2 : wc.cell? ⟨gb119, 2, none⟩ = some (.int .i64 ((rd_T59 l0_0 x3_2).f2)) := (blk_cell BK119.out 2).trans rfl
                              have hcz45_3 : wc.cell? ⟨gb119, 3, none⟩ = some (.int .u8 ((rd_T59 l0_0 x3_2).f3)) := (blk_cell BK119.out 3).trans rfl
                              have hfz45_0 := blk_frozen BK119.out 0
                              have hfz45_1 := blk_frozen BK119.out 1
                              have hfz45_2 := blk_frozen BK119.out 2
                              have hfz45_3 := blk_frozen BK119.out 3
                              go_wp2_with (first | ((with_reducible refine gate_callee (f := 67) rfl ?_); refine goesL_ (some 72) rfl rfl Try.func67 (by kernel_rfl) rfl #[.int .u8 ((rd_T59 l0_0 x3_2).f0)] rfl (by (try simp only [List.map_toArray, List.map_cons, List.map_nil]); first | done | rfl | (simp only [List.length_drop, List.length_take]; rfl)) ?_; (with_reducible refine (recoupref24_fields.calls ((rd_T59 l0_0 x3_2).f0) t120 _ A39.out).mono ?_); rintro e w' ⟨rfl, ⟨nd, rfl⟩⟩; refine ⟨_, rfl, ?_⟩))
                              go_roundg kj15
                              case measure => have := HJ1.out; have := HK2.out; have := HJ15.out; omega
                              case rel => exact ⟨(wrap64 (x3_2 + 1)), (by first | rfl | (simp; done) | (simp [*]; done)), H', ⟨by have := HJ1.out; have := HK2.out; have := HJ15.out; omega⟩, ⟨by (with_reducible repeat first | apply blk_drewN | apply blk_drew | apply blk_alloc); exact BK117.out⟩, ⟨by repeat (first | (with_reducible first | exact HB.out | apply below_alloc | apply pw_below_drewN | apply below_drew1 | refine below_set ?_ GE117.out | refine below_set ?_ GE119.out) | exact HB.out)⟩⟩
                            · rw [if_neg c43] at H
                              have c43b0 : (((rd_T59 l0_0 x3_2).f3) == 0) = false := beq_eq_false_iff_ne.mpr c43
                              have c43b1 : (((rd_T59 l0_0 x3_2).f3) != 0) = true := bne_iff_ne.mpr c43
                              obtain rfl := Option.some.inj H
                              have hnb46 := NB119_117.out
                              have hnc46 := NB117_119.out
                              have hcz47_0 : wc.cell? ⟨gb119, 0, none⟩ = some (.int .u8 ((rd_T59 l0_0 x3_2).f0)) := (blk_cell BK119.out 0).trans rfl
                              have hcz47_1 : wc.cell? ⟨gb119, 1, none⟩ = some (.int .i64 ((rd_T59 l0_0 x3_2).f1)) := (blk_cell BK119.out 1).trans rfl
                              have hcz47_2 : wc.cell? ⟨gb119, 2, none⟩ = some (.int .i64 ((rd_T59 l0_0 x3_2).f2)) := (blk_cell BK119.out 2).trans rfl
                              have hcz47_3 : wc.cell? ⟨gb119, 3, none⟩ = some (.int .u8 ((rd_T59 l0_0 x3_2).f3)) := (blk_cell BK119.out 3).trans rfl
                              have hfz47_0 := blk_frozen BK119.out 0
                              have hfz47_1 := blk_frozen BK119.out 1
                              have hfz47_2 := blk_frozen BK119.out 2
                              have hfz47_3 := blk_frozen BK119.out 3
                              go_wp2_with (first | ((with_reducible refine gate_callee (f := 67) rfl ?_); refine goesL_ (some 72) rfl rfl Try.func67 (by kernel_rfl) rfl #[.int .u8 ((rd_T59 l0_0 x3_2).f0)] rfl (by (try simp only [List.map_toArray, List.map_cons, List.map_nil]); first | done | rfl | (simp only [List.length_drop, List.length_take]; rfl)) ?_; (with_reducible refine (recoupref24_fields.calls ((rd_T59 l0_0 x3_2).f0) t120 _ A39.out).mono ?_); rintro e w' ⟨rfl, ⟨nd, rfl⟩⟩; refine ⟨_, rfl, ?_⟩))
                              go_ret
                              exact ⟨by first | rfl | (simp [errW_none, errW_some] <;> rfl) | (simp [*, errW_none, errW_some] <;> rfl), by repeat (first | (with_reducible first | exact HB.out | apply below_alloc | apply pw_below_drewN | apply below_drew1 | refine below_set ?_ GE117.out | refine below_set ?_ GE119.out) | exact HB.out)⟩
                          · rw [if_neg c42] at H
                            have c42b0 : decide (t120 < 3) = false := decide_eq_false c42
                            clear c42
                            have H' := Aside0.mk H
                            clear H
                            have hnb48 := NB119_117.out
                            have hnc48 := NB117_119.out
                            have hcz49_0 : wc.cell? ⟨gb119, 0, none⟩ = some (.int .u8 ((rd_T59 l0_0 x3_2).f0)) := (blk_cell BK119.out 0).trans rfl
                            have hcz49_1 : wc.cell? ⟨gb119, 1, none⟩ = some (.int .i64 ((rd_T59 l0_0 x3_2).f1)) := (blk_cell BK119.out 1).trans rfl
                            have hcz49_2 : wc.cell? ⟨gb119, 2, none⟩ = some (.int .i64 ((rd_T59 l0_0 x3_2).f2)) := (blk_cell BK119.out 2).trans rfl
                            have hcz49_3 : wc.cell? ⟨gb119, 3, none⟩ = some (.int .u8 ((rd_T59 l0_0 x3_2).f3)) := (blk_cell BK119.out 3).trans rfl
                            have hfz49_0 := blk_frozen BK119.out 0
                            have hfz49_1 := blk_frozen BK119.out 1
                            have hfz49_2 := blk_frozen BK119.out 2
                            have hfz49_3 := blk_frozen BK119.out 3
                            go_wp2_with (first | ((with_reducible refine gate_callee (f := 67) rfl ?_); refine goesL_ (some 72) rfl rfl Try.func67 (by kernel_rfl) rfl #[.int .u8 ((rd_T59 l0_0 x3_2).f0)] rfl (by (try simp only [List.map_toArray, List.map_cons, List.map_nil]); first | done | rfl | (simp only [List.length_drop, List.length_take]; rfl)) ?_; (with_reducible refine (recoupref24_fields.calls ((rd_T59 l0_0 x3_2).f0) t120 _ A39.out).mono ?_); rintro e w' ⟨rfl, ⟨nd, rfl⟩⟩; refine ⟨_, rfl, ?_⟩))
                            go_roundg kj15
                            case measure => have := HJ1.out; have := HK2.out; have := HJ15.out; omega
                            case rel => exact ⟨(wrap64 (x3_2 + 1)), (by first | rfl | (simp; done) | (simp [*]; done)), H', ⟨by have := HJ1.out; have := HK2.out; have := HJ15.out; omega⟩, ⟨by (with_reducible repeat first | apply blk_drewN | apply blk_drew | apply blk_alloc); exact BK117.out⟩, ⟨by repeat (first | (with_reducible first | exact HB.out | apply below_alloc | apply pw_below_drewN | apply below_drew1 | refine below_set ?_ GE117.out | refine below_set ?_ GE119.out) | exact HB.out)⟩⟩
                        · rw [if_neg c41] at H
                          have c41b0 : (((rd_T59 l0_0 x3_2).f2) == 0) = false := beq_eq_false_iff_ne.mpr c41
                          have c41b1 : (((rd_T59 l0_0 x3_2).f2) != 0) = true := bne_iff_ne.mpr c41
                          obtain rfl := Option.some.inj H
                          have hnb50 := NB119_117.out
                          have hnc50 := NB117_119.out
                          have hcz51_0 : wc.cell? ⟨gb119, 0, none⟩ = some (.int .u8 ((rd_T59 l0_0 x3_2).f0)) := (blk_cell BK119.out 0).trans rfl
                          have hcz51_1 : wc.cell? ⟨gb119, 1, none⟩ = some (.int .i64 ((rd_T59 l0_0 x3_2).f1)) := (blk_cell BK119.out 1).trans rfl
                          have hcz51_2 : wc.cell? ⟨gb119, 2, none⟩ = some (.int .i64 ((rd_T59 l0_0 x3_2).f2)) := (blk_cell BK119.out 2).trans rfl
                          have hcz51_3 : wc.cell? ⟨gb119, 3, none⟩ = some (.int .u8 ((rd_T59 l0_0 x3_2).f3)) := (blk_cell BK119.out 3).trans rfl
                          have hfz51_0 := blk_frozen BK119.out 0
                          have hfz51_1 := blk_frozen BK119.out 1
                          have hfz51_2 := blk_frozen BK119.out 2
                          have hfz51_3 := blk_frozen BK119.out 3
                          go_wp2_with (first | ((with_reducible refine gate_callee (f := 67) rfl ?_); refine goesL_ (some 72) rfl rfl Try.func67 (by kernel_rfl) rfl #[.int .u8 ((rd_T59 l0_0 x3_2).f0)] rfl (by (try simp only [List.map_toArray, List.map_cons, List.map_nil]); first | done | rfl | (simp only [List.length_drop, List.length_take]; rfl)) ?_; (with_reducible refine (recoupref24_fields.calls ((rd_T59 l0_0 x3_2).f0) t120 _ A39.out).mono ?_); rintro e w' ⟨rfl, ⟨nd, rfl⟩⟩; refine ⟨_, rfl, ?_⟩))
                          go_ret
                          exact ⟨by first | rfl | (simp [errW_none, errW_some] <;> rfl) | (simp [*, errW_none, errW_some] <;> rfl), by repeat (first | (with_reducible first | exact HB.out | apply below_alloc | apply pw_below_drewN | apply below_drew1 | refine below_set ?_ GE117.out | refine below_set ?_ GE119.out) | exact HB.out)⟩
                      · rw [if_neg c40] at H
                        have c40b0 : decide (t120 < 2) = false := decide_eq_false c40
                        clear c40
                        by_cases c52 : t120 < 3
                        · rw [if_pos c52] at H
                          have c52b0 : decide (t120 < 3) = true := decide_eq_true c52
                          clear c52
                          by_cases c53 : ((rd_T59 l0_0 x3_2).f3) = 0
                          · rw [if_pos c53] at H
                            have c53b0 : (((rd_T59 l0_0 x3_2).f3) == 0) = true := beq_iff_eq.mpr c53
                            have c53b1 : (((rd_T59 l0_0 x3_2).f3) != 0) = false := bne_eq_false_iff_eq.mpr c53
                            clear c53
                            have H' := Aside0.mk H
                            clear H
                            have hnb54 := NB119_117.out
                            have hnc54 := NB117_119.out
                            have hcz55_0 : wc.cell? ⟨gb119, 0, none⟩ = some (.int .u8 ((rd_T59 l0_0 x3_2).f0)) := (blk_cell BK119.out 0).trans rfl
                            have hcz55_1 : wc.cell? ⟨gb119, 1, none⟩ = some (.int .i64 ((rd_T59 l0_0 x3_2).f1)) := (blk_cell BK119.out 1).trans rfl
                            have hcz55_2 : wc.cell? ⟨gb119, 2, none⟩ = some (.int .i64 ((rd_T59 l0_0 x3_2).f2)) := (blk_cell BK119.out 2).trans rfl
                            have hcz55_3 : wc.cell? ⟨gb119, 3, none⟩ = some (.int .u8 ((rd_T59 l0_0 x3_2).f3)) := (blk_cell BK119.out 3).trans rfl
                            have hfz55_0 := blk_frozen BK119.out 0
                            have hfz55_1 := blk_frozen BK119.out 1
                            have hfz55_2 := blk_frozen BK119.out 2
                            have hfz55_3 := blk_frozen BK119.out 3
                            go_wp2_with (first | ((with_reducible refine gate_callee (f := 67) rfl ?_); refine goesL_ (some 72) rfl rfl Try.func67 (by kernel_rfl) rfl #[.int .u8 ((rd_T59 l0_0 x3_2).f0)] rfl (by (try simp only [List.map_toArray, List.map_cons, List.map_nil]); first | done | rfl | (simp only [List.length_drop, List.length_take]; rfl)) ?_; (with_reducible refine (recoupref24_fields.calls ((rd_T59 l0_0 x3_2).f0) t120 _ A39.out).mono ?_); rintro e w' ⟨rfl, ⟨nd, rfl⟩⟩; refine ⟨_, rfl, ?_⟩))
                            go_roundg kj15
                            case measure => have := HJ1.out; have := HK2.out; have := HJ15.out; omega
                            case rel => exact ⟨(wrap64 (x3_2 + 1)), (by first | rfl | (simp; done) | (simp [*]; done)), H', ⟨by have := HJ1.out; have := HK2.out; have := HJ15.out; omega⟩, ⟨by (with_reducible repeat first | apply blk_drewN | apply blk_drew | apply blk_alloc); exact BK117.out⟩, ⟨by repeat (first | (with_reducible first | exact HB.out | apply below_alloc | apply pw_below_drewN | apply below_drew1 | refine below_set ?_ GE117.out | refine below_set ?_ GE119.out) | exact HB.out)⟩⟩
                          · rw [if_neg c53] at H
                            have c53b0 : (((rd_T59 l0_0 x3_2).f3) == 0) = false := beq_eq_false_iff_ne.mpr c53
                            have c53b1 : (((rd_T59 l0_0 x3_2).f3) != 0) = true := bne_iff_ne.mpr c53
                            obtain rfl := Option.some.inj H
                            have hnb56 := NB119_117.out
                            have hnc56 := NB117_119.out
                            have hcz57_0 : wc.cell? ⟨gb119, 0, none⟩ = some (.int .u8 ((rd_T59 l0_0 x3_2).f0)) := (blk_cell BK119.out 0).trans rfl
                            have hcz57_1 : wc.cell? ⟨gb119, 1, none⟩ = some (.int .i64 ((rd_T59 l0_0 x3_2).f1)) := (blk_cell BK119.out 1).trans rfl
                            have hcz57_2 : wc.cell? ⟨gb119, 2, none⟩ = some (.int .i64 ((rd_T59 l0_0 x3_2).f2)) := (blk_cell BK119.out 2).trans rfl
                            have hcz57_3 : wc.cell? ⟨gb119, 3, none⟩ = some (.int .u8 ((rd_T59 l0_0 x3_2).f3)) := (blk_cell BK119.out 3).trans rfl
                            have hfz57_0 := blk_frozen BK119.out 0
                            have hfz57_1 := blk_frozen BK119.out 1
                            have hfz57_2 := blk_frozen BK119.out 2
                            have hfz57_3 := blk_frozen BK119.out 3
                            go_wp2_with (first | ((with_reducible refine gate_callee (f := 67) rfl ?_); refine goesL_ (some 72) rfl rfl Try.func67 (by kernel_rfl) rfl #[.int .u8 ((rd_T59 l0_0 x3_2).f0)] rfl (by (try simp only [List.map_toArray, List.map_cons, List.map_nil]); first | done | rfl | (simp only [List.length_drop, List.length_take]; rfl)) ?_; (with_reducible refine (recoupref24_fields.calls ((rd_T59 l0_0 x3_2).f0) t120 _ A39.out).mono ?_); rintro e w' ⟨rfl, ⟨nd, rfl⟩⟩; refine ⟨_, rfl, ?_⟩))
                            go_ret
                            exact ⟨by first | rfl | (simp [errW_none, errW_some] <;> rfl) | (simp [*, errW_none, errW_some] <;> rfl), by repeat (first | (with_reducible first | exact HB.out | apply below_alloc | apply pw_below_drewN | apply below_drew1 | refine below_set ?_ GE117.out | refine below_set ?_ GE119.out) | exact HB.out)⟩
                        · rw [if_neg c52] at H
                          have c52b0 : decide (t120 < 3) = false := decide_eq_false c52
                          clear c52
                          have H' := Aside0.mk H
                          clear H
                          have hnb58 := NB119_117.out
                          have hnc58 := NB117_119.out
                          have hcz59_0 : wc.cell? ⟨gb119, 0, none⟩ = some (.int .u8 ((rd_T59 l0_0 x3_2).f0)) := (blk_cell BK119.out 0).trans rfl
                          have hcz59_1 : wc.cell? ⟨gb119, 1, none⟩ = some (.int .i64 ((rd_T59 l0_0 x3_2).f1)) := (blk_cell BK119.out 1).trans rfl
                          have hcz59_2 : wc.cell? ⟨gb119, 2, none⟩ = some (.int .i64 ((rd_T59 l0_0 x3_2).f2)) := (blk_cell BK119.out 2).trans rfl
                          have hcz59_3 : wc.cell? ⟨gb119, 3, none⟩ = some (.int .u8 ((rd_T59 l0_0 x3_2).f3)) := (blk_cell BK119.out 3).trans rfl
                          have hfz59_0 := blk_frozen BK119.out 0
                          have hfz59_1 := blk_frozen BK119.out 1
                          have hfz59_2 := blk_frozen BK119.out 2
                          have hfz59_3 := blk_frozen BK119.out 3
                          go_wp2_with (first | ((with_reducible refine gate_callee (f := 67) rfl ?_); refine goesL_ (some 72) rfl rfl Try.func67 (by kernel_rfl) rfl #[.int .u8 ((rd_T59 l0_0 x3_2).f0)] rfl (by (try simp only [List.map_toArray, List.map_cons, List.map_nil]); first | done | rfl | (simp only [List.length_drop, List.length_take]; rfl)) ?_; (with_reducible refine (recoupref24_fields.calls ((rd_T59 l0_0 x3_2).f0) t120 _ A39.out).mono ?_); rintro e w' ⟨rfl, ⟨nd, rfl⟩⟩; refine ⟨_, rfl, ?_⟩))
                          go_roundg kj15
                          case measure => have := HJ1.out; have := HK2.out; have := HJ15.out; omega
                          case rel => exact ⟨(wrap64 (x3_2 + 1)), (by first | rfl | (simp; done) | (simp [*]; done)), H', ⟨by have := HJ1.out; have := HK2.out; have := HJ15.out; omega⟩, ⟨by (with_reducible repeat first | apply blk_drewN | apply blk_drew | apply blk_alloc); exact BK117.out⟩, ⟨by repeat (first | (with_reducible first | exact HB.out | apply below_alloc | apply pw_below_drewN | apply below_drew1 | refine below_set ?_ GE117.out | refine below_set ?_ GE119.out) | exact HB.out)⟩⟩
              · rw [if_neg c15] at H
                exact absurd H (by simp)
            · rw [if_neg c14] at H
              have c14b0 : decide (x3_2 < (l0_0.length : Int)) = false := decide_eq_false c14
              clear c14
              obtain rfl := Option.some.inj H
              have hcz60_0 : wr.cell? ⟨gb117, 0, none⟩ = some (.slice A0_0 l0_0.length c0_0) := (blk_cell BK117.out 0).trans rfl
              have hcz60_1 : wr.cell? ⟨gb117, 1, none⟩ = some (.int .i64 a0_1) := (blk_cell BK117.out 1).trans rfl
              have hcz60_2 : wr.cell? ⟨gb117, 2, none⟩ = some (.int .i64 a0_2) := (blk_cell BK117.out 2).trans rfl
              have hcz60_3 : wr.cell? ⟨gb117, 3, none⟩ = some (.int .u64 a0_3) := (blk_cell BK117.out 3).trans rfl
              have hfz60_0 := blk_frozen BK117.out 0
              have hfz60_1 := blk_frozen BK117.out 1
              have hfz60_2 := blk_frozen BK117.out 2
              have hfz60_3 := blk_frozen BK117.out 3
              go_wp2
              go_ret
              exact ⟨by first | rfl | (simp [errW_none, errW_some] <;> rfl) | (simp [*, errW_none, errW_some] <;> rfl), by repeat (first | (with_reducible first | exact HB.out | apply below_alloc | apply pw_below_drewN | apply below_drew1 | refine below_set ?_ GE117.out) | exact HB.out)⟩

-- given: function 47 (recoupref01_Mul)

end Go.Proofs.Ythbjcafldbocpaa.P0
