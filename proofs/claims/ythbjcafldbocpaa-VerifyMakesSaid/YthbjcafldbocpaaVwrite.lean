/- The walk of emit.Write: it answers; the error tells whether the program may be written. -/
import Derived.Test.YthbjcafldbocpaaVnum
import Derived.Test.YthbjcafldbocpaaVall
namespace Go.Proofs.Ythbjcafldbocpaa
open Go.RowKit
set_option linter.unusedVariables false
set_option linter.unusedSimpArgs false
set_option maxRecDepth 100000 in
set_option maxHeartbeats 4000000 in
theorem write_no (AS : Option Addr) (nS cS : Nat) (regs outs reads : Int) (w : World)
    (hmay : ∀ w1, Below w.heap.size w w1 → Calls Try.prog 59 #[.agg #[.slice AS nS cS, .int .i64 regs, .int .i64 outs, .int .u64 reads]] w1 fun e w' => e = .returned (.bool false) ∧ Below w1.heap.size w1 w') :
    Calls Try.prog 48 #[.agg #[.slice AS nS cS, .int .i64 regs, .int .i64 outs, .int .u64 reads]] w fun e w' => e = .returned (.tuple #[.slice none 0 0, .int .i64 2]) ∧ Below w.heap.size w w' := by
  go_enter Try.func48, Try.ntmps48
  go_wp2_with fail
  have q : Below w.heap.size w (w.alloc (.cells #[.slice AS nS cS, .int .i64 regs, .int .i64 outs, .int .u64 reads] 26)) := (Below.refl _ _).alloc (Nat.le_refl _) _
  refine (hmay _ q).mono ?_
  rintro e w1 ⟨rfl, hb⟩
  go_wp2_with fail
  go_ret2
  exact ⟨rfl, q.trans (hb.mono (by simp))⟩
/-- Write's memory: its program, its list of bytes, and that nothing that was there has turned -/
structure WB (W w0 : World) (gb base : Nat) (ps : List Value) (v : Value) (xs : List UInt8) : Prop where
  hb : Row W gb 35 [v]
  ho : OwnV W base v xs
  lt : gb < base
  ltp : w0.heap.size < gb
  hB : base ≤ W.heap.size
  hp : Row W w0.heap.size 26 ps
  low : Below w0.heap.size w0 W
theorem WB.step {W W' w0 : World} {gb base : Nat} {ps : List Value} {v v' : Value} {xs xs' : List UInt8} (h : WB W w0 gb base ps v xs) (c : Chg3 base gb gb gb W W') (hb : Row W' gb 35 [v']) (ho : OwnV W' base v' xs') : WB W' w0 gb base ps v' xs' := by
  have h1 := h.lt
  have h2 := h.ltp
  exact ⟨hb, ho, h.lt, h.ltp, Nat.le_trans h.hB c.size, c.row h.hp (by omega) (by omega) (by omega) (by omega), h.low.trans (c.low (B := base) (by omega) (by omega) (by omega) (by omega))⟩
theorem WB.drewN {W w0 : World} {gb base : Nat} {ps : List Value} {v : Value} {xs : List UInt8} (h : WB W w0 gb base ps v xs) (k : Nat) : WB (W.drewN k) w0 gb base ps v xs :=
  ⟨h.hb.drewN k, h.ho.drewN k, h.lt, h.ltp, h.hB, h.hp.drewN k, below_drewN h.low k⟩
theorem WB.alloc {W w0 : World} {gb base : Nat} {ps : List Value} {v : Value} {xs : List UInt8} (h : WB W w0 gb base ps v xs) (o : Obj) : WB (W.alloc o) w0 gb base ps v xs :=
  h.step (Chg3.of_below ((Below.refl base W).alloc h.hB o)) (h.hb.alloc o) (h.ho.below ((Below.refl _ W).alloc (Nat.le_refl _) o))
theorem WB.put {W W' w0 : World} {gb base : Nat} {ps : List Value} {v v' : Value} {xs xs' : List UInt8} (h : WB W w0 gb base ps v xs) (hb : Below base W W') (ho : OwnV W' base v' xs') : WB (W'.setCell ⟨gb, 0, none⟩ v') w0 gb base ps v' xs' :=
  h.step ((Chg3.of_below hb).set (g := gb) (.inl rfl) 0 v') ((h.hb.below hb h.lt).set 0 v') (ho.set_far h.lt v')
theorem byte_wrap (z : Int) : ∃ y : UInt8, IntKind.u8.wrap z = (y.toNat : Int) := by
  refine ⟨UInt8.ofNat (z % 256).toNat, ?_⟩
  rw [UInt8.toNat_ofNat', IntKind.wrap_u8]
  omega
theorem rd_one (w : World) (y : UInt8) : Rd (w.alloc (.cells #[.int .u8 (y.toNat : Int)] 5)) (w.alloc (.cells #[.int .u8 (y.toNat : Int)] 5)).heap.size (some ⟨w.heap.size, 0, none⟩) 1 (bVs [y]) := by
  have hrow := Row.new w [.int .u8 (y.toNat : Int)] 5
  refine ⟨rfl, fun _ => ⟨w.heap.size, 0, rfl, hrow.lt, fun j u hu => ?_⟩⟩
  rw [hrow.cell]
  rw [← hu, Nat.zero_add]
  rfl
/-- what emit.all hands back: at most three numbers, in a row of its own -/
def Ints3 (w w' : World) (A : Option Addr) (m : Nat) : Prop := m ≤ 3 ∧ (0 < m → ∃ g, A = some ⟨g, 0, none⟩ ∧ w.heap.size ≤ g ∧ g < w'.heap.size ∧ ∀ j, j < m → ∃ z : Int, w'.cell? ⟨g, j, none⟩ = some (.int .i64 z))
theorem write1_wb {W w0 : World} {gb base n : Nat} {ps : List Value} {v : Value} {xs : List UInt8} (h : WB W w0 gb base ps v xs) (hn : n < 2097152) (hl : xs.length ≤ 1000000) :
    Calls Try.prog 60 #[.int .i64 (n : Int), .pointer (some ⟨gb, 0, none⟩)] W fun e W' => ∃ v' xs', e = .returned (.tuple #[]) ∧ WB W' w0 gb base ps v' xs' ∧ xs'.length ≤ xs.length + 4 := by
  refine (write1_calls n base gb v xs hn W h.hb h.ho h.lt h.hB hl).mono ?_
  rintro e W' ⟨v', xs', rfl, h1, h2, h3, h4⟩
  exact ⟨v', xs', rfl, h.step h4 h1 h2, h3⟩
theorem byte_mod (z : Int) : ∃ y : UInt8, z % 256 = (y.toNat : Int) := by
  refine ⟨UInt8.ofNat (z % 256).toNat, ?_⟩
  rw [UInt8.toNat_ofNat']
  omega
set_option maxRecDepth 100000 in
set_option maxHeartbeats 4000000 in
theorem write_yes (AS : Option Addr) (l : List PS) (cS regs outs reads : Nat) (w : World) (hl : StepsAt w w.heap.size AS l) (hr : regs ≤ 256) (ho : outs ≤ 64) (hlen : l.length ≤ 65536)
    (hmay : ∀ w1, Below w.heap.size w w1 → Calls Try.prog 59 #[.agg #[.slice AS l.length cS, .int .i64 (regs : Int), .int .i64 (outs : Int), .int .u64 (reads : Int)]] w1 fun e w' => e = .returned (.bool true) ∧ Below w1.heap.size w1 w')
    (hrange : ∀ s ∈ l, s.k < 256)
    (hall : ∀ s ∈ l, ∀ w1, Calls Try.prog 62 #[.agg #[.int .u8 (s.k : Int), .int .i64 (s.D : Int), .int .i64 (s.S : Int), .int .u8 (s.C.toNat : Int)]] w1 fun e w' => ∃ A m c, e = .returned (.slice A m c) ∧ Ints3 w1 w' A m ∧ Below w1.heap.size w1 w') :
    Calls Try.prog 48 #[.agg #[.slice AS l.length cS, .int .i64 (regs : Int), .int .i64 (outs : Int), .int .u64 (reads : Int)]] w fun e w' => ∃ v, e = .returned (.tuple #[v, .int .i64 0]) ∧ Below w.heap.size w w' := by
  have hmf : ∀ (fn : Fn) (first cap : Array Value) (w : World), (Instr.makeFunc fn first cap).run Try.prog w = .ok (.func fn first cap) w := fun _ _ _ _ => rfl
  go_enter Try.func48, Try.ntmps48
  go_wp2_with fail
  have q : Below w.heap.size w (w.alloc (.cells #[.slice AS l.length cS, .int .i64 (regs : Int), .int .i64 (outs : Int), .int .u64 (reads : Int)] 26)) := (Below.refl _ _).alloc (Nat.le_refl _) _
  have hp0 := Row.new w [.slice AS l.length cS, .int .i64 (regs : Int), .int .i64 (outs : Int), .int .u64 (reads : Int)] 26
  refine (hmay _ q).mono ?_
  rintro e w1 ⟨rfl, hb⟩
  have hp1 := hp0.below hb hp0.lt
  have q1 : Below w.heap.size w w1 := q.trans (hb.mono (by simp))
  have h0 : WB (w1.alloc (.cells #[.slice none 0 0] 35)) w w1.heap.size (w1.heap.size + 1) [.slice AS l.length cS, .int .i64 (regs : Int), .int .i64 (outs : Int), .int .u64 (reads : Int)] (.slice none 0 0) [] :=
    ⟨Row.new w1 _ _, OwnV.nil _ _, by omega, by have := hp1.lt; omega, by simp, hp1.alloc _, q1.alloc q1.size _⟩
  have i4 : (0 : Int) ≤ (l.length : Int) := by omega
  have p1 : (w1.alloc (.cells #[.slice none 0 0] 35)).cell? ⟨w.heap.size, 1, none⟩ = some (.int .i64 (regs : Int)) := h0.hp.cell 1
  have H0 := Lib.hid h0
  clear h0 hp1 hp0
  go_wp2_with fail
  refine (write1_wb H0.out (n := regs) (by omega) (by simp)).mono ?_
  rintro e wa ⟨va, xa, rfl, ha, la⟩
  have p2 : wa.cell? ⟨w.heap.size, 2, none⟩ = some (.int .i64 (outs : Int)) := ha.hp.cell 2
  have HA := Lib.hid ha
  clear ha p1
  go_wp2_with fail
  refine (write1_wb HA.out (n := outs) (by omega) (by simp at la; omega)).mono ?_
  rintro e wb ⟨vb, xb, rfl, hb2, lb⟩
  have HB := Lib.hid hb2
  have LB := Lib.hid (show xb.length ≤ 8 by simp at la; omega)
  clear hb2 p2 la lb HA H0
  go_wp2_with fail
  go_loopw [6] (fun v6 wr => ∃ (i : Int) (v : Value) (xs : List UInt8), -1 ≤ i ∧ i ≤ 7 ∧ v6 = .int .i64 i ∧ WB wr w w1.heap.size (w1.heap.size + 1) [.slice AS l.length cS, .int .i64 (regs : Int), .int .i64 (outs : Int), .int .u64 (reads : Int)] v xs ∧ (xs.length : Int) + i ≤ 15) (fun v6 _ => (intOf v6 + 1).toNat)
  case atStart => exact ⟨7, vb, xb, by omega, by omega, rfl, HB.out, by have := LB.out; omega⟩
  case round =>
    obtain ⟨i, v, xs, hi0, hi7, rfl, hW, hlx⟩ := hrel
    clear HB LB
    have HW := Lib.hid hW
    by_cases hi : 0 ≤ i
    · obtain ⟨j, rfl⟩ : ∃ j : Nat, i = (j : Int) := ⟨i.toNat, by omega⟩
      have hd : decide (0 ≤ (j : Int)) = true := decide_eq_true hi
      have b0 : wr.cell? ⟨w1.heap.size, 0, none⟩ = some v := hW.hb.cell 0
      have p3 : wr.cell? ⟨w.heap.size, 3, none⟩ = some (.int .u64 (reads : Int)) := hW.hp.cell 3
      have lj : j ≤ 7 := by omega
      obtain ⟨s, hs⟩ : ∃ s : Nat, s = 8 * j := ⟨_, rfl⟩
      have e8 : IntKind.i64.wrap (8 * (j : Int)) = (s : Int) := by rw [IntKind.wrap_i64]; omega
      have ls : s ≤ 56 := by omega
      obtain ⟨y, hy⟩ := byte_wrap ((reads : Int) / 2 ^ (8 * (j : Int)).toNat)
      have hxl : xs.length + j ≤ 15 := by omega
      clear hW
      go_wp2_with fail
      refine wp_region_held_drew (S := (fun x => x.cell? ⟨w.heap.size, 3, none⟩ = some (.int .u64 (reads : Int)))) (by kernel_rfl) p3 (fun hHeld => ?_)
      refine wpAnyH_take (i := 1) (v := ?_) rfl (by kernel_rfl) (by kernel_rfl) (by kernel_rfl) (fun _ _ _ h => h) (Or.inl ⟨by kernel_rfl, ?_⟩) (by assumption) ?_
      rotate_left
      · (intro w hSw; (try dsimp only at hSw); go_simp; (try with_reducible rfl))
      try simp only [List.getElem_toArray, List.getElem_cons_succ, List.getElem_cons_zero, Act.put, List.setIfInBounds_toArray, List.set_cons_zero, List.set_cons_succ]
      refine wpAnyH_take (i := 2) (v := ?_) rfl (by kernel_rfl) (by kernel_rfl) (by kernel_rfl) (fun _ _ _ h => h) (Or.inl ⟨by kernel_rfl, ?_⟩) (by assumption) ?_
      rotate_left
      · (intro w hSw; (try dsimp only at hSw); go_simp; (try with_reducible rfl))
      try simp only [List.getElem_toArray, List.getElem_cons_succ, List.getElem_cons_zero, Act.put, List.setIfInBounds_toArray, List.set_cons_zero, List.set_cons_succ]
      refine wpAnyH_take (i := 3) (v := ?_) rfl (by kernel_rfl) (by kernel_rfl) (by kernel_rfl) (fun _ _ _ h => h) (Or.inl ⟨by kernel_rfl, ?_⟩) (by assumption) ?_
      rotate_left
      · (intro w hSw; (try dsimp only at hSw); go_simp; (try with_reducible rfl))
      try simp only [List.getElem_toArray, List.getElem_cons_succ, List.getElem_cons_zero, Act.put, List.setIfInBounds_toArray, List.set_cons_zero, List.set_cons_succ]
      refine wpAnyH_take (i := 4) (v := ?_) rfl (by kernel_rfl) (by kernel_rfl) (by kernel_rfl) (fun _ _ _ h => h) (Or.inl ⟨by kernel_rfl, ?_⟩) (by assumption) ?_
      rotate_left
      · (intro w hSw; (try dsimp only at hSw); go_simp; (try with_reducible rfl))
      try simp only [List.getElem_toArray, List.getElem_cons_succ, List.getElem_cons_zero, Act.put, List.setIfInBounds_toArray, List.set_cons_zero, List.set_cons_succ]
      refine wpAnyH_take (i := 5) (v := ?_) rfl (by kernel_rfl) (by kernel_rfl) (by kernel_rfl) (fun _ _ _ h => h) (Or.inl ⟨by kernel_rfl, ?_⟩) (by assumption) ?_
      rotate_left
      · (intro w hSw; (try dsimp only at hSw); go_simp; (try with_reducible rfl))
      try simp only [List.getElem_toArray, List.getElem_cons_succ, List.getElem_cons_zero, Act.put, List.setIfInBounds_toArray, List.set_cons_zero, List.set_cons_succ]
      refine wpAnyH_take (i := 6) (v := ?_) rfl (by kernel_rfl) (by kernel_rfl) (by kernel_rfl) (fun _ _ _ h => h) (Or.inl ⟨by kernel_rfl, ?_⟩) (by assumption) ?_
      rotate_left
      · (intro w hSw; (try dsimp only at hSw); go_simp; (try with_reducible rfl))
      try simp only [List.getElem_toArray, List.getElem_cons_succ, List.getElem_cons_zero, Act.put, List.setIfInBounds_toArray, List.set_cons_zero, List.set_cons_succ]
      refine wpAnyH_ready (rs := [0, 7]) (by kernel_rfl) (by simp) ?_
      refine AllReadyH.cons rfl (fun K hK => ?_) (AllReadyH.cons rfl (fun K hK => ?_) AllReadyH.nil)
      · go_simp
        refine hK.out _ _ hHeld (fun hHeld => ?_)
        clear hK K
        try simp only [List.getElem_toArray, List.getElem_cons_succ, List.getElem_cons_zero, Act.put, List.setIfInBounds_toArray, List.set_cons_zero, List.set_cons_succ]
        refine wpAnyH_ready (rs := [7]) (by kernel_rfl) (by simp) ?_
        refine AllReadyH.cons rfl (fun K hK => ?_) AllReadyH.nil
        go_simp
        have hA := (HW.out.alloc (.cells #[.int .u8 (y.toNat : Int)] 5)).drewN 1
        have hcl : (wr.alloc (.cells #[.int .u8 (y.toNat : Int)] 5)).cell? ⟨wr.heap.size, 0, none⟩ = some (.int .u8 (y.toNat : Int)) := (Row.new wr [.int .u8 (y.toNat : Int)] 5).cell 0
        obtain ⟨W2, hW2⟩ : ∃ W2, W2 = (wr.alloc (.cells #[.int .u8 (y.toNat : Int)] 5)).drew := ⟨_, rfl⟩
        have hcl2 : W2.cell? ⟨wr.heap.size, 0, none⟩ = some (.int .u8 (y.toNat : Int)) := by rw [hW2]; exact hcl
        have hA2 : WB W2 w w1.heap.size (w1.heap.size + 1) [.slice AS l.length cS, .int .i64 (regs : Int), .int .i64 (outs : Int), .int .u64 (reads : Int)] v xs := by rw [hW2]; exact hA
        rw [← hW2]
        clear hW2 hA hcl
        refine hK.out _ _ (hA2.hp.cell 3) (fun hHeld => ?_)
        clear hK K
        try simp only [List.getElem_toArray, List.getElem_cons_succ, List.getElem_cons_zero, Act.put, List.setIfInBounds_toArray, List.set_cons_zero, List.set_cons_succ]
        refine wpAnyH_ready (rs := [8]) (by kernel_rfl) (by simp) ?_
        refine AllReadyH.cons rfl (fun K hK => ?_) AllReadyH.nil
        refine step_append_byte (.tmp 27) (.tmp 34) rfl rfl (w1.heap.size + 1) wr.heap.size v xs y rfl hA2.ho rfl hcl2 (by omega) hA2.hB ?_
        intro v2 w4 ho4 hb4 hg4
        obtain ⟨A4, cap4, rfl, hox4⟩ := ho4.slice
        generalize hm4 : (xs ++ [y]).length = m4 at *
        have HM4 := Lib.hid hm4
        clear hm4
        have c4 : w4.cell? ⟨w1.heap.size, 0, none⟩ = some v := (hA2.hb.below hb4 hA2.lt).cell 0
        have f4 : w4.frozen? ⟨w1.heap.size, 0, none⟩ = false := (hA2.hb.below hb4 hA2.lt).frozen 0
        have p4 : w4.cell? ⟨w.heap.size, 3, none⟩ = some (.int .u64 (reads : Int)) := (hA2.hp.below hb4 (by have := hA2.ltp; omega)).cell 3
        have HF := Lib.hid (hA2.put hb4 ho4)
        clear hcl2 hA2 hg4 hox4 ho4 hb4
        refine hK.out _ _ p4 (fun hHeld => ?_)
        clear hK K
        try simp only [List.getElem_toArray, List.getElem_cons_succ, List.getElem_cons_zero, Act.put, List.setIfInBounds_toArray, List.set_cons_zero, List.set_cons_succ]
        refine wpAnyH_ready (rs := [9]) (by kernel_rfl) (by simp) ?_
        refine AllReadyH.cons rfl (fun K hK => ?_) AllReadyH.nil
        go_simp
        refine hK.out _ _ (HF.out.hp.cell 3) (fun hHeld => ?_)
        clear hK K
        try simp only [List.getElem_toArray, List.getElem_cons_succ, List.getElem_cons_zero, Act.put, List.setIfInBounds_toArray, List.set_cons_zero, List.set_cons_succ]
        refine wpAnyH_done (by kernel_rfl) ?_ _
        go_wp2_with fail
        go_roundw
        case rel => exact ⟨(j : Int) - 1, _, _, by omega, by omega, by go_num, HF.out, by rw [List.length_append, List.length_singleton]; omega⟩
        case measure => simp [intOf] <;> omega
      · go_simp
        have hA := (HW.out.alloc (.cells #[.int .u8 (y.toNat : Int)] 5)).drewN 1
        have hcl : (wr.alloc (.cells #[.int .u8 (y.toNat : Int)] 5)).cell? ⟨wr.heap.size, 0, none⟩ = some (.int .u8 (y.toNat : Int)) := (Row.new wr [.int .u8 (y.toNat : Int)] 5).cell 0
        obtain ⟨W2, hW2⟩ : ∃ W2, W2 = (wr.alloc (.cells #[.int .u8 (y.toNat : Int)] 5)).drew := ⟨_, rfl⟩
        have hcl2 : W2.cell? ⟨wr.heap.size, 0, none⟩ = some (.int .u8 (y.toNat : Int)) := by rw [hW2]; exact hcl
        have hA2 : WB W2 w w1.heap.size (w1.heap.size + 1) [.slice AS l.length cS, .int .i64 (regs : Int), .int .i64 (outs : Int), .int .u64 (reads : Int)] v xs := by rw [hW2]; exact hA
        rw [← hW2]
        clear hW2 hA hcl
        have b2 : W2.cell? ⟨w1.heap.size, 0, none⟩ = some v := hA2.hb.cell 0
        refine hK.out _ _ (hA2.hp.cell 3) (fun hHeld => ?_)
        clear hK K
        try simp only [List.getElem_toArray, List.getElem_cons_succ, List.getElem_cons_zero, Act.put, List.setIfInBounds_toArray, List.set_cons_zero, List.set_cons_succ]
        refine wpAnyH_ready (rs := [0]) (by kernel_rfl) (by simp) ?_
        refine AllReadyH.cons rfl (fun K hK => ?_) AllReadyH.nil
        go_simp
        refine hK.out _ _ hHeld (fun hHeld => ?_)
        clear hK K
        try simp only [List.getElem_toArray, List.getElem_cons_succ, List.getElem_cons_zero, Act.put, List.setIfInBounds_toArray, List.set_cons_zero, List.set_cons_succ]
        refine wpAnyH_ready (rs := [8]) (by kernel_rfl) (by simp) ?_
        refine AllReadyH.cons rfl (fun K hK => ?_) AllReadyH.nil
        refine step_append_byte (.tmp 27) (.tmp 34) rfl rfl (w1.heap.size + 1) wr.heap.size v xs y rfl hA2.ho rfl hcl2 (by omega) hA2.hB ?_
        intro v2 w4 ho4 hb4 hg4
        obtain ⟨A4, cap4, rfl, hox4⟩ := ho4.slice
        generalize hm4 : (xs ++ [y]).length = m4 at *
        have HM4 := Lib.hid hm4
        clear hm4
        have c4 : w4.cell? ⟨w1.heap.size, 0, none⟩ = some v := (hA2.hb.below hb4 hA2.lt).cell 0
        have f4 : w4.frozen? ⟨w1.heap.size, 0, none⟩ = false := (hA2.hb.below hb4 hA2.lt).frozen 0
        have p4 : w4.cell? ⟨w.heap.size, 3, none⟩ = some (.int .u64 (reads : Int)) := (hA2.hp.below hb4 (by have := hA2.ltp; omega)).cell 3
        have HF := Lib.hid (hA2.put hb4 ho4)
        clear hcl2 hA2 hg4 hox4 ho4 hb4
        refine hK.out _ _ p4 (fun hHeld => ?_)
        clear hK K
        try simp only [List.getElem_toArray, List.getElem_cons_succ, List.getElem_cons_zero, Act.put, List.setIfInBounds_toArray, List.set_cons_zero, List.set_cons_succ]
        refine wpAnyH_ready (rs := [9]) (by kernel_rfl) (by simp) ?_
        refine AllReadyH.cons rfl (fun K hK => ?_) AllReadyH.nil
        go_simp
        refine hK.out _ _ (HF.out.hp.cell 3) (fun hHeld => ?_)
        clear hK K
        try simp only [List.getElem_toArray, List.getElem_cons_succ, List.getElem_cons_zero, Act.put, List.setIfInBounds_toArray, List.set_cons_zero, List.set_cons_succ]
        refine wpAnyH_done (by kernel_rfl) ?_ _
        go_wp2_with fail
        go_roundw
        case rel => exact ⟨(j : Int) - 1, _, _, by omega, by omega, by go_num, HF.out, by rw [List.length_append, List.length_singleton]; omega⟩
        case measure => simp [intOf] <;> omega
    · obtain rfl : i = -1 := by omega
      have p0 : wr.cell? ⟨w.heap.size, 0, none⟩ = some (.slice AS l.length cS) := hW.hp.cell 0
      clear hW
      go_wp2_with fail
      refine (write1_wb HW.out (n := l.length) (by omega) (by omega)).mono ?_
      rintro e wc ⟨vc, xc, rfl, hc, lc⟩
      have p0 : wc.cell? ⟨w.heap.size, 0, none⟩ = some (.slice AS l.length cS) := hc.hp.cell 0
      have HC := Lib.hid hc
      have LC := Lib.hid (show xc.length ≤ 20 by omega)
      clear hc lc HW
      go_wp2_with fail
      go_loopw [44] (fun v44 wr => ∃ (i : Nat) (v : Value) (xs : List UInt8), i ≤ l.length ∧ v44 = .int .i64 (i : Int) ∧ WB wr w w1.heap.size (w1.heap.size + 1) [.slice AS l.length cS, .int .i64 (regs : Int), .int .i64 (outs : Int), .int .u64 (reads : Int)] v xs ∧ xs.length ≤ 20 + 4 * i) (fun v44 _ => l.length - (intOf v44).toNat)
      case atStart => exact ⟨0, vc, xc, by omega, rfl, HC.out, LC.out⟩
      case round =>
        obtain ⟨i, v, xs, hi, rfl, hW, hlx⟩ := hrel
        clear HC LC
        have HW := Lib.hid hW
        by_cases hlt : i < l.length
        · obtain ⟨g, o, rfl, hg, hcs⟩ := (hl.below hW.low) (by omega)
          obtain ⟨s, hs⟩ : ∃ s, l[i]? = some s := ⟨l[i], List.getElem?_eq_getElem hlt⟩
          obtain ⟨s0, s1, s2, s3⟩ := hcs i s hs
          have hsl : s ∈ l := List.mem_of_getElem? hs
          obtain ⟨y, hy⟩ := byte_at (m := s.k) (hrange s hsl)
          have hal := hall s hsl
          rw [hy] at s0 hal
          have HALL := Lib.hid hal
          have i0 : (0 : Int) ≤ (i : Int) := by omega
          have i1 : (i : Int) < (l.length : Int) := by omega
          have hST := Row.new wr [.int .u8 (y.toNat : Int), .int .i64 (s.D : Int), .int .i64 (s.S : Int), .int .u8 (s.C.toNat : Int)] 59
          have hA := hW.alloc (.cells #[.int .u8 (y.toNat : Int), .int .i64 (s.D : Int), .int .i64 (s.S : Int), .int .u8 (s.C.toNat : Int)] 59)
          have b0 : (wr.alloc (.cells #[.int .u8 (y.toNat : Int), .int .i64 (s.D : Int), .int .i64 (s.S : Int), .int .u8 (s.C.toNat : Int)] 59)).cell? ⟨w1.heap.size, 0, none⟩ = some v := hA.hb.cell 0
          have t0 : (wr.alloc (.cells #[.int .u8 (y.toNat : Int), .int .i64 (s.D : Int), .int .i64 (s.S : Int), .int .u8 (s.C.toNat : Int)] 59)).cell? ⟨wr.heap.size, 0, none⟩ = some (.int .u8 (y.toNat : Int)) := hST.cell 0
          have HA := Lib.hid hA
          have HST := Lib.hid hST
          have hvo : v.ownBlock ≠ some wr.heap.size := fun e => by have := (World.ownsRow.lt hW.ho wr.heap.size e).2; omega
          clear hcs hs hW hy hal hall hA hST
          have HAB := Lib.hid (HA.out.alloc (.cells #[.int .u8 (y.toNat : Int)] 5))
          have HRD := Lib.hid (show Rd ((wr.alloc (.cells #[.int .u8 (y.toNat : Int), .int .i64 (s.D : Int), .int .i64 (s.S : Int), .int .u8 (s.C.toNat : Int)] 59)).alloc (.cells #[.int .u8 (y.toNat : Int)] 5)) _ (some ⟨wr.heap.size + 1, 0, none⟩) 1 (bVs [y]) from by have h := rd_one (wr.alloc (.cells #[.int .u8 (y.toNat : Int), .int .i64 (s.D : Int), .int .i64 (s.S : Int), .int .u8 (s.C.toNat : Int)] 59)) y; simpa using h)
          have HSTB := Lib.hid (HST.out.alloc (.cells #[.int .u8 (y.toNat : Int)] 5))
          go_wp2_with (at_builtin; go_loud (refine wpList_append_rd (.tmp 48) (.tmp 51) rfl rfl (w1.heap.size + 1) v xs [y] rfl HAB.out.ho _ (some ⟨wr.heap.size + 1, 0, none⟩) 1 1 rfl HRD.out (by omega) HAB.out.hB ?_); intro v2 w2 ho2 hg2 hat2; obtain ⟨A2, cap2, rfl, hox2⟩ := ho2.slice; generalize hm2 : (xs ++ [y]).length = m2 at *; have HM2 := Lib.hid hm2; clear hm2; have hb2 := Lib.hid (grown_below (B := w1.heap.size + 1) hg2 HAB.out.hB (fun k hk => (World.ownsRow.lt HAB.out.ho k hk).1)); have b2 : w2.cell? ⟨w1.heap.size, 0, none⟩ = some v := (HAB.out.hb.below hb2.out HAB.out.lt).cell 0; have f2 : w2.frozen? ⟨w1.heap.size, 0, none⟩ = false := (HAB.out.hb.below hb2.out HAB.out.lt).frozen 0; have HW2 := Lib.hid (HAB.out.put hb2.out ho2); have HST2 := Lib.hid (show Row w2 wr.heap.size 59 _ from (hg2.block wr.heap.size HSTB.out.lt (Ne.symm hvo)).trans HSTB.out); have hne3 : wr.heap.size ≠ w1.heap.size := (by have := HAB.out.lt; have := HW.out.hB; omega); have HS3 := Lib.hid (HST2.out.far (p := ⟨w1.heap.size, 0, none⟩) hne3 (.slice A2 m2 cap2)); have q0 : (w2.setCell ⟨w1.heap.size, 0, none⟩ (.slice A2 m2 cap2)).cell? ⟨wr.heap.size, 0, none⟩ = some (.int .u8 (y.toNat : Int)) := HS3.out.cell 0; have q1 : (w2.setCell ⟨w1.heap.size, 0, none⟩ (.slice A2 m2 cap2)).cell? ⟨wr.heap.size, 1, none⟩ = some (.int .i64 (s.D : Int)) := HS3.out.cell 1; have q2 : (w2.setCell ⟨w1.heap.size, 0, none⟩ (.slice A2 m2 cap2)).cell? ⟨wr.heap.size, 2, none⟩ = some (.int .i64 (s.S : Int)) := HS3.out.cell 2; have q3 : (w2.setCell ⟨w1.heap.size, 0, none⟩ (.slice A2 m2 cap2)).cell? ⟨wr.heap.size, 3, none⟩ = some (.int .u8 (s.C.toNat : Int)) := HS3.out.cell 3)
          refine (HALL.out _).mono ?_
          rintro e w4 ⟨A4, m4, c4, rfl, hI, hb4⟩
          have HW4 := Lib.hid (HW2.out.step (Chg3.of_below (hb4.mono HW2.out.hB)) (HW2.out.hb.below hb4 HW2.out.hb.lt) (HW2.out.ho.below hb4))
          have HI := Lib.hid hI
          have lm4 : m4 ≤ 3 := hI.1
          have hv4 : ∀ g, A4 = some ⟨g, 0, none⟩ → 0 < m4 → (Value.slice A2 m2 cap2).ownBlock ≠ some g := by
            intro g4 hg4 hm e4
            obtain ⟨g5, e5, h5, _⟩ := hI.2 hm
            rw [hg4] at e5
            simp only [Option.some.injEq, Addr.mk.injEq, and_true] at e5
            subst e5
            have := (World.ownsRow.lt HW2.out.ho g4 e4).2
            omega
          clear q0 q1 q2 q3 b2 f2 hI hb4
          go_wp2_with fail
          have hI2 : ∀ g4, A4 = some ⟨g4, 0, none⟩ → 0 < m4 → g4 < w4.heap.size ∧ ∀ q, q < m4 → ∃ z : Int, w4.cell? ⟨g4, q, none⟩ = some (.int .i64 z) := by
            intro g4 hg4 hm
            obtain ⟨g5, e5, _, h5, h6⟩ := HI.out.2 hm
            rw [hg4] at e5
            simp only [Option.some.injEq, Addr.mk.injEq, and_true] at e5
            subst e5
            exact ⟨h5, h6⟩
          have HI2 := Lib.hid hI2
          have HV4 := Lib.hid hv4
          clear hI2 hv4
          go_loopw [56] (fun v56 wr => ∃ (j : Nat) (v : Value) (ys : List UInt8), j ≤ m4 ∧ v56 = .int .i64 (j : Int) ∧ WB wr w w1.heap.size (w1.heap.size + 1) [.slice (some ⟨g, o, none⟩) l.length cS, .int .i64 (regs : Int), .int .i64 (outs : Int), .int .u64 (reads : Int)] v ys ∧ ys.length ≤ xs.length + 1 + j ∧ (∀ g4, A4 = some ⟨g4, 0, none⟩ → 0 < m4 → v.ownBlock ≠ some g4 ∧ g4 < wr.heap.size ∧ ∀ q, q < m4 → ∃ z : Int, wr.cell? ⟨g4, q, none⟩ = some (.int .i64 z))) (fun v56 _ => m4 - (intOf v56).toNat)
          case atStart => exact ⟨0, _, _, by omega, rfl, HW4.out, by rw [List.length_append, List.length_singleton]; omega, fun g4 h1 h2 => ⟨HV4.out g4 h1 h2, HI2.out g4 h1 h2⟩⟩
          case round =>
            obtain ⟨j, v3, ys, hj, rfl, hW, hly, hin⟩ := hrel
            clear HW4 HI2 HV4
            by_cases hjm : j < m4
            · obtain ⟨g4, rfl, hge, _⟩ := HI.out.2 (by omega)
              have HGE := Lib.hid (show w1.heap.size + 1 ≤ g4 from Nat.le_trans HW2.out.hB hge)
              clear hge
              obtain ⟨n1, n2, n3⟩ := hin g4 rfl (by omega)
              obtain ⟨z, hz⟩ := n3 j hjm
              obtain ⟨y2, hy2⟩ := byte_wrap z
              have j0 : (0 : Int) ≤ (j : Int) := by omega
              have j1 : (j : Int) < (m4 : Int) := by omega
              have b0 : wr.cell? ⟨w1.heap.size, 0, none⟩ = some v3 := hW.hb.cell 0
              have HAB := Lib.hid (hW.alloc (.cells #[.int .u8 (y2.toNat : Int)] 5))
              have HRD := Lib.hid (rd_one wr y2)
              have HIN := Lib.hid n3
              have HWR := Lib.hid hW
              have hsz : (wr.alloc (.cells #[.int .u8 (y2.toNat : Int)] 5)).heap.size = wr.heap.size + 1 := by simp
              have HSZ := Lib.hid hsz
              clear hin hW n3 hsz
              go_wp2_with (at_builtin; go_loud (refine wpList_append_rd (.tmp 60) (.tmp 63) rfl rfl (w1.heap.size + 1) v3 ys [y2] rfl HAB.out.ho _ (some ⟨wr.heap.size, 0, none⟩) 1 1 rfl HRD.out (by omega) HAB.out.hB ?_); intro v5 w5 ho5 hg5 hat5; obtain ⟨A5, cap5, rfl, hox5⟩ := ho5.slice; generalize hm5 : (ys ++ [y2]).length = m5 at *; have HM5 := Lib.hid hm5; clear hm5; have hb5 := Lib.hid (grown_below (B := w1.heap.size + 1) hg5 HAB.out.hB (fun k hk => (World.ownsRow.lt HAB.out.ho k hk).1)); have b5 : w5.cell? ⟨w1.heap.size, 0, none⟩ = some v3 := (HAB.out.hb.below hb5.out HAB.out.lt).cell 0; have f5 : w5.frozen? ⟨w1.heap.size, 0, none⟩ = false := (HAB.out.hb.below hb5.out HAB.out.lt).frozen 0; have HW5 := Lib.hid (HAB.out.put hb5.out ho5); have HG5 := Lib.hid hg5; have HAT5 := Lib.hid hat5; clear hg5 hat5)
              go_roundw
              case rel =>
                refine ⟨j + 1, _, _, by omega, by go_num, HW5.out, by have := HM5.out; rw [List.length_append, List.length_singleton] at this ⊢; omega, fun g6 h1 _ => ?_⟩
                simp only [Option.some.injEq, Addr.mk.injEq, and_true] at h1
                subst h1
                have hs1 := HSZ.out
                refine ⟨?_, ?_, fun q hq => ?_⟩
                · rcases HAT5.out with h | h
                  · rw [h]; exact n1
                  · rw [h, hs1]; intro e; injection e with e; omega
                · have := HG5.out.size; simp; omega
                · obtain ⟨zq, hzq⟩ := HIN.out q hq
                  refine ⟨zq, ?_⟩
                  have hge := HGE.out
                  have e1 : w5.heap[g4]? = wr.heap[g4]? := (HG5.out.block g4 (by rw [hs1]; omega) (Ne.symm n1)).trans (Below.heap_alloc wr _ g4 n2)
                  exact (World.cell?_setCell_other w5 ⟨w1.heap.size, 0, none⟩ ⟨g4, q, none⟩ _ (by intro e; injection e with e; omega)).trans ((World.cell?_of_block (a := ⟨g4, q, none⟩) e1).trans hzq)
              case measure => simp [intOf] <;> omega
            · have HIN := Lib.hid hin
              have HWR := Lib.hid hW
              clear hin hW
              go_wp2_with fail
              go_roundw
              case rel => exact ⟨i + 1, v3, ys, by omega, by go_num, HWR.out, by omega⟩
              case measure => simp [intOf] <;> omega
        · have b0 : wr.cell? ⟨w1.heap.size, 0, none⟩ = some v := hW.hb.cell 0
          have hlow := hW.low
          obtain ⟨A2, cap2, rfl, hox2⟩ := hW.ho.slice
          clear hW
          go_wp2_with fail
          go_ret2
          exact ⟨_, rfl, hlow⟩
end Go.Proofs.Ythbjcafldbocpaa
