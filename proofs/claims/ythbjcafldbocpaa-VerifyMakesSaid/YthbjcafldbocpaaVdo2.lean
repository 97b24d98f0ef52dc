/- The walk of the document's step: a step that loads. -/
import Derived.Test.YthbjcafldbocpaaVdo1
namespace Go.Proofs.Ythbjcafldbocpaa
open Go.RowKit
set_option linter.unusedVariables false
set_option linter.unusedSimpArgs false
set_option maxRecDepth 100000 in
theorem rhas_is (reads s : Nat) (hs : s < 64) (hr : reads < 2 ^ 64) (b : Bool) (h : reads.testBit s = b) (w : World) :
    Calls Try.prog 69 #[.int .u64 (reads : Int), .int .i64 (s : Int)] w fun e w' => e = .returned (.bool b) ∧ w' = w := by
  subst h
  have h1 : decide ((s : Int) < 64) = true := decide_eq_true (by omega)
  have h0 : decide ((0 : Int) ≤ (s : Int)) = true := decide_eq_true (by omega)
  go_enter Try.func69, Try.ntmps69
  go_wp2_with fail
  go_ret
  exact ⟨ret_b (testb_u64 reads s hr), rfl⟩
/-- a register is written, and a read is told -/
theorem DW.load {W W' : World} {gt ga gz nr no n ld D : Nat} {st : VS} (h : DW W gt ga gz nr no n st) (hk : ∀ (k : Nat) (cells : Array Value), W.heap[k]? = some (Obj.cells cells 5 (0, 0)) → W'.heap[k]? = W.heap[k]?)
    {v : Value} (ha : ∀ lv, Row W ga 35 lv → Row W' ga 35 (lv.set D v)) (hz : ∀ lz, Row W gz 35 lz → Row W' gz 35 lz) (ht : Row W' gt 113 [.slice (some ⟨ga, 0, none⟩) nr nr, .slice (some ⟨gz, 0, none⟩) no no, .int .u64 (ld : Int)]) {l : List UInt8} (hl : l.length = n) (hv : ValO W' v (some l)) (hld : ld < 2 ^ 64) :
    DW W' gt ga gz nr no n { st with regs := st.regs.set D (some l), loads := ld } := by
  obtain ⟨h1, ⟨lv, hr, hv2⟩, ⟨lz, hz2, hw⟩, h4, h5, n1, n2, n3⟩ := h
  exact ⟨ht, ⟨_, ha lv hr, (hv2.keep hk).set D hv⟩, ⟨lz, hz lz hz2, hw.keep hk⟩, h4.set D l hl ld, hld, n1, n2, n3⟩
theorem row_inj {W : World} {g : Nat} {t : TypeId} {a b : List Value} (h : Row W g t a) (h' : Row W g t b) : a = b := by
  unfold Row at h h'
  rw [h] at h'
  injection h' with h'
  injection h' with e _
  have := congrArg Array.toList e
  simpa using this
set_option maxHeartbeats 4000000 in
set_option maxRecDepth 100000 in
theorem do_load (gt ga gz nr no n reads nS cS : Nat) (AS : Option Addr) (D S : Nat) (C : UInt8) (st : VS) (W : World) (h : DW W gt ga gz nr no n st) (hn : n ≤ 64) (hnr : nr ≤ 256) (hrd : reads < 2 ^ 64) :
    Calls Try.prog 51 #[.pointer (some ⟨gt, 0, none⟩), .agg #[.slice AS nS cS, .int .i64 (nr : Int), .int .i64 (no : Int), .int .u64 (reads : Int)], .agg #[.int .u8 2, .int .i64 (D : Int), .int .i64 (S : Int), .int .u8 (C.toNat : Int)], .int .i64 (n : Int)] W fun e W' =>
      Chg3 W.heap.size gt ga gz W W' ∧ (∀ st', vStep nr no reads n st 2 D S C = some st' → e = .returned (.bool true) ∧ DW W' gt ga gz nr no n st') ∧ (vStep nr no reads n st 2 D S C = none → e = .returned (.bool false)) := by
  have i0 : (0 : Int) ≤ (D : Int) := by omega
  have j0 : (0 : Int) ≤ (S : Int) := by omega
  go_enter Try.func51, Try.ntmps51
  go_wp2_with fail
  obtain ⟨W1, hW1⟩ : ∃ W1, W1 = (W.alloc (.cells #[.slice AS nS cS, .int .i64 (nr : Int), .int .i64 (no : Int), .int .u64 (reads : Int)] 26)).alloc (.cells #[.int .u8 2, .int .i64 (D : Int), .int .i64 (S : Int), .int .u8 (C.toNat : Int)] 59) := ⟨_, rfl⟩
  have q : Below W.heap.size W W1 := by rw [hW1]; exact ((Below.refl _ _).alloc (Nat.le_refl _) _).alloc (by simp) _
  have hp : Row W1 W.heap.size 26 [.slice AS nS cS, .int .i64 (nr : Int), .int .i64 (no : Int), .int .u64 (reads : Int)] := by rw [hW1]; exact (Row.new W _ _).alloc _
  have hs : Row W1 (W.heap.size + 1) 59 [.int .u8 2, .int .i64 (D : Int), .int .i64 (S : Int), .int .u8 (C.toNat : Int)] := by
    rw [hW1]
    have := Row.new (W.alloc (.cells #[.slice AS nS cS, .int .i64 (nr : Int), .int .i64 (no : Int), .int .u64 (reads : Int)] 26)) [.int .u8 2, .int .i64 (D : Int), .int .i64 (S : Int), .int .u8 (C.toNat : Int)] 59
    simpa using this
  have h1 := h.below q
  have ltt := h.ht.lt
  have lta : ga < W.heap.size := by obtain ⟨lv, hr, _⟩ := h.la; exact hr.lt
  have ltz : gz < W.heap.size := by obtain ⟨lv, hr, _⟩ := h.lz; exact hr.lt
  rw [← hW1]
  clear hW1 h
  obtain ⟨lv, hra, hva⟩ := h1.la
  obtain ⟨lz, hrz, hvz⟩ := h1.lz
  have k0 : W1.cell? ⟨gt, 0, none⟩ = some (.slice (some ⟨ga, 0, none⟩) nr nr) := h1.ht.cell 0
  have s0 : W1.cell? ⟨W.heap.size + 1, 0, none⟩ = some (.int .u8 2) := hs.cell 0
  have s1 : W1.cell? ⟨W.heap.size + 1, 1, none⟩ = some (.int .i64 (D : Int)) := hs.cell 1
  have s2 : W1.cell? ⟨W.heap.size + 1, 2, none⟩ = some (.int .i64 (S : Int)) := hs.cell 2
  have e1 : ∀ k : Nat, W1.heap[k]? = W1.heap[k]? := fun _ => rfl
  obtain ⟨bD, hbD⟩ : ∃ b, (st.regs.getD D none).isSome = b := ⟨_, rfl⟩
  obtain ⟨bS, hbS⟩ : ∃ b, (st.regs.getD S none).isSome = b := ⟨_, rfl⟩
  have HID := Lib.hid (fun (X : World) (e : ∀ k : Nat, X.heap[k]? = W1.heap[k]?) => inside_is X ga nr D lv st.regs ((e ga).trans hra) (hva.keep (fun g _ _ => e g)) h1.ok.lr _ hbD)
  have HIS := Lib.hid (fun (X : World) (e : ∀ k : Nat, X.heap[k]? = W1.heap[k]?) => inside_is X ga nr S lv st.regs ((e ga).trans hra) (hva.keep (fun g _ _ => e g)) h1.ok.lr _ hbS)
  have HBD := Lib.hid hbD
  have HBS := Lib.hid hbS
  clear hbD hbS
  have H1 := Lib.hid h1
  have HS := Lib.hid hs
  have HP := Lib.hid hp
  have HQ := Lib.hid q
  have HRA := Lib.hid hra
  have HVA := Lib.hid hva
  have HRZ := Lib.hid hrz
  have HVZ := Lib.hid hvz
  clear h1 hs hp q hra hva hrz hvz
  go_quiet (exact Calls.quiet_of_same (HID.out _ (fun _ => rfl)))
  obtain ⟨W2, hW2⟩ : ∃ W2, W2 = W1.drewN nq := ⟨_, rfl⟩
  have e2 : ∀ k : Nat, W2.heap[k]? = W1.heap[k]? := by rw [hW2]; exact e1
  rw [← hW2]
  have k0 : W2.cell? ⟨gt, 0, none⟩ = some (.slice (some ⟨ga, 0, none⟩) nr nr) := by rw [hW2]; exact k0
  have s0 : W2.cell? ⟨W.heap.size + 1, 0, none⟩ = some (.int .u8 2) := by rw [hW2]; exact s0
  have s1 : W2.cell? ⟨W.heap.size + 1, 1, none⟩ = some (.int .i64 (D : Int)) := by rw [hW2]; exact s1
  have s2 : W2.cell? ⟨W.heap.size + 1, 2, none⟩ = some (.int .i64 (S : Int)) := by rw [hW2]; exact s2
  have HW2 := Lib.hid hW2
  clear hW2
  go_wp2_with fail
  go_quiet (exact Calls.quiet_of_same (HIS.out _ e2))
  obtain ⟨W3, hW3⟩ : ∃ W3, W3 = W2.drewN nq := ⟨_, rfl⟩
  have e3 : ∀ k : Nat, W3.heap[k]? = W1.heap[k]? := by rw [hW3]; exact e2
  rw [← hW3]
  have k0 : W3.cell? ⟨gt, 0, none⟩ = some (.slice (some ⟨ga, 0, none⟩) nr nr) := by rw [hW3]; exact k0
  have s0 : W3.cell? ⟨W.heap.size + 1, 0, none⟩ = some (.int .u8 2) := by rw [hW3]; exact s0
  have s1 : W3.cell? ⟨W.heap.size + 1, 1, none⟩ = some (.int .i64 (D : Int)) := by rw [hW3]; exact s1
  have s2 : W3.cell? ⟨W.heap.size + 1, 2, none⟩ = some (.int .i64 (S : Int)) := by rw [hW3]; exact s2
  have p1 : W3.cell? ⟨W.heap.size, 1, none⟩ = some (.int .i64 (nr : Int)) := (HP.out.of_block (w' := W3) (e3 _)).cell 1
  have p2 : W3.cell? ⟨W.heap.size, 2, none⟩ = some (.int .i64 (no : Int)) := (HP.out.of_block (w' := W3) (e3 _)).cell 2
  have p3 : W3.cell? ⟨W.heap.size, 3, none⟩ = some (.int .u64 (reads : Int)) := (HP.out.of_block (w' := W3) (e3 _)).cell 3
  have q3 : Below W.heap.size W W3 := by rw [hW3, HW2.out]; exact below_drewN (below_drewN HQ.out _) _
  have HW3 := Lib.hid hW3
  clear hW3
  have D3 := Lib.hid (H1.out.below (W' := W3) (show Below W1.heap.size W1 W3 by rw [HW3.out, HW2.out]; exact below_drewN (below_drewN (Below.refl _ _) _) _))
  by_cases hD : D < nr
  · have h1 : decide ((nr : Int) ≤ (D : Int)) = false := decide_eq_false (by omega)
    have h1n : decide (nr ≤ D) = false := decide_eq_false (by omega)
    by_cases hSn : S < n
    · have h2 : decide ((n : Int) ≤ (S : Int)) = false := decide_eq_false (by omega)
      have h2n : decide (n ≤ S) = false := decide_eq_false (by omega)
      by_cases hb : reads.testBit S = true
      · have i1 : (D : Int) < (nr : Int) := by omega
        have hmk := make_bytes n (by omega)
        obtain ⟨lw, hrw, hvw⟩ := D3.out.la
        have c1 : ∃ u, W3.cell? ⟨ga, D, none⟩ = some u := hrw.has (by rw [hvw.1, D3.out.ok.lr]; exact hD)
        obtain ⟨u, c1⟩ := c1
        have f1 : W3.frozen? ⟨ga, D, none⟩ = false := hrw.frozen D
        have c2 : (W3.alloc (.cells (madeCells #[.int .u8 0] n) 5)).cell? ⟨ga, D, none⟩ = some u := ((hrw.alloc _).cell D).trans ((hrw.cell D).symm.trans c1)
        have f2 : (W3.alloc (.cells (madeCells #[.int .u8 0] n) 5)).frozen? ⟨ga, D, none⟩ = false := (hrw.alloc _).frozen D
        have ng : ga ≠ gt := D3.out.ne.1
        have lgt3 : gt < W3.heap.size := D3.out.ht.lt
        have lga3 : ga < W3.heap.size := hrw.lt
        have HRW := Lib.hid hrw
        have HVW := Lib.hid hvw
        clear hrw hvw
        have nb : ga ≠ W.heap.size + 1 := by omega
        have lt3 : W.heap.size + 1 < W3.heap.size := (HS.out.of_block (w' := W3) (e3 _)).lt
        go_wp2_with (first | (refine (rhas_is reads S (by omega) hrd true hb _).mono ?_; rintro e w' ⟨rfl, hw'⟩; rw [hw']; clear hw' w'))
        go_region_held3 (fun x => x.cell? ⟨gt, 0, none⟩ = some (.slice (some ⟨ga, 0, none⟩) nr nr) ∧ x.cell? ⟨W.heap.size + 1, 1, none⟩ = some (.int .i64 (D : Int))) (go_keep) (fail)
        have hr0 := row_made_bytes W3 n
        obtain ⟨W4, hW4⟩ : ∃ W4, W4 = ((W3.setCell ⟨ga, D, none⟩ (.slice (some ⟨W3.heap.size, 0, none⟩) n n)).alloc (.cells (madeCells #[.int .u8 0] n) 5)).drew := ⟨_, rfl⟩
        have hg4 : Row W4 W3.heap.size 5 (bVs (List.replicate n 0)) := by
          rw [hW4]
          have h9 := row_made_bytes (W3.setCell ⟨ga, D, none⟩ (.slice (some ⟨W3.heap.size, 0, none⟩) n n)) n
          have h8 : (W3.setCell ⟨ga, D, none⟩ (.slice (some ⟨W3.heap.size, 0, none⟩) n n)).heap.size = W3.heap.size := by simp [World.setCell]
          rw [h8] at h9
          exact h9
        have sz4 : W4.heap.size = W3.heap.size + 1 := by rw [hW4]; simp [World.setCell]
        have ha4 : Row W4 ga 35 (lw.set D (.slice (some ⟨W3.heap.size, 0, none⟩) n n)) := by rw [hW4]; exact (HRW.out.set D _).alloc _
        have e4 : ∀ k, k < W3.heap.size → k ≠ ga → W4.heap[k]? = W3.heap[k]? := by
          intro k hk hne
          rw [hW4]
          exact (Below.heap_alloc _ _ k (by simpa [World.setCell] using hk)).trans (Below.heap_setCell W3 ⟨ga, D, none⟩ _ k (by simp; omega))
        have o4 : W4.os = W3.os ∧ W4.tape = W3.tape ∧ W4.output = W3.output := by rw [hW4]; exact ⟨rfl, rfl, rfl⟩
        rw [← hW4]
        have HW4 := Lib.hid hW4
        clear hW4 c1 c2 f1 f2 k0 s0 s1 s2 hr0 hmk
        have hs4 : Row W4 (W.heap.size + 1) 59 [.int .u8 2, .int .i64 (D : Int), .int .i64 (S : Int), .int .u8 (C.toNat : Int)] := HS.out.of_block ((e4 _ lt3 (by omega)).trans (e3 _))
        have ht4 : Row W4 gt 113 _ := D3.out.ht.of_block (e4 gt lgt3 (Ne.symm ng))
        have k0 : W4.cell? ⟨gt, 0, none⟩ = some (.slice (some ⟨ga, 0, none⟩) nr nr) := ht4.cell 0
        have s0 : W4.cell? ⟨W.heap.size + 1, 0, none⟩ = some (.int .u8 2) := hs4.cell 0
        have s1 : W4.cell? ⟨W.heap.size + 1, 1, none⟩ = some (.int .i64 (D : Int)) := hs4.cell 1
        have s2 : W4.cell? ⟨W.heap.size + 1, 2, none⟩ = some (.int .i64 (S : Int)) := hs4.cell 2
        have cD : W4.cell? ⟨ga, D, none⟩ = some (.slice (some ⟨W3.heap.size, 0, none⟩) n n) := by
          rw [ha4.cell, List.getElem?_set_self (by rw [HVW.out.1, D3.out.ok.lr]; exact hD)]
        have cg : W4.cell? ⟨W3.heap.size, S, none⟩ = some (.int .u8 0) := by
          rw [hg4.cell, bVs_zeros, List.getElem?_replicate, if_pos hSn]
        have fg : W4.frozen? ⟨W3.heap.size, S, none⟩ = false := hg4.frozen S
        have m1 : W3.heap.size ≠ gt := by omega
        have m2 : W3.heap.size ≠ W.heap.size + 1 := by omega
        have m3 : W3.heap.size ≠ ga := by omega
        obtain ⟨g3, hg3⟩ : ∃ g3, g3 = W3.heap.size := ⟨_, rfl⟩
        rw [← hg3] at cD cg fg m1 m2 m3 hg4
        have HG3 := Lib.hid hg3
        have HG4 := Lib.hid hg4
        have HA4 := Lib.hid ha4
        have HE4 := Lib.hid e4
        have HT4 := Lib.hid ht4
        have i2 : (S : Int) < (n : Int) := by omega
        clear hg3 hg4 ha4 e4 ht4 hs4
        go_wp2_with fail
        go_region_held3 (fun x => x.cell? ⟨gt, 0, none⟩ = some (.slice (some ⟨ga, 0, none⟩) nr nr) ∧ x.cell? ⟨W.heap.size + 1, 1, none⟩ = some (.int .i64 (D : Int)) ∧ x.cell? ⟨W.heap.size + 1, 2, none⟩ = some (.int .i64 (S : Int)) ∧ x.cell? ⟨ga, D, none⟩ = some (.slice (some ⟨g3, 0, none⟩) n n)) (go_keep) (fail)
        have hs5 := (HS.out.of_block (w' := W4) ((HE4.out _ lt3 (by omega)).trans (e3 _))).far (p := ⟨g3, S, none⟩) (Ne.symm m2) (.int .u8 1)
        have ht5 := HT4.out.far (p := ⟨g3, S, none⟩) (Ne.symm m1) (.int .u8 1)
        have ha5 := HA4.out.far (p := ⟨g3, S, none⟩) (Ne.symm m3) (.int .u8 1)
        have hg5 := HG4.out.set S (.int .u8 1)
        have hs5' := hs5.drewN 1
        have ht5' := ht5.drewN 1
        have ha5' := ha5.drewN 1
        have hg5' := hg5.drewN 1
        obtain ⟨W5, hW5⟩ : ∃ W5, W5 = (W4.setCell ⟨g3, S, none⟩ (.int .u8 1)).drewN 1 := ⟨_, rfl⟩
        rw [← hW5] at hs5' ht5' ha5' hg5'
        have hW5' : (W4.setCell ⟨g3, S, none⟩ (.int .u8 1)).drew = W5 := hW5.symm
        have e5 : ∀ k, k < W3.heap.size → k ≠ ga → W5.heap[k]? = W3.heap[k]? := by
          intro k hk hne
          rw [hW5]
          exact (Below.heap_setCell W4 ⟨g3, S, none⟩ _ k (by have := HG3.out; simp; omega)).trans (HE4.out k hk hne)
        have o5 : W5.os = W3.os ∧ W5.tape = W3.tape ∧ W5.output = W3.output ∧ W3.heap.size ≤ W5.heap.size := by
          rw [hW5]
          exact ⟨o4.1, o4.2.1, o4.2.2, by have := sz4; simp [World.setCell]; omega⟩
        rw [hW5']
        clear hW5 hW5' hs5 ht5 ha5 hg5 cg fg cD k0 s0 s1 s2
        have k2 : W5.cell? ⟨gt, 2, none⟩ = some (.int .u64 (st.loads : Int)) := ht5'.cell 2
        have fk2 : W5.frozen? ⟨gt, 2, none⟩ = false := ht5'.frozen 2
        have s2 : W5.cell? ⟨W.heap.size + 1, 2, none⟩ = some (.int .i64 (S : Int)) := hs5'.cell 2
        have s0 : W5.cell? ⟨W.heap.size + 1, 0, none⟩ = some (.int .u8 2) := hs5'.cell 0
        have lS : (S : Int) < 64 := by omega
        go_wp2_with fail
        go_region
        have hv : vStep nr no reads n st 2 D S C = some { st with regs := st.regs.set D (some (unitR n S)), loads := st.loads ||| 1 <<< S } := by simp [vStep, hD, hSn, hb]
        rw [or_bit st.loads S (by omega) D3.out.hl]
        have ht6 := (ht5'.set 2 (.int .u64 ((st.loads ||| 1 <<< S : Nat) : Int))).drewN 1
        have hg6 := (hg5'.far (p := ⟨gt, 2, none⟩) m1 (.int .u64 ((st.loads ||| 1 <<< S : Nat) : Int))).drewN 1
        have ha6 := (ha5'.far (p := ⟨gt, 2, none⟩) ng (.int .u64 ((st.loads ||| 1 <<< S : Nat) : Int))).drewN 1
        have e6 : ∀ k, k < W3.heap.size → k ≠ ga → k ≠ gt → ((W5.setCell ⟨gt, 2, none⟩ (.int .u64 ((st.loads ||| 1 <<< S : Nat) : Int))).drewN 1).heap[k]? = W3.heap[k]? := fun k hk h1 h2 => (Below.heap_setCell W5 ⟨gt, 2, none⟩ _ k h2).trans (e5 k hk h1)
        have hso : W3.heap.size ≤ ((W5.setCell ⟨gt, 2, none⟩ (.int .u64 ((st.loads ||| 1 <<< S : Nat) : Int))).drewN 1).heap.size := by have := o5.2.2.2; simp [World.setCell]; omega
        have C6 := Lib.hid (show Chg3 W3.heap.size gt ga gz W3 ((W5.setCell ⟨gt, 2, none⟩ (.int .u64 ((st.loads ||| 1 <<< S : Nat) : Int))).drewN 1) from ⟨o5.1, o5.2.1, o5.2.2.1, hso, fun k hk a b _ => e6 k hk b a⟩)
        have hg7 : bVs (unitR n S) = (bVs (List.replicate n 0)).set S (.int .u8 1) := by unfold unitR; rw [← bVs_set]; rfl
        rw [← hg7] at hg6
        have D6 := Lib.hid (D3.out.load (W' := (W5.setCell ⟨gt, 2, none⟩ (.int .u64 ((st.loads ||| 1 <<< S : Nat) : Int))).drewN 1) (D := D) (ld := st.loads ||| 1 <<< S) (v := .slice (some ⟨W3.heap.size, 0, none⟩) n n)
          (fun k cells hk => e6 k (heap_lt hk) (by rintro rfl; exact absurd (row_type HRW.out hk) (by decide)) (by rintro rfl; exact absurd (row_type D3.out.ht hk) (by decide)))
          (fun lv hlv => by rw [row_inj hlv HRW.out]; exact ha6)
          (fun lz hlz => hlz.of_block (e6 gz hlz.lt D3.out.ne.2.2 D3.out.ne.2.1))
          ht6 (unitR_length n S) (by rw [← HG3.out]; exact ValO.of_row hg6 (unitR_length n S)) (or_lt _ _ D3.out.hl (by omega)))
        obtain ⟨W6, hW6⟩ : ∃ W6, W6 = (W5.setCell ⟨gt, 2, none⟩ (.int .u64 ((st.loads ||| 1 <<< S : Nat) : Int))).drewN 1 := ⟨_, rfl⟩
        rw [← hW6] at C6 D6
        have hW6' : (W5.setCell ⟨gt, 2, none⟩ (.int .u64 ((st.loads ||| 1 <<< S : Nat) : Int))).drew = W6 := hW6.symm
        have s6 : ((W5.setCell ⟨gt, 2, none⟩ (.int .u64 ((st.loads ||| 1 <<< S : Nat) : Int))).drewN 1).cell? ⟨W.heap.size + 1, 0, none⟩ = some (.int .u8 2) := ((hs5'.far (p := ⟨gt, 2, none⟩) (by simp; omega) (.int .u64 ((st.loads ||| 1 <<< S : Nat) : Int))).drewN 1).cell 0
        rw [← hW6] at s6
        rw [hW6']
        clear hW6 hW6' ht6 hg6 ha6 e6 hso hs5' ht5' ha5' hg5' e5 k2 fk2 s2 s0 p1 p2 p3
        go_wp2_with fail
        go_ret
        refine ⟨(Chg3.of_below q3).trans (Chg3.low3 C6.out q3.size), fun st' h => ?_, fun h => some_none hv h⟩
        rw [hv] at h
        injection h with h
        rw [← h]
        exact ⟨rfl, D6.out⟩
      · have hb' : reads.testBit S = false := by simpa using hb
        have hv : vStep nr no reads n st 2 D S C = none := by simp [vStep, hb']
        go_wp2_with (first | (refine (rhas_is reads S (by omega) hrd false hb' _).mono ?_; rintro e w' ⟨rfl, rfl⟩))
        go_ret
        exact ⟨Chg3.of_below q3, fun st' h => some_none h hv, fun _ => rfl⟩
    · have h2 : decide ((n : Int) ≤ (S : Int)) = true := decide_eq_true (by omega)
      have h2n : decide (n ≤ S) = true := decide_eq_true (by omega)
      have hv : vStep nr no reads n st 2 D S C = none := by simp [vStep, hSn]
      go_wp2_with fail
      go_ret
      exact ⟨Chg3.of_below q3, fun st' h => some_none h hv, fun _ => rfl⟩
  · have h1 : decide ((nr : Int) ≤ (D : Int)) = true := decide_eq_true (by omega)
    have h1n : decide (nr ≤ D) = true := decide_eq_true (by omega)
    have hv : vStep nr no reads n st 2 D S C = none := by simp [vStep, hD]
    go_wp2_with fail
    go_ret
    exact ⟨Chg3.of_below q3, fun st' h => some_none h hv, fun _ => rfl⟩
end Go.Proofs.Ythbjcafldbocpaa
