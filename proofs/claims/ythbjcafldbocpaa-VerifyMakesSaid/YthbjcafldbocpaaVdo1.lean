/- The walk of the document's step: a step that clears. -/
import Derived.Test.YthbjcafldbocpaaVdoc
import Derived.Test.YthbjcafldbocpaaVstepu
namespace Go.Proofs.Ythbjcafldbocpaa
open Go.RowKit
set_option linter.unusedVariables false
set_option linter.unusedSimpArgs false
set_option maxHeartbeats 4000000 in
set_option maxRecDepth 100000 in
theorem do_clear (gt ga gz nr no n reads nS cS : Nat) (AS : Option Addr) (D S : Nat) (C : UInt8) (st : VS) (W : World) (h : DW W gt ga gz nr no n st) (hn : n ≤ 64) (hnr : nr ≤ 256) :
    Calls Try.prog 51 #[.pointer (some ⟨gt, 0, none⟩), .agg #[.slice AS nS cS, .int .i64 (nr : Int), .int .i64 (no : Int), .int .u64 (reads : Int)], .agg #[.int .u8 1, .int .i64 (D : Int), .int .i64 (S : Int), .int .u8 (C.toNat : Int)], .int .i64 (n : Int)] W fun e W' =>
      Chg3 W.heap.size gt ga gz W W' ∧ (∀ st', vStep nr no reads n st 1 D S C = some st' → e = .returned (.bool true) ∧ DW W' gt ga gz nr no n st') ∧ (vStep nr no reads n st 1 D S C = none → e = .returned (.bool false)) := by
  have i0 : (0 : Int) ≤ (D : Int) := by omega
  have j0 : (0 : Int) ≤ (S : Int) := by omega
  go_enter Try.func51, Try.ntmps51
  go_wp2_with fail
  obtain ⟨W1, hW1⟩ : ∃ W1, W1 = (W.alloc (.cells #[.slice AS nS cS, .int .i64 (nr : Int), .int .i64 (no : Int), .int .u64 (reads : Int)] 26)).alloc (.cells #[.int .u8 1, .int .i64 (D : Int), .int .i64 (S : Int), .int .u8 (C.toNat : Int)] 59) := ⟨_, rfl⟩
  have q : Below W.heap.size W W1 := by rw [hW1]; exact ((Below.refl _ _).alloc (Nat.le_refl _) _).alloc (by simp) _
  have hp : Row W1 W.heap.size 26 [.slice AS nS cS, .int .i64 (nr : Int), .int .i64 (no : Int), .int .u64 (reads : Int)] := by rw [hW1]; exact (Row.new W _ _).alloc _
  have hs : Row W1 (W.heap.size + 1) 59 [.int .u8 1, .int .i64 (D : Int), .int .i64 (S : Int), .int .u8 (C.toNat : Int)] := by
    rw [hW1]
    have := Row.new (W.alloc (.cells #[.slice AS nS cS, .int .i64 (nr : Int), .int .i64 (no : Int), .int .u64 (reads : Int)] 26)) [.int .u8 1, .int .i64 (D : Int), .int .i64 (S : Int), .int .u8 (C.toNat : Int)] 59
    simpa using this
  have h1 := h.below q
  have ltt := h.ht.lt
  have lta : ga < W.heap.size := by obtain ⟨lv, hr, _⟩ := h.la; exact hr.lt
  have ltz : gz < W.heap.size := by obtain ⟨lv, hr, _⟩ := h.lz; exact hr.lt
  rw [← hW1]
  clear hW1 h
  obtain ⟨lv, hra, hva⟩ := h1.la
  obtain ⟨lz, hrz, hvz⟩ := h1.lz
  have k0 : W1.cell? ⟨gt, 0, none⟩ = some (.slice (some ⟨ga, 0, none⟩) nr nr) := h1.ht.cell 0
  have s0 : W1.cell? ⟨W.heap.size + 1, 0, none⟩ = some (.int .u8 1) := hs.cell 0
  have s1 : W1.cell? ⟨W.heap.size + 1, 1, none⟩ = some (.int .i64 (D : Int)) := hs.cell 1
  have s2 : W1.cell? ⟨W.heap.size + 1, 2, none⟩ = some (.int .i64 (S : Int)) := hs.cell 2
  have e1 : ∀ k : Nat, W1.heap[k]? = W1.heap[k]? := fun _ => rfl
  obtain ⟨bD, hbD⟩ : ∃ b, (st.regs.getD D none).isSome = b := ⟨_, rfl⟩
  obtain ⟨bS, hbS⟩ : ∃ b, (st.regs.getD S none).isSome = b := ⟨_, rfl⟩
  have HID := Lib.hid (fun (X : World) (e : ∀ k : Nat, X.heap[k]? = W1.heap[k]?) => inside_is X ga nr D lv st.regs ((e ga).trans hra) (hva.keep (fun g _ _ => e g)) h1.ok.lr _ hbD)
  have HIS := Lib.hid (fun (X : World) (e : ∀ k : Nat, X.heap[k]? = W1.heap[k]?) => inside_is X ga nr S lv st.regs ((e ga).trans hra) (hva.keep (fun g _ _ => e g)) h1.ok.lr _ hbS)
  have HBD := Lib.hid hbD
  have HBS := Lib.hid hbS
  clear hbD hbS
  have H1 := Lib.hid h1
  have HS := Lib.hid hs
  have HP := Lib.hid hp
  have HQ := Lib.hid q
  have HRA := Lib.hid hra
  have HVA := Lib.hid hva
  have HRZ := Lib.hid hrz
  have HVZ := Lib.hid hvz
  clear h1 hs hp q hra hva hrz hvz
  go_quiet (exact Calls.quiet_of_same (HID.out _ (fun _ => rfl)))
  obtain ⟨W2, hW2⟩ : ∃ W2, W2 = W1.drewN nq := ⟨_, rfl⟩
  have e2 : ∀ k : Nat, W2.heap[k]? = W1.heap[k]? := by rw [hW2]; exact e1
  rw [← hW2]
  have k0 : W2.cell? ⟨gt, 0, none⟩ = some (.slice (some ⟨ga, 0, none⟩) nr nr) := by rw [hW2]; exact k0
  have s0 : W2.cell? ⟨W.heap.size + 1, 0, none⟩ = some (.int .u8 1) := by rw [hW2]; exact s0
  have s1 : W2.cell? ⟨W.heap.size + 1, 1, none⟩ = some (.int .i64 (D : Int)) := by rw [hW2]; exact s1
  have s2 : W2.cell? ⟨W.heap.size + 1, 2, none⟩ = some (.int .i64 (S : Int)) := by rw [hW2]; exact s2
  have HW2 := Lib.hid hW2
  clear hW2
  go_wp2_with fail
  go_quiet (exact Calls.quiet_of_same (HIS.out _ e2))
  obtain ⟨W3, hW3⟩ : ∃ W3, W3 = W2.drewN nq := ⟨_, rfl⟩
  have e3 : ∀ k : Nat, W3.heap[k]? = W1.heap[k]? := by rw [hW3]; exact e2
  rw [← hW3]
  have k0 : W3.cell? ⟨gt, 0, none⟩ = some (.slice (some ⟨ga, 0, none⟩) nr nr) := by rw [hW3]; exact k0
  have s0 : W3.cell? ⟨W.heap.size + 1, 0, none⟩ = some (.int .u8 1) := by rw [hW3]; exact s0
  have s1 : W3.cell? ⟨W.heap.size + 1, 1, none⟩ = some (.int .i64 (D : Int)) := by rw [hW3]; exact s1
  have s2 : W3.cell? ⟨W.heap.size + 1, 2, none⟩ = some (.int .i64 (S : Int)) := by rw [hW3]; exact s2
  have p1 : W3.cell? ⟨W.heap.size, 1, none⟩ = some (.int .i64 (nr : Int)) := (HP.out.of_block (w' := W3) (e3 _)).cell 1
  have p2 : W3.cell? ⟨W.heap.size, 2, none⟩ = some (.int .i64 (no : Int)) := (HP.out.of_block (w' := W3) (e3 _)).cell 2
  have p3 : W3.cell? ⟨W.heap.size, 3, none⟩ = some (.int .u64 (reads : Int)) := (HP.out.of_block (w' := W3) (e3 _)).cell 3
  have q3 : Below W.heap.size W W3 := by rw [hW3, HW2.out]; exact below_drewN (below_drewN HQ.out _) _
  have HW3 := Lib.hid hW3
  clear hW3
  have D3 := Lib.hid (H1.out.below (W' := W3) (show Below W1.heap.size W1 W3 by rw [HW3.out, HW2.out]; exact below_drewN (below_drewN (Below.refl _ _) _) _))
  by_cases hD : D < nr
  · have h1 : decide ((nr : Int) ≤ (D : Int)) = false := decide_eq_false (by omega)
    have i1 : (D : Int) < (nr : Int) := by omega
    have hmk := make_bytes n (by omega)
    obtain ⟨lw, hrw, hvw⟩ := D3.out.la
    have c1 : ∃ u, W3.cell? ⟨ga, D, none⟩ = some u := hrw.has (by rw [hvw.1, D3.out.ok.lr]; exact hD)
    obtain ⟨u, c1⟩ := c1
    have f1 : W3.frozen? ⟨ga, D, none⟩ = false := hrw.frozen D
    have ng : ga ≠ gt := D3.out.ne.1
    have c2 : (W3.alloc (.cells (madeCells #[.int .u8 0] n) 5)).cell? ⟨ga, D, none⟩ = some u := ((hrw.alloc _).cell D).trans ((hrw.cell D).symm.trans c1)
    have f2 : (W3.alloc (.cells (madeCells #[.int .u8 0] n) 5)).frozen? ⟨ga, D, none⟩ = false := (hrw.alloc _).frozen D
    have HRW := Lib.hid hrw
    have HVW := Lib.hid hvw
    clear hrw hvw
    have nb : ga ≠ W.heap.size + 1 := by omega
    have lt3 : W.heap.size + 1 < W3.heap.size := (HS.out.of_block (w' := W3) (e3 _)).lt
    go_wp2_with fail
    go_region_held3 (fun x => x.cell? ⟨gt, 0, none⟩ = some (.slice (some ⟨ga, 0, none⟩) nr nr) ∧ x.cell? ⟨W.heap.size + 1, 1, none⟩ = some (.int .i64 (D : Int))) (go_keep) (fail)
    have hv : vStep nr no reads n st 1 D S C = some { st with regs := st.regs.set D (some (List.replicate n 0)) } := by simp [vStep, hD]
    obtain ⟨d4, c4⟩ := D3.out.put (W' := W3.alloc (.cells (madeCells #[.int .u8 0] n) 5)) ((Below.refl _ _).alloc (Nat.le_refl _) _) D (l := List.replicate n 0) (by simp) (ValO.of_row (l := List.replicate n 0) (n := n) (row_made_bytes W3 n) List.length_replicate)
    have D4 := Lib.hid (d4.drewN 1)
    have C4 := Lib.hid (c4.drewN 1)
    clear d4 c4 hmk c1 c2 f1 f2
    go_wp2_with fail
    go_ret
    refine ⟨(Chg3.of_below q3).trans (Chg3.low3 C4.out q3.size), fun st' h => ?_, fun h => some_none hv h⟩
    rw [hv] at h
    injection h with h
    rw [← h]
    exact ⟨rfl, D4.out⟩
  · have h1 : decide ((nr : Int) ≤ (D : Int)) = true := decide_eq_true (by omega)
    have hv : vStep nr no reads n st 1 D S C = none := by simp [vStep, hD]
    go_wp2_with fail
    go_ret
    exact ⟨Chg3.of_below q3, fun st' h => some_none h hv, fun _ => rfl⟩
end Go.Proofs.Ythbjcafldbocpaa
