/- The walk of the document's Identity. -/
import Derived.Test.YtgcgajeagdaenaaRMatM
import Derived.Test.YtgcgajeagdaenaaIdW
namespace Go.Proofs.Ytgcgajeagdaenaa
open Go.RowKit
set_option linter.unusedVariables false
set_option linter.unusedSimpArgs false

set_option maxHeartbeats 800000 in
theorem refIdentity_no (n : Int) (w : World) (h : makeB n n = false) :
    Calls Try.prog 16 #[.int .i64 n] w fun e w' => e = .returned (.tuple #[mV 0 0 none 0 0, .int .i64 2]) ∧ Below w.heap.size w w' := by
  go_enter Try.func16, Try.ntmps16
  go_wp2_with (go_at_call 14; refine (refMake_no n n _ h).mono ?_; rintro e w1 ⟨rfl, hb⟩; obtain ⟨c0, c1, c2, f0, f1, f2⟩ := ((Row.new w [.int .i64 0, .int .i64 0, .slice none 0 0] 24).below hb (by simp)).three; have hs : w.heap.size < w1.heap.size := by have := hb.size; simp at this; omega)
  go_loop [6] (fun v6 => v6 = .int .i64 0) (fun _ => 0)
  case atStart => rfl
  case round =>
    subst hrel
    by_cases h0 : 0 < n
    · have d0 : decide ((0 : Int) < n) = true := by simpa using h0
      go_wp2_with fail
      exact bodyPost_ret (v := .tuple #[mV 0 0 none 0 0, .int .i64 2]) (by simp [results, Try.results16, go_sem, c0, c1, c2, hs]) rfl ⟨rfl, (below_set3 (((Below.refl w.heap.size w).alloc (Nat.le_refl _) _).trans (hb.mono (by simp))) (Nat.le_refl _) _ _ _).alloc (by simp; omega) _⟩
    · have d0 : decide ((0 : Int) < n) = false := by simpa using h0
      go_wp2_with fail
      exact bodyPost_ret (v := .tuple #[mV 0 0 none 0 0, .int .i64 2]) (by simp [results, Try.results16, go_sem, c0, c1, c2, hs]) rfl ⟨rfl, (below_set3 (((Below.refl w.heap.size w).alloc (Nat.le_refl _) _).trans (hb.mono (by simp))) (Nat.le_refl _) _ _ _).alloc (by simp; omega) _⟩
set_option maxRecDepth 100000 in
set_option maxHeartbeats 1600000 in
theorem refIdentity_yes (n p : Nat) (w : World) (hn : n ≤ 64) (hp : Hid (p = n * n)) :
    Calls Try.prog 16 #[.int .i64 (n : Int)] w fun e w' => ∃ A, e = .returned (.tuple #[mV n n A p p, .int .i64 0]) ∧ OwnB w' w.heap.size A p p (idTo n n) ∧ Below w.heap.size w w' := by
  have hpb : p ≤ 4096 := by rw [hp.out]; exact Nat.le_trans (Nat.mul_le_mul hn hn) (by omega)
  go_enter Try.func16, Try.ntmps16
  go_wp2_with (go_at_call 14; refine (refMake_yes n n p _ hn hn hp).mono ?_; rintro e w1 ⟨A, rfl, ho, hb⟩; have B0 := (Row.new w [.int .i64 0, .int .i64 0, .slice none 0 0] 24).below hb (by simp); have hs : w.heap.size < w1.heap.size := by have := hb.size; simp at this; omega)
  have HA := Lib.hid (show ∀ g, A = some ⟨g, 0, none⟩ → w.heap.size < g ∧ g < w1.heap.size by
    intro g h
    subst h
    have := ho.row g rfl
    simp at this
    omega)
  have HO := Lib.hid (show OwnB (w1.alloc (Obj.cells #[Value.int IntKind.i64 (n : Int), Value.int IntKind.i64 (n : Int), Value.slice A p p] 24)) w.heap.size A p p (idTo n 0) by
    have h := ho.below ((Below.refl _ _).alloc (Nat.le_refl _) (Obj.cells #[Value.int IntKind.i64 (n : Int), Value.int IntKind.i64 (n : Int), Value.slice A p p] 24)) (Nat.le_refl _)
    simp only [idTo]
    rw [← hp.out]
    exact h.mono (by simp))
  have HB := Lib.hid (show Below w.heap.size w (w1.alloc (Obj.cells #[Value.int IntKind.i64 (n : Int), Value.int IntKind.i64 (n : Int), Value.slice A p p] 24)) from (((Below.refl _ _).alloc (Nat.le_refl _) _).trans (hb.mono (by simp))).alloc (by omega) _)
  have HB0 := Lib.hid (B0.alloc (Obj.cells #[Value.int IntKind.i64 (n : Int), Value.int IntKind.i64 (n : Int), Value.slice A p p] 24))
  have HB1 := Lib.hid (Row.new w1 [.int .i64 n, .int .i64 n, .slice A p p] 24)
  clear ho hb B0
  go_loopw [6] (fun v6 wr => ∃ i : Nat, i ≤ n ∧ v6 = .int .i64 (i : Int) ∧ OwnB wr w.heap.size A p p (idTo n i) ∧ Below w.heap.size w wr ∧ Row wr w.heap.size 24 [.int .i64 0, .int .i64 0, .slice none 0 0] ∧ Row wr w1.heap.size 24 [.int .i64 n, .int .i64 n, .slice A p p]) (fun v6 _ => n - (intOf v6).toNat)
  case atStart => exact ⟨0, by omega, rfl, HO.out, HB.out, HB0.out, HB1.out⟩
  case round =>
    obtain ⟨i, hi, rfl, ho, hb, b0, b1⟩ := hrel
    clear HO HB HB0 HB1
    by_cases hlt : i < n
    · have hd := diag_lt hlt
      obtain ⟨k, hk⟩ : ∃ k, k = i * n := ⟨_, rfl⟩
      have hki : k + i < p := by rw [hk, hp.out]; exact hd
      have HID := Lib.hid (show (idTo n i).set (k + i) 1 = idTo n (i + 1) by rw [hk]; rfl)
      obtain ⟨g, rfl, hg1, hg2, hcell, hfz⟩ := ho.at_ hki
      have hg3 := HA.out g rfl
      obtain ⟨c0, c1, c2, f0, f1, f2⟩ := b1.three
      have HO := Lib.hid ho
      have HB := Lib.hid hb
      have e1 : IntKind.i64.wrap ((i : Int) * (n : Int)) = (k : Int) := by rw [← Int.natCast_mul, ← hk, IntKind.wrap_i64]; omega
      clear hk hd ho hb
      go_wp2_with fail
      go_roundw
      case rel =>
        refine ⟨i + 1, by omega, by go_num, ?_, ?_, ?_, ?_⟩
        · have h := HO.out.store (k + i) 1
          rw [HID.out] at h
          exact h
        · exact HB.out.setCell (by simp; omega) _
        · exact b0.far (by simp; omega) _
        · exact b1.far (by simp; omega) _
      case measure => simp [intOf]; omega
    · obtain rfl : i = n := by omega
      obtain ⟨c0, c1, c2, f0, f1, f2⟩ := b0.three
      obtain ⟨d0, d1, d2, _, _, _⟩ := b1.three
      go_wp2_with fail
      refine bodyPost_ret (v := .tuple #[mV i i A p p, .int .i64 0]) (by simp [results, Try.results16, go_sem, c0, c1, c2]) rfl ⟨_, rfl, ?_, below_set3 hb (Nat.le_refl _) _ _ _⟩
      refine OwnB.keep ho fun g hg => ?_
      have := HA.out g hg
      rw [Below.heap_setCell _ _ _ _ (by simp; omega), Below.heap_setCell _ _ _ _ (by simp; omega), Below.heap_setCell _ _ _ _ (by simp; omega)]
end Go.Proofs.Ytgcgajeagdaenaa
