/- The walk of Identity. -/
import Derived.Test.YtgcgajeagdaenaaMatM
import Derived.Test.YtgcgajeagdaenaaMatRow
import Derived.Test.YtgcgajeagdaenaaIdW
namespace Go.Proofs.Ytgcgajeagdaenaa
open Go.RowKit
set_option linter.unusedVariables false
set_option linter.unusedSimpArgs false

set_option maxHeartbeats 800000 in
theorem identity_no (n : Int) (w : World) (h : makeB n n = false) :
    Calls Try.prog 15 #[.int .i64 n] w fun e w' => e = .returned (.tuple #[mV 0 0 none 0 0, .int .i64 2]) ∧ Below w.heap.size w w' := by
  go_enter Try.func15, Try.ntmps15
  go_wp2_with (go_at_call 13; refine (make_no n n _ h).mono ?_; rintro e w1 ⟨rfl, hb⟩; obtain ⟨c0, c1, c2, f0, f1, f2⟩ := ((Row.new w [.int .i64 0, .int .i64 0, .slice none 0 0] 24).below hb (by simp)).three; have hs : w.heap.size < w1.heap.size := by have := hb.size; simp at this; omega)
  exact bodyPost_ret (v := .tuple #[mV 0 0 none 0 0, .int .i64 2]) (by simp [results, Try.results15, go_sem, c0, c1, c2, hs]) rfl ⟨rfl, (below_set3 (((Below.refl w.heap.size w).alloc (Nat.le_refl _) _).trans (hb.mono (by simp))) (Nat.le_refl _) _ _ _).alloc (by simp; omega) _⟩
set_option maxRecDepth 100000 in
set_option maxHeartbeats 1600000 in
theorem identity_yes (n p : Nat) (w : World) (hn : n ≤ 64) (hp : Hid (p = n * n)) :
    Calls Try.prog 15 #[.int .i64 (n : Int)] w fun e w' => ∃ A, e = .returned (.tuple #[mV n n A p p, .int .i64 0]) ∧ OwnB w' w.heap.size A p p (idTo n n) ∧ Below w.heap.size w w' := by
  have hpb : p ≤ 4096 := by rw [hp.out]; exact Nat.le_trans (Nat.mul_le_mul hn hn) (by omega)
  go_enter Try.func15, Try.ntmps15
  go_wp2_with (go_at_call 13; refine (make_yes n n p _ hn hn hp).mono ?_; rintro e w1 ⟨A, rfl, ho, hb⟩; have B0 := (Row.new w [.int .i64 0, .int .i64 0, .slice none 0 0] 24).below hb (by simp); have hs : w.heap.size < w1.heap.size := by have := hb.size; simp at this; omega)
  have HA := Lib.hid (show ∀ g, A = some ⟨g, 0, none⟩ → w.heap.size < g ∧ g < w1.heap.size by
    intro g h
    subst h
    have := ho.row g rfl
    simp at this
    omega)
  have HO := Lib.hid (show OwnB (w1.alloc (Obj.cells #[Value.int IntKind.i64 (n : Int), Value.int IntKind.i64 (n : Int), Value.slice A p p] 24)) w.heap.size A p p (idTo n 0) by
    have h := ho.below ((Below.refl _ _).alloc (Nat.le_refl _) (Obj.cells #[Value.int IntKind.i64 (n : Int), Value.int IntKind.i64 (n : Int), Value.slice A p p] 24)) (Nat.le_refl _)
    simp only [idTo]
    rw [← hp.out]
    exact h.mono (by simp))
  have HB := Lib.hid (show Below w.heap.size w (w1.alloc (Obj.cells #[Value.int IntKind.i64 (n : Int), Value.int IntKind.i64 (n : Int), Value.slice A p p] 24)) from (((Below.refl _ _).alloc (Nat.le_refl _) _).trans (hb.mono (by simp))).alloc (by omega) _)
  have HB0 := Lib.hid (B0.alloc (Obj.cells #[Value.int IntKind.i64 (n : Int), Value.int IntKind.i64 (n : Int), Value.slice A p p] 24))
  have HB1 := Lib.hid (Row.new w1 [.int .i64 n, .int .i64 n, .slice A p p] 24)
  clear ho hb B0
  go_loopw [18] (fun v18 wr => ∃ i : Nat, i ≤ n ∧ v18 = .int .i64 (i : Int) ∧ OwnB wr w.heap.size A p p (idTo n i) ∧ Below w.heap.size w wr ∧ Row wr w.heap.size 24 [.int .i64 0, .int .i64 0, .slice none 0 0] ∧ Row wr w1.heap.size 24 [.int .i64 n, .int .i64 n, .slice A p p]) (fun v18 _ => n - (intOf v18).toNat)
  case atStart => exact ⟨0, by omega, rfl, HO.out, HB.out, HB0.out, HB1.out⟩
  case round =>
    obtain ⟨i, hi, rfl, ho, hb, b0, b1⟩ := hrel
    clear HO HB HB0 HB1
    by_cases hlt : i < n
    · have hd := diag_lt hlt
      obtain ⟨k, hk⟩ : ∃ k, k = i * n := ⟨_, rfl⟩
      obtain ⟨k1, hk1⟩ : ∃ k1, k1 = (i + 1) * n := ⟨_, rfl⟩
      have hkn : k1 ≤ p := by rw [hk1, hp.out]; exact Nat.mul_le_mul_right n hlt
      have hki : k + i < p := by rw [hk, hp.out]; exact hd
      have HID := Lib.hid (show (idTo n i).set (k + i) 1 = idTo n (i + 1) by rw [hk]; rfl)
      have HK := Lib.hid hk
      have HK1 := Lib.hid hk1
      obtain ⟨g, rfl, hg1, hg2, hcell, hfz⟩ := ho.at_ hki
      have hg3 := HA.out g rfl
      have hro : rowA (some ⟨g, 0, none⟩) n k = some ⟨g, k, none⟩ := by rw [rowA_plain (by omega), Nat.zero_add]
      obtain ⟨c0, c1, c2, f0, f1, f2⟩ := b1.three
      have HO := Lib.hid ho
      have HB := Lib.hid hb
      have HR := Lib.hid (fun w => row_calls n n i (some ⟨g, 0, none⟩) p p k k1 w hn hn hlt HK HK1 hkn (Nat.le_refl _))
      rw [hro] at HR
      clear hk hk1 hd ho hb hro hcell hfz
      go_wp2_with (go_at_call 46; refine (HR.out _).mono ?_; rintro e w2 ⟨rfl, hb2⟩; have o2 := HO.out.below hb2 (Nat.le_refl _); obtain ⟨g', e', _, hlt2, hcell, hfz⟩ := o2.at_ hki; cases e')
      go_roundw
      case rel =>
        refine ⟨i + 1, by omega, by go_num, ?_, ?_, ?_, ?_⟩
        · have h := o2.store (k + i) 1
          rw [HID.out] at h
          exact h
        · exact (HB.out.trans (hb2.mono HB.out.size)).setCell (by simp; omega) _
        · exact (b0.below hb2 b0.lt).far (by simp; omega) _
        · exact (b1.below hb2 b1.lt).far (by simp; omega) _
      case measure => simp [intOf]; omega
    · obtain rfl : i = n := by omega
      obtain ⟨c0, c1, c2, f0, f1, f2⟩ := b0.three
      obtain ⟨d0, d1, d2, _, _, _⟩ := b1.three
      go_wp2_with fail
      refine bodyPost_ret (v := .tuple #[mV i i A p p, .int .i64 0]) (by simp [results, Try.results15, go_sem, c0, c1, c2]) rfl ⟨_, rfl, ?_, below_set3 hb (Nat.le_refl _) _ _ _⟩
      refine OwnB.keep ho fun g hg => ?_
      have := HA.out g hg
      rw [Below.heap_setCell _ _ _ _ (by simp; omega), Below.heap_setCell _ _ _ _ (by simp; omega), Below.heap_setCell _ _ _ _ (by simp; omega)]
end Go.Proofs.Ytgcgajeagdaenaa
