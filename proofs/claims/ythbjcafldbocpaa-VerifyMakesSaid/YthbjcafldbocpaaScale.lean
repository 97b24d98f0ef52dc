/- The walk of Scale. -/
import Derived.Test.YthbjcafldbocpaaTMul
import Derived.Test.YthbjcafldbocpaaFillM
namespace Go.Proofs.Ythbjcafldbocpaa
open Go.RowKit
set_option linter.unusedVariables false
set_option linter.unusedSimpArgs false

set_option maxRecDepth 100000 in
set_option maxHeartbeats 800000 in
theorem scale_calls (c : UInt8) (A : Option Addr) (n cap : Nat) (xs : List UInt8) (w : World) (hr : Rd w w.heap.size A n (bVs xs)) (hn : n ≤ 140737488355328) :
    Calls Try.prog 77 #[.int .u8 (c.toNat : Int), .slice A n cap] w fun e w' => ∃ A' cap', e = .returned (.slice A' n cap') ∧ OwnB w' w.heap.size A' n cap' (xs.map (Gf.mul c)) ∧ Below w.heap.size w w' := by
  obtain ⟨Z, hzv, HZ0, HSZ⟩ := zero_tables'
  have hmk := make_bytes n (by omega)
  go_enter Try.func77, Try.ntmps77
  go_wp2_with (first | (go_at_call 70; refine (build_calls _).mono ?_; rintro e w1 ⟨T, hT, rfl, hb1⟩) | (refine wpList_store_tab (.tmp 5) (.tmp 9) rfl rfl T Z hT HZ0 HSZ rfl rfl ?_; intro w2 hs2 hg2 hb2))
  have hrow := row_made_bytes w2 n
  rw [hs2] at hrow
  have hbW : Below w.heap.size w (w2.alloc (.cells (madeCells #[.int .u8 0] n) 5)) := (hb1.trans (hb2.mono hb1.size)).alloc (by have := hb1.size; omega) _
  have ht := (HasTab.mk hT hg2).of_block (w' := w2.alloc (.cells (madeCells #[.int .u8 0] n) 5)) (Below.heap_alloc w2 _ _ (by omega))
  have hsz := hb1.size
  rw [← fill_zero (fun j => Gf.mul c (xs.getD j 0)) n] at hrow
  have HF := Lib.hid (fill_all (fun j => Gf.mul c (xs.getD j 0)) n)
  have HR := Lib.hid (range_map_get xs (Gf.mul c))
  have HL := Lib.hid (show xs.length = n by have := hr.len; rw [bVs_length] at this; exact this)
  have HT := Lib.hid ht
  have HW := Lib.hid hrow
  have HB := Lib.hid hbW
  clear hrow ht hbW hg2 hmk hzv hT HSZ HZ0 hs2 hb2
  go_loopw [15] (fun v15 wr => ∃ i : Nat, i ≤ n ∧ v15 = .int .i64 (i : Int) ∧ Row wr (w1.heap.size + 1) 5 (bVs (fillTo (fun j => Gf.mul c (xs.getD j 0)) n i)) ∧ HasTab wr w1.heap.size ∧ Below w.heap.size w wr) (fun v15 _ => n - (intOf v15).toNat)
  case atStart => exact ⟨0, by omega, rfl, HW.out, HT.out, HB.out⟩
  case round =>
    obtain ⟨i, hi, rfl, hrow, ht, hb⟩ := hrel
    clear HT HW HB
    by_cases hlt : i < n
    · obtain ⟨g, o, rfl, hg, hcell⟩ := rd_get (hr.below hb (Nat.le_refl _)) hlt
      obtain ⟨old, hst⟩ := hrow.has (i := i) (by rw [bVs_length, fill_len _ hi]; exact hlt)
      have hfz := hrow.frozen i
      have HST := Lib.hid hrow
      have HR2 := Lib.hid hr
      have HB := Lib.hid hb
      obtain ⟨x, hx⟩ : ∃ x, x = xs.getD i 0 := ⟨_, rfl⟩
      rw [← hx] at hcell
      have HX := Lib.hid hx
      clear hx hr hrow hb
      go_wp2_with (go_at_call 71; refine (tmul_calls _ _ _ _ ht).mono ?_; rintro e w' ⟨rfl, nd, rfl⟩)
      go_roundw
      case rel =>
        refine ⟨i + 1, by omega, by go_num, ?_, ?_, ?_⟩
        · have h := (HST.out.drewN nd).set i (.int .u8 ((Gf.mul c (xs.getD i 0)).toNat : Int))
          rw [bVs_set] at h
          have e := fill_set (fun j => Gf.mul c (xs.getD j 0)) hlt
          rw [e, ← HX.out] at h
          exact h
        · exact (ht.drewN nd).of_block (Below.heap_setCell _ _ _ _ (by simp))
        · exact (below_drewN HB.out nd).setCell (by simp; omega) _
      case measure => simp [intOf]; omega
    · obtain rfl : i = n := by omega
      rw [HF.out] at hrow
      rw [show (List.range i).map (fun j => Gf.mul c (xs.getD j 0)) = xs.map (Gf.mul c) by rw [← HR.out, HL.out]] at hrow
      go_wp2_with fail
      go_ret
      exact ⟨_, _, rfl, hrow.ownB (by omega) (by rw [List.length_map, HL.out]) (by simp only [maxLen]; omega), hb⟩

end Go.Proofs.Ythbjcafldbocpaa
