/- The walk of Dot. -/
import Derived.Test.YtgcgajeagdaenaaTMul
import Derived.Test.YtgcgajeagdaenaaFillM
namespace Go.Proofs.Ytgcgajeagdaenaa
open Go.RowKit
set_option linter.unusedVariables false
set_option linter.unusedSimpArgs false

set_option maxHeartbeats 400000 in
theorem dot_no (a : Option Addr) (n ac : Nat) (b : Option Addr) (m bc : Nat) (w : World) (h : n ≠ m) :
    Calls Try.prog 51 #[.slice a n ac, .slice b m bc] w fun e w' => e = .returned (.tuple #[.int .u8 0, .int .i64 3]) ∧ w = w' := by
  have hq : ((n : Int) != (m : Int)) = true := by rw [bne_iff_ne]; omega
  go_enter Try.func51, Try.ntmps51
  go_wp2_with fail
  go_ret2
  exact ⟨rfl, rfl⟩

set_option maxRecDepth 100000 in
set_option maxHeartbeats 800000 in
theorem dot_calls (a : Option Addr) (n ac : Nat) (b : Option Addr) (bc : Nat) (xs ys : List UInt8) (w : World) (ha : Rd w w.heap.size a n (bVs xs)) (hb : Rd w w.heap.size b n (bVs ys)) (hn : n ≤ 140737488355328) :
    Calls Try.prog 51 #[.slice a n ac, .slice b n bc] w fun e w' => e = .returned (.tuple #[.int .u8 ((Gf.dot xs ys).toNat : Int), .int .i64 0]) ∧ Below w.heap.size w w' := by
  have hq : ((n : Int) != (n : Int)) = false := by rw [bne_eq_false_iff_eq]
  have HL := Lib.hid (show xs.length = n by have := ha.len; rw [bVs_length] at this; exact this)
  obtain ⟨Z, hzv, HZ0, HSZ⟩ := zero_tables'
  go_enter Try.func51, Try.ntmps51
  go_wp2_with (first | (go_at_call 55; refine (build_calls _).mono ?_; rintro e w1 ⟨T, hT, rfl, hb1⟩) | (refine wpList_store_tab (.tmp 6) (.tmp 15) rfl rfl T Z hT HZ0 HSZ rfl rfl ?_; intro w2 hs2 hg2 hb2))
  have HT := Lib.hid (HasTab.mk hT hg2)
  have HB := Lib.hid (hb1.trans (hb2.mono hb1.size))
  have hsz := hb1.size
  clear hT hg2 hb2 HZ0 HSZ hzv hs2
  go_loopw [7, 18] (fun v7 v18 wr => ∃ i : Nat, i ≤ n ∧ v18 = .int .i64 (i : Int) ∧ v7 = .int .u8 ((Gf.dotTo xs ys i).toNat : Int) ∧ HasTab wr w1.heap.size ∧ Below w.heap.size w wr) (fun _ v18 _ => n - (intOf v18).toNat)
  case atStart => exact ⟨0, by omega, rfl, rfl, HT.out, HB.out⟩
  case round =>
    obtain ⟨i, hi, rfl, rfl, ht, hbw⟩ := hrel
    clear HT HB
    by_cases hlt : i < n
    · obtain ⟨g, o, rfl, hg, hcell⟩ := rd_get (ha.below hbw (Nat.le_refl _)) hlt
      obtain ⟨g1, o1, rfl, hg1, hcell1⟩ := rd_get (hb.below hbw (Nat.le_refl _)) hlt
      have hx := bxor_u8 (Gf.dotTo xs ys i) (Gf.mul (xs.getD i 0) (ys.getD i 0))
      have HD := Lib.hid (show Gf.dotTo xs ys (i + 1) = Gf.add (Gf.dotTo xs ys i) (Gf.mul (xs.getD i 0) (ys.getD i 0)) from rfl)
      generalize xs.getD i 0 = x at *
      generalize ys.getD i 0 = y at *
      generalize Gf.dotTo xs ys i = s at *
      have HB := Lib.hid hbw
      have HA := Lib.hid ha
      have HBB := Lib.hid hb
      clear hbw ha hb
      go_wp2_with (go_at_call 56; refine (tmul_calls _ _ _ _ ht).mono ?_; rintro e w' ⟨rfl, nd, rfl⟩)
      go_roundw
      case rel => exact ⟨i + 1, by omega, by go_num, by rw [HD.out], ht.drewN nd, below_drewN HB.out nd⟩
      case measure => simp [intOf]; omega
    · obtain rfl : i = n := by omega
      go_wp2_with fail
      go_ret2
      exact ⟨by rw [Gf.dot, HL.out]; rfl, hbw⟩

end Go.Proofs.Ytgcgajeagdaenaa
