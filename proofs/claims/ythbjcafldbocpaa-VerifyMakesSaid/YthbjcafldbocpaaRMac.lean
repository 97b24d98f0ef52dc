/- Walks of the document's lists: Scale, Mac, Dot. -/
import Derived.Test.YthbjcafldbocpaaRefMul
import Derived.Test.YthbjcafldbocpaaFillM
import Derived.Test.YthbjcafldbocpaaApp
import Derived.Deep.RegionHeld3
import Derived.Deep.QuietTactic
import Derived.BigQuiet
namespace Go.Proofs.Ythbjcafldbocpaa
open Go.RowKit
set_option linter.unusedVariables false
set_option linter.unusedSimpArgs false


theorem zip_snoc (ds ss : List UInt8) (c : UInt8) {i : Nat} (h : i < ss.length) (he : ds.length = ss.length) :
    (Gf.macL ds c ss).take i ++ [Gf.add (ds.getD i 0) (Gf.mul c (ss.getD i 0))] = (Gf.macL ds c ss).take (i + 1) := by
  have hl : i < (Gf.macL ds c ss).length := by simp [Gf.macL]; omega
  rw [List.take_succ_eq_append_getElem hl]
  congr 2
  have hd : i < ds.length := by omega
  simp [Gf.macL, List.getD, h, hd]
theorem rmacL_len {ds ss : List UInt8} (c : UInt8) (he : ds.length = ss.length) : (Gf.macL ds c ss).length = ss.length := by simp [Gf.macL, he]
set_option maxHeartbeats 400000 in
theorem refMac_no (dst : Option Addr) (n dc : Nat) (c : UInt8) (src : Option Addr) (m sc : Nat) (w : World) (h : n ≠ m) :
    Calls Try.prog 34 #[.slice dst n dc, .int .u8 (c.toNat : Int), .slice src m sc] w fun e w' => e = .returned (.tuple #[.slice none 0 0, .int .i64 3]) ∧ w = w' := by
  have hq : ((n : Int) != (m : Int)) = true := by rw [bne_iff_ne]; omega
  go_enter Try.func34, Try.ntmps34
  go_wp2_with fail
  go_ret2
  exact ⟨rfl, rfl⟩
set_option maxHeartbeats 800000 in
theorem refMac_calls (dst : Option Addr) (n dc : Nat) (c : UInt8) (src : Option Addr) (sc : Nat) (ds ss : List UInt8) (w : World) (hd : Rd w w.heap.size dst n (bVs ds)) (hs : Rd w w.heap.size src n (bVs ss)) (hn : n ≤ 140737488355328) :
    Calls Try.prog 34 #[.slice dst n dc, .int .u8 (c.toNat : Int), .slice src n sc] w fun e w' => ∃ A' cap', e = .returned (.tuple #[.slice A' n cap', .int .i64 0]) ∧ OwnB w' w.heap.size A' n cap' (Gf.macL ds c ss) ∧ Below w.heap.size w w' := by
  have hq : ((n : Int) != (n : Int)) = false := by rw [bne_eq_false_iff_eq]
  have hld : ds.length = n := by have := hd.len; rw [bVs_length] at this; exact this
  have hls : ss.length = n := by have := hs.len; rw [bVs_length] at this; exact this
  have HLS := Lib.hid hls
  have HE := Lib.hid (show ds.length = ss.length by omega)
  have HM := Lib.hid (show (Gf.macL ds c ss).length = n by rw [rmacL_len c (by omega)]; exact hls)
  clear hld hls
  go_enter Try.func34, Try.ntmps34
  go_wp2_with fail
  go_loopw [8, 9] (fun v8 v9 wr => ∃ i : Nat, i ≤ n ∧ v9 = .int .i64 (i : Int) ∧ OwnV wr w.heap.size v8 ((Gf.macL ds c ss).take i) ∧ Below w.heap.size w wr) (fun _ v9 _ => n - (intOf v9).toNat)
  case atStart => exact ⟨0, by omega, rfl, OwnV.nil _ _, Below.refl _ _⟩
  case round =>
    obtain ⟨i, hi, rfl, ho, hb⟩ := hrel
    by_cases hlt : i < n
    · obtain ⟨g, o, rfl, hg, hcell⟩ := rd_get (hd.below hb (Nat.le_refl _)) hlt
      obtain ⟨g1, o1, rfl, hg1, hcell1⟩ := rd_get (hs.below hb (Nat.le_refl _)) hlt
      have HS := Lib.hid (zip_snoc ds ss c (i := i) (by rw [HLS.out]; exact hlt) HE.out)
      have HLen := Lib.hid (show ((Gf.macL ds c ss).take i).length = i by rw [List.length_take, HM.out]; omega)
      have HX := Lib.hid (bxor_u8 (ds.getD i 0) (Gf.mul c (ss.getD i 0)))
      generalize (Gf.macL ds c ss).take i = l at *
      generalize ds.getD i 0 = x at *
      generalize ss.getD i 0 = y at *
      have HO := Lib.hid ho
      have HB := Lib.hid hb
      have HD := Lib.hid hd
      have HSS := Lib.hid hs
      clear ho hb hd hs
      go_wp2_with fail
      have hx := HX.out
      have hgr : g < wr.heap.size := Nat.lt_of_lt_of_le hg HB.out.size
      have hgr1 : g1 < wr.heap.size := Nat.lt_of_lt_of_le hg1 HB.out.size
      go_region_held3 (fun w' => w'.cell? ⟨g, o + i, none⟩ = some (.int .u8 (x.toNat : Int)) ∧ w'.cell? ⟨g1, o1 + i, none⟩ = some (.int .u8 (y.toNat : Int)))
        (first | go_keep | (go_split_ands; exact ⟨(hbl.cell (p := ⟨g, o + i, none⟩) hg).trans ‹_›, (hbl.cell (p := ⟨g1, o1 + i, none⟩) hg1).trans ‹_›⟩))
        (first | (go_at_call 47; refine (refMul_calls _ _ _).mono ?_; rintro e w' ⟨rfl, rfl⟩) | (refine step_append_byte _ _ (by rfl) (by rfl) w.heap.size wr.heap.size u8 l (Gf.add x (Gf.mul c y)) (by rfl) ((World.ownsRow.alloc HO.out _).drew) (by rfl) (by simp) (by rw [HLen.out]; omega) (by have := HB.out.size; simp; omega) ?_; intro v1 w1 ho1 hbl hg1'))
      go_wp2_with fail
      go_roundw
      case rel => exact ⟨i + 1, by omega, by go_num, by rw [← HS.out]; exact ho1, ((HB.out.alloc HB.out.size _).drew).trans hbl⟩
      case measure => simp [intOf]; omega
    · obtain rfl : i = n := by omega
      rw [List.take_of_length_le (by rw [HM.out]; omega)] at ho
      obtain ⟨A1, c1, rfl, ho1⟩ := ho.slice
      rw [HM.out] at *
      go_wp2_with fail
      go_ret2
      exact ⟨_, _, rfl, ho1, hb⟩
end Go.Proofs.Ythbjcafldbocpaa
