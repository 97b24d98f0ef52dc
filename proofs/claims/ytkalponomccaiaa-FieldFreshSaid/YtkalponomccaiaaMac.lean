/- The walk of Mac. -/
import Derived.Test.YtkalponomccaiaaScale
namespace Go.Proofs.Ytkalponomccaiaa
open Go.RowKit
set_option linter.unusedVariables false
set_option linter.unusedSimpArgs false

set_option maxHeartbeats 400000 in
theorem mac_no (dst : Option Addr) (n dc : Nat) (c : UInt8) (src : Option Addr) (m sc : Nat) (w : World) (h : n ≠ m) :
    Calls Try.prog 29 #[.slice dst n dc, .int .u8 (c.toNat : Int), .slice src m sc] w fun e w' => e = .returned (.tuple #[.slice none 0 0, .int .i64 3]) ∧ w = w' := by
  have hq : ((n : Int) != (m : Int)) = true := by rw [bne_iff_ne]; omega
  go_enter Try.func29, Try.ntmps29
  go_wp2_with fail
  go_ret2
  exact ⟨rfl, rfl⟩

theorem macL_eq {dst src : List UInt8} (c : UInt8) (h : dst.length = src.length) : (List.range src.length).map (fun j => Gf.add (Gf.mul c (src.getD j 0)) (dst.getD j 0)) = Gf.macL dst c src := by
  have h1 := range_map_get2 dst src (fun d s => Gf.add d (Gf.mul c s)) h
  rw [h] at h1
  unfold Gf.macL
  rw [← h1]
  apply List.map_congr_left
  intro j _
  exact Gf.add_comm _ _

set_option maxRecDepth 100000 in
set_option maxHeartbeats 800000 in
theorem mac_calls (dst : Option Addr) (n dc : Nat) (c : UInt8) (src : Option Addr) (sc : Nat) (ds ss : List UInt8) (w : World) (hd : Rd w w.heap.size dst n (bVs ds)) (hs : Rd w w.heap.size src n (bVs ss)) (hn : n ≤ 140737488355328) :
    Calls Try.prog 29 #[.slice dst n dc, .int .u8 (c.toNat : Int), .slice src n sc] w fun e w' => ∃ A' cap', e = .returned (.tuple #[.slice A' n cap', .int .i64 0]) ∧ OwnB w' w.heap.size A' n cap' (Gf.macL ds c ss) ∧ Below w.heap.size w w' := by
  have hq : ((n : Int) != (n : Int)) = false := by rw [bne_eq_false_iff_eq]
  have hld : ds.length = n := by have := hd.len; rw [bVs_length] at this; exact this
  have hls : ss.length = n := by have := hs.len; rw [bVs_length] at this; exact this
  have HLD := Lib.hid hld
  have HLS := Lib.hid hls
  have HF := Lib.hid (show upTo (fun j => Gf.add (Gf.mul c (ss.getD j 0)) (ds.getD j 0)) (ss.map (Gf.mul c)) n = Gf.macL ds c ss by
    have h := up_all (fun j => Gf.add (Gf.mul c (ss.getD j 0)) (ds.getD j 0)) (ss.map (Gf.mul c))
    rw [List.length_map, hls] at h
    rw [h, ← macL_eq c (by omega), hls])
  clear hld hls
  go_enter Try.func29, Try.ntmps29
  go_wp2_with (go_at_call 33; refine (scale_calls _ _ _ _ ss _ hs hn).mono ?_; rintro e w1 ⟨A1, c1, rfl, ho1, hb1⟩)
  rw [← up_zero (fun j => Gf.add (Gf.mul c (ss.getD j 0)) (ds.getD j 0)) (ss.map (Gf.mul c))] at ho1
  have HO := Lib.hid ho1
  have HB := Lib.hid hb1
  clear ho1 hb1
  go_loopw [21] (fun v21 wr => ∃ i : Nat, i ≤ n ∧ v21 = .int .i64 (i : Int) ∧ OwnB wr w.heap.size A1 n c1 (upTo (fun j => Gf.add (Gf.mul c (ss.getD j 0)) (ds.getD j 0)) (ss.map (Gf.mul c)) i) ∧ Below w.heap.size w wr) (fun v21 _ => n - (intOf v21).toNat)
  case atStart => exact ⟨0, by omega, rfl, HO.out, HB.out⟩
  case round =>
    obtain ⟨i, hi, rfl, ho, hb⟩ := hrel
    clear HO HB
    by_cases hlt : i < n
    · obtain ⟨g, o, rfl, hg, hcell⟩ := rd_get (hd.below hb (Nat.le_refl _)) hlt
      obtain ⟨g1, rfl, hg1, _, hcell1, hfz1⟩ := ho.at_ hlt
      have hl : i < (ss.map (Gf.mul c)).length := by rw [List.length_map, HLS.out]; exact hlt
      rw [up_get _ hl, map_getD _ (by rw [HLS.out]; exact hlt)] at hcell1
      have HU := Lib.hid (up_set (fun j => Gf.add (Gf.mul c (ss.getD j 0)) (ds.getD j 0)) hl)
      have HS := Lib.hid (ho.store i (Gf.add (Gf.mul c (ss.getD i 0)) (ds.getD i 0)))
      have hx := bxor_u8 (Gf.mul c (ss.getD i 0)) (ds.getD i 0)
      generalize Gf.mul c (ss.getD i 0) = y at *
      generalize ds.getD i 0 = d at *
      have HB := Lib.hid hb
      have HD := Lib.hid hd
      clear hb hl ho hd
      go_wp2_with fail
      go_roundw
      case rel =>
        refine ⟨i + 1, by omega, by go_num, ?_, ?_⟩
        · have h := HS.out
          rw [HU.out] at h
          exact h
        · exact HB.out.setCell (by simp; omega) _
      case measure => simp [intOf]; omega
    · obtain rfl : i = n := by omega
      rw [HF.out] at ho
      go_wp2_with fail
      go_ret2
      exact ⟨_, _, rfl, ho, hb⟩

end Go.Proofs.Ytkalponomccaiaa
