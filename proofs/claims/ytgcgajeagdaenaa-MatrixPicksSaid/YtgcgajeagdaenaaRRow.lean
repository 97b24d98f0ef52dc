/- The walk of the document's Row. -/
import Derived.Test.YtgcgajeagdaenaaRMatR
import Derived.Test.YtgcgajeagdaenaaRAt
import Derived.Test.YtgcgajeagdaenaaApp
namespace Go.Proofs.Ytgcgajeagdaenaa
open Go.RowKit
set_option linter.unusedVariables false
set_option linter.unusedSimpArgs false

def rowE (rt : Bool) (r i : Int) : Int := if rt = false then 3 else if 0 ≤ i ∧ i < r then 0 else 2
def rowD (rt : Bool) (r c i : Int) (xs : List UInt8) : List UInt8 := if rowE rt r i = 0 then (xs.drop (i.toNat * c.toNat)).take c.toNat else []
def RowPost (r c i : Int) (n : Nat) (xs : List UInt8) (w : World) (e : Ending) (w' : World) : Prop :=
  ∃ A' n' cap', e = .returned (.tuple #[.slice A' n' cap', .int .i64 (rowE (rightB r c n) r i)]) ∧ OwnB w' w.heap.size A' n' cap' (rowD (rightB r c n) r c i xs) ∧ Below w.heap.size w w'
theorem rowPost_err {r c i : Int} {n : Nat} {xs : List UInt8} {w w' : World} {E : Int} (h : rowE (rightB r c n) r i = E) (hE : E ≠ 0) (hb : Below w.heap.size w w') :
    RowPost r c i n xs w (.returned (.tuple #[.slice none 0 0, .int .i64 E])) w' := by
  refine ⟨none, 0, 0, by rw [h], ?_, hb⟩
  unfold rowD; rw [h, if_neg hE]; exact ⟨rfl, rfl, .inl ⟨rfl, rfl⟩⟩
theorem right_nats {r c : Int} {n : Nat} (hrt : rightB r c n = true) : ∃ a b : Nat, r = a ∧ c = b ∧ a ≤ 64 ∧ b ≤ 64 ∧ n = a * b := by
  simp [rightB] at hrt
  refine ⟨r.toNat, c.toNat, by omega, by omega, by omega, by omega, ?_⟩
  apply Int.ofNat_inj.1
  rw [Int.natCast_mul, Int.toNat_of_nonneg hrt.1.1, Int.toNat_of_nonneg hrt.2.1.1]
  exact hrt.2.2
theorem row_entry (xs : List UInt8) {k c j : Nat} (hj : j < c) (hk : k + c ≤ xs.length) : ((xs.drop k).take c).take j ++ [xs.getD (k + j) 0] = ((xs.drop k).take c).take (j + 1) := by
  have hl : j < ((xs.drop k).take c).length := by rw [List.length_take, List.length_drop]; omega
  rw [List.take_succ_eq_append_getElem hl]
  congr 2
  have : k + j < xs.length := by omega
  simp [List.getD, this]

set_option maxRecDepth 100000 in
set_option maxHeartbeats 3200000 in
theorem refRow_calls (r c i : Int) (A : Option Addr) (n cap : Nat) (xs : List UInt8) (w : World) (hr : Rd w w.heap.size A n (bVs xs)) :
    Calls Try.prog 25 #[mV r c A n cap, .int .i64 i] w (RowPost r c i n xs w) := by
  have HB2 := Lib.hid (Row.new w [.int .i64 r, .int .i64 c, .slice A n cap] 24)
  have HB := Lib.hid (show Below w.heap.size w (w.alloc (.cells #[.int .i64 r, .int .i64 c, .slice A n cap] 24)) from (Below.refl _ _).alloc (Nat.le_refl _) _)
  by_cases hrt : rightB r c n = true
  · obtain ⟨rr, cc, rfl, rfl, hr64, hc64, hnrc⟩ := right_nats hrt
    have HN := Lib.hid hnrc
    have HRT := Lib.hid hrt
    have HR1 := Lib.hid (fun w => refRight_calls rr cc A n cap w)
    rw [hrt] at HR1
    have hn4 : n ≤ 4096 := by rw [hnrc]; exact Nat.le_trans (Nat.mul_le_mul hr64 hc64) (by omega)
    clear hnrc hrt
    by_cases h1 : i < 0
    · have HE := Lib.hid (show rowE (rightB rr cc n) rr i = 2 by simp [rowE, HRT.out]; omega)
      have d1 : decide (i < 0) = true := by simpa using h1
      go_enter Try.func25, Try.ntmps25
      go_wp2_with (go_at_call 18; refine (HR1.out _).mono ?_; rintro e w1 ⟨rfl, hb1⟩; obtain ⟨c20, c21, c22, f20, f21, f22⟩ := (HB2.out.below hb1 (by simp)).three)
      go_ret2
      exact rowPost_err HE.out (by omega) (HB.out.trans (hb1.mono HB.out.size))
    have d1 : decide (i < 0) = false := by simpa using h1
    by_cases h2 : (rr : Int) ≤ i
    · have HE := Lib.hid (show rowE (rightB rr cc n) rr i = 2 by simp [rowE, HRT.out]; omega)
      have d2 : decide ((rr : Int) ≤ i) = true := by simpa using h2
      go_enter Try.func25, Try.ntmps25
      go_wp2_with (go_at_call 18; refine (HR1.out _).mono ?_; rintro e w1 ⟨rfl, hb1⟩; obtain ⟨c20, c21, c22, f20, f21, f22⟩ := (HB2.out.below hb1 (by simp)).three)
      go_ret2
      exact rowPost_err HE.out (by omega) (HB.out.trans (hb1.mono HB.out.size))
    have d2 : decide ((rr : Int) ≤ i) = false := by simpa using h2
    obtain ⟨ii, rfl⟩ : ∃ ii : Nat, i = ii := ⟨i.toNat, by omega⟩
    have hir : ii < rr := by omega
    have d3 : decide (rr ≤ ii) = false := by simpa using hir
    have HE := Lib.hid (show rowE (rightB rr cc n) rr (ii : Int) = 0 by simp [rowE, HRT.out]; omega)
    obtain ⟨k, hk⟩ : ∃ k, k = ii * cc := ⟨_, rfl⟩
    have hkn : k + cc ≤ n := by
      have h1 : (ii + 1) * cc ≤ rr * cc := Nat.mul_le_mul_right cc hir
      rw [Nat.add_mul, ← hk] at h1
      rw [HN.out]; omega
    have HK := Lib.hid hk
    have hx : xs.length = n := by have := hr.len; rw [bVs_length] at this; exact this
    have HX := Lib.hid hx
    have HRow := Lib.hid (show ((xs.drop k).take cc).length = cc by rw [List.length_take, List.length_drop, hx]; omega)
    clear hk h1 h2 hx
    go_enter Try.func25, Try.ntmps25
    go_wp2_with (go_at_call 18; refine (HR1.out _).mono ?_; rintro e w1 ⟨rfl, hb1⟩; have b2 := HB2.out.below hb1 (by simp); have hB := HB.out.trans (hb1.mono HB.out.size); obtain ⟨c20, c21, c22, f20, f21, f22⟩ := b2.three)
    have HB2' := Lib.hid b2
    have HB' := Lib.hid hB
    clear b2 hB c20 c21 c22 f20 f21 f22 hb1 d1 d2 d3 HB HB2
    go_loopw [6, 7] (fun v6 v7 wr => ∃ j : Nat, j ≤ cc ∧ v7 = .int .i64 (j : Int) ∧ OwnV wr (w.heap.size + 1) v6 (((xs.drop k).take cc).take j) ∧ Row wr w.heap.size 24 [.int .i64 (rr : Int), .int .i64 (cc : Int), .slice A n cap] ∧ Below w.heap.size w wr) (fun _ v7 _ => cc - (intOf v7).toNat)
    case atStart => exact ⟨0, by omega, rfl, by rw [List.take_zero]; exact OwnV.nil _ _, HB2'.out, HB'.out⟩
    case round =>
      obtain ⟨j, hj, rfl, ho, b2, hB⟩ := hrel
      clear HB2' HB'
      obtain ⟨c20, c21, c22, f20, f21, f22⟩ := b2.three
      by_cases hlj : j < cc
      · have HST := Lib.hid (row_entry xs (k := k) hlj (by rw [HX.out]; exact hkn))
        have HL := Lib.hid (show (((xs.drop k).take cc).take j).length = j by rw [List.length_take, HRow.out]; omega)
        generalize ((xs.drop k).take cc).take j = l at *
        have HAT := Lib.hid (fun w (h : Rd w w.heap.size A n (bVs xs)) => at_calls rr cc ii j k A n cap xs w h HK (by omega) hn4)
        generalize xs.getD (k + j) 0 = x at *
        have HO := Lib.hid ho
        have HBB := Lib.hid hB
        have RR := (hr.below hB (Nat.le_refl _)).more hB.size
        have l2 := b2.lt
        clear ho hB
        go_wp2_with (first | (go_at_call 48; refine (HAT.out _ RR).mono ?_; rintro e w2 ⟨rfl, hb2⟩; have o2 := HO.out.below hb2; have b22 := b2.below hb2 b2.lt; have hB2 := HBB.out.trans (hb2.mono HBB.out.size)) | (at_builtin; refine wpList_append_byte (.tmp 25) (.tmp 30) rfl rfl (w.heap.size + 1) _ l x rfl o2 rfl (by rw [HL.out]; omega) b22.lt ?_; intro v1 w3 ho3 hb3 hg3))
        go_roundw
        case rel => exact ⟨j + 1, by omega, by go_num, by rw [← HST.out]; exact ho3, b22.of_block (hg3.block _ b22.lt (fun e => by have := o2.base_le _ e.symm; omega)), hB2.trans (hb3.mono (by omega))⟩
        case measure => simp [intOf]; omega
      · obtain rfl : j = cc := by omega
        rw [List.take_of_length_le (by rw [HRow.out]; omega)] at ho
        obtain ⟨A1, c1, rfl, ho1⟩ := ho.slice' HRow.out
        go_wp2_with fail
        go_ret2
        refine ⟨A1, j, c1, by rw [HE.out]; rfl, ?_, hB⟩
        unfold rowD
        rw [HE.out, if_pos rfl, Int.toNat_natCast, Int.toNat_natCast, ← HK.out]
        exact ho1.mono (by omega)
  · have hrt : rightB r c n = false := by simpa using hrt
    have HE := Lib.hid (show rowE (rightB r c n) r i = 3 by simp [rowE, hrt])
    have HR1 := Lib.hid (fun w => refRight_calls r c A n cap w)
    rw [hrt] at HR1
    clear hrt
    go_enter Try.func25, Try.ntmps25
    go_wp2_with (go_at_call 18; refine (HR1.out _).mono ?_; rintro e w1 ⟨rfl, hb1⟩)
    go_ret2
    exact rowPost_err HE.out (by omega) (HB.out.trans (hb1.mono HB.out.size))
end Go.Proofs.Ytgcgajeagdaenaa
