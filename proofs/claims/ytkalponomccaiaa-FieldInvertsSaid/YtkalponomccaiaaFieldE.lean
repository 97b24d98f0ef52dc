/- Walks of Exp and Log. -/
import Derived.Test.YtkalponomccaiaaFieldT
namespace Go.Proofs.Ytkalponomccaiaa
open Go.RowKit

set_option maxRecDepth 100000 in
set_option maxHeartbeats 400000 in
theorem exp_calls (n : Int) (w : World) :
    Calls Try.prog 18 #[.int .i64 n] w fun e w' => e = .returned (.int .u8 ((Gf.ex (n % 255).toNat).toNat : Int)) ∧ Below w.heap.size w w' := by
  have m0 : 0 ≤ n % 255 := Int.emod_nonneg _ (by omega)
  have m1 : n % 255 < 255 := Int.emod_lt_of_pos _ (by omega)
  obtain ⟨m, hm⟩ : ∃ m : Nat, n % 255 = (m : Int) := ⟨(n % 255).toNat, by omega⟩
  have hb : ∀ w, Calls Try.prog 39 #[.int .i64 n] w fun e w' => e = .returned (.int .i64 (m : Int)) ∧ w = w' := by
    intro w; rw [← hm]; exact bounded_calls n w
  have HB := Lib.hid hb
  have hk : m < 255 := by omega
  rw [hm, Int.toNat_natCast]
  clear hb m0 m1 hm
  obtain ⟨Z, hzv, HZ0, HSZ⟩ := zero_tables'
  go_enter Try.func18, Try.ntmps18
  go_wp2_with (first | (go_at_call 38; refine (build_calls _).mono ?_; rintro e w1 ⟨T, hT, rfl, hb1⟩) | (refine wpList_store_tab (.tmp 3) (.tmp 4) rfl rfl T Z hT HZ0 HSZ rfl rfl ?_; intro w2 hs2 hg2 hb2; have c2 := (HasTab.mk hT hg2).exp m (by omega); clear hg2 hs2) | (go_at_call 39; refine (HB.out _).mono ?_; rintro e w' ⟨rfl, rfl⟩))
  go_ret
  exact ⟨rfl, hb1.trans (hb2.mono hb1.size)⟩

/-- the error of a Log, of an inverse, as a number -/
def Gf.zeroE (a : UInt8) : Int := if a = 0 then 5 else 0
theorem lg_zero : Gf.lg 0 = 255 := by decide +kernel
def Gf.lgZ (a : UInt8) : Int := if a = 0 then 0 else Gf.lg a
set_option maxRecDepth 100000 in
set_option maxHeartbeats 400000 in
theorem log_calls (a : UInt8) (w : World) :
    Calls Try.prog 17 #[.int .u8 (a.toNat : Int)] w fun e w' => e = .returned (.tuple #[.int .i64 (Gf.lgZ a), .int .i64 (Gf.zeroE a)]) ∧ Below w.heap.size w w' := by
  have ha := u8_eq_zero a
  by_cases hz : a = 0
  · have h1 := Lib.hid (show Gf.lgZ a = 0 by unfold Gf.lgZ; rw [if_pos hz])
    have h2 := Lib.hid (show Gf.zeroE a = 5 by unfold Gf.zeroE; rw [if_pos hz])
    rw [decide_eq_true hz] at ha
    clear hz
    go_enter Try.func17, Try.ntmps17
    go_wp2_with fail
    go_ret2
    exact ⟨by rw [h1.out, h2.out]; rfl, Below.refl _ _⟩
  · have h1 := Lib.hid (show Gf.lgZ a = Gf.lg a by unfold Gf.lgZ; rw [if_neg hz])
    have h2 := Lib.hid (show Gf.zeroE a = 0 by unfold Gf.zeroE; rw [if_neg hz])
    rw [decide_eq_false hz] at ha
    have HZ := Lib.hid hz
    have ba := a.toNat_lt
    clear hz
    obtain ⟨Z, hzv, HZ0, HSZ⟩ := zero_tables'
    go_enter Try.func17, Try.ntmps17
    go_wp2_with (first | (go_at_call 38; refine (build_calls _).mono ?_; rintro e w1 ⟨T, hT, rfl, hb1⟩) | (refine wpList_store_tab (.tmp 4) (.tmp 7) rfl rfl T Z hT HZ0 HSZ rfl rfl ?_; intro w2 hs2 hg2 hb2; have c2 := (HasTab.mk hT hg2).log HZ.out; clear hg2 hs2))
    go_ret2
    exact ⟨by rw [h1.out, h2.out]; rfl, hb1.trans (hb2.mono hb1.size)⟩

end Go.Proofs.Ytkalponomccaiaa
