/- Walks over the tables: products, powers, exponents, inverses, quotients. -/
import Derived.Test.YtkalponomccaiaaTab
import Derived.Test.YtkalponomccaiaaMem
import Derived.Deep.QuietTactic
import Derived.BigQuiet
import Derived.IntWalk
namespace Go.Proofs.Ytkalponomccaiaa
open Go.RowKit

theorem tab_exp {w : World} {g : Nat} {t : TypeId} {T : Array Value} (hT : IsTab T) (h : w.heap[g]? = some (.cells T t (0, 0))) (i : Nat) (hi : i < 510) : w.cell? ⟨g, i, none⟩ = some (.int .u8 ((Gf.ex i).toNat : Int)) := by
  rw [cell_of_row _ _ _ _ _ _ h]; exact hT.exp i hi
theorem tab_log {w : World} {g : Nat} {t : TypeId} {T : Array Value} (hT : IsTab T) (h : w.heap[g]? = some (.cells T t (0, 0))) {a : UInt8} (ha : a ≠ 0) : w.cell? ⟨g, 510 + a.toNat, none⟩ = some (.int .i64 (Gf.lg a : Int)) := by
  rw [cell_of_row _ _ _ _ _ _ h]; exact hT.log ha
/-- block g holds the tables -/
def HasTab (w : World) (g : Nat) : Prop := ∃ T, IsTab T ∧ w.heap[g]? = some (.cells T 61 (0, 0))
theorem HasTab.mk {w : World} {g : Nat} {T : Array Value} (hT : IsTab T) (h : w.heap[g]? = some (.cells T 61 (0, 0))) : HasTab w g := ⟨T, hT, h⟩
theorem HasTab.lt {w : World} {g : Nat} (h : HasTab w g) : g < w.heap.size := by
  obtain ⟨T, _, h⟩ := h
  rcases Nat.lt_or_ge g w.heap.size with hlt | hge
  · exact hlt
  · rw [Array.getElem?_eq_none hge] at h; cases h
theorem HasTab.of_block {w w' : World} {g : Nat} (h : HasTab w g) (hb : w'.heap[g]? = w.heap[g]?) : HasTab w' g := by
  obtain ⟨T, hT, h⟩ := h; exact ⟨T, hT, hb.trans h⟩
theorem HasTab.drewN {w : World} {g : Nat} (h : HasTab w g) (n : Nat) : HasTab (w.drewN n) g := h
theorem HasTab.exp {w : World} {g : Nat} (h : HasTab w g) (i : Nat) (hi : i < 510) : w.cell? ⟨g, i, none⟩ = some (.int .u8 ((Gf.ex i).toNat : Int)) := by
  obtain ⟨T, hT, h⟩ := h; exact tab_exp hT h i hi
theorem HasTab.log {w : World} {g : Nat} (h : HasTab w g) {a : UInt8} (ha : a ≠ 0) : w.cell? ⟨g, 510 + a.toNat, none⟩ = some (.int .i64 (Gf.lg a : Int)) := by
  obtain ⟨T, hT, h⟩ := h; exact tab_log hT h ha

set_option maxRecDepth 100000 in
set_option maxHeartbeats 400000 in
theorem tmul_calls (g : Nat) (a b : UInt8) (w : World) (h : HasTab w g) :
    Calls Try.prog 41 #[.pointer (some ⟨g, 0, none⟩), .int .u8 (a.toNat : Int), .int .u8 (b.toNat : Int)] w fun e w' => e = .returned (.int .u8 ((Gf.mul a b).toNat : Int)) ∧ ∃ n, w' = w.drewN n := by
  have ha := u8_eq_zero a
  have hb := u8_eq_zero b
  by_cases h1 : a = 0
  · have hz := Lib.hid (show Gf.mul a b = 0 by rw [h1, Gf.mul_zero_left])
    rw [decide_eq_true h1] at ha
    clear h1 hb
    go_enter Try.func41, Try.ntmps41
    go_wp2_with fail
    go_ret
    exact ⟨by rw [hz.out]; rfl, 0, rfl⟩
  by_cases h2 : b = 0
  · have hz := Lib.hid (show Gf.mul a b = 0 by rw [h2, Gf.mul_zero])
    rw [decide_eq_true h2] at hb
    rw [decide_eq_false h1] at ha
    clear h1 h2
    go_enter Try.func41, Try.ntmps41
    go_wp2_with fail
    go_ret
    exact ⟨by rw [hz.out]; rfl, 0, rfl⟩
  have hz := Lib.hid (Gf.mul_eq h1 h2)
  have c1 := h.log h1
  have c2 := h.log h2
  have l1 := Gf.lg_bd h1
  have l2 := Gf.lg_bd h2
  have c3 := h.exp (Gf.lg a + Gf.lg b) (by omega)
  rw [decide_eq_false h2] at hb
  rw [decide_eq_false h1] at ha
  have ba := a.toNat_lt
  have bb := b.toNat_lt
  generalize Gf.lg a = x at *
  generalize Gf.lg b = y at *
  clear h1 h2 h
  go_enter Try.func41, Try.ntmps41
  go_wp2_with fail
  have e1 : IntKind.i64.wrap ((x : Int) + (y : Int)) = (x : Int) + (y : Int) := IntWalk.i64_in _ (by omega)
  have e2 : ((x : Int) + (y : Int)).toNat = x + y := by omega
  have e3 : 0 ≤ (x : Int) + (y : Int) := by omega
  go_quiet (fail)
  go_wp2_with fail
  go_ret
  exact ⟨by rw [hz.out]; rfl, _, rfl⟩


theorem bounded_eq (n : Int) : (wrap64 (n.tmod 255 + 255)).tmod 255 = n % 255 := by
  have h := Int.tmod_eq_emod (a := n) (b := 255)
  have h1 : -255 < n.tmod 255 ∧ n.tmod 255 < 255 := by
    rw [h]
    have := Int.emod_lt_of_pos n (show (0 : Int) < 255 by omega)
    have := Int.emod_nonneg n (show (255 : Int) ≠ 0 by omega)
    split <;> omega
  have h2 : wrap64 (n.tmod 255 + 255) = n.tmod 255 + 255 := by unfold wrap64; omega
  rw [h2, Int.tmod_eq_emod_of_nonneg (by omega), h]
  split <;> omega
set_option maxHeartbeats 400000 in
theorem bounded_calls (n : Int) (w : World) :
    Calls Try.prog 39 #[.int .i64 n] w fun e w' => e = .returned (.int .i64 (n % 255)) ∧ w = w' := by
  go_enter Try.func39, Try.ntmps39
  go_wp2_with fail
  go_ret
  exact ⟨congrArg (fun x => Ending.returned (.int .i64 x)) (bounded_eq n), rfl⟩

/-- the error of a power, as a number -/
def Gf.powE (a : UInt8) (n : Int) : Int := if a = 0 ∧ n < 0 then 5 else 0
theorem pw_yes {a : UInt8} {n : Int} (hn : n ≠ 0) (ha : a ≠ 0) : Gf.ex (Gf.lg a * (n % 255).toNat % 255) = Gf.pw a n := by
  unfold Gf.pw; rw [if_neg hn, if_neg ha]
set_option maxRecDepth 100000 in
set_option maxHeartbeats 400000 in
theorem pow_calls (a : UInt8) (n : Int) (w : World) (h0 : -9223372036854775808 ≤ n) (h1 : n ≤ 9223372036854775807) :
    Calls Try.prog 19 #[.int .u8 (a.toNat : Int), .int .i64 n] w fun e w' =>
      e = .returned (.tuple #[.int .u8 ((Gf.pw a n).toNat : Int), .int .i64 (Gf.powE a n)]) ∧ Below w.heap.size w w' := by
  have ha := u8_eq_zero a
  by_cases hn : n = 0
  · subst hn
    go_enter Try.func19, Try.ntmps19
    go_wp2_with fail
    go_ret2
    exact ⟨by simp [Gf.pw, Gf.powE], Below.refl _ _⟩
  have hn1 : (n == 0) = false := by simpa using hn
  by_cases hz : a = 0
  · rw [decide_eq_true hz] at ha
    by_cases hlt : n < 0
    · have hd : decide (n < 0) = true := by simpa using hlt
      have hp := Lib.hid (show Gf.pw a n = 0 by unfold Gf.pw; rw [if_neg hn, if_pos hz])
      have hc := Lib.hid (show Gf.powE a n = 5 by unfold Gf.powE; rw [if_pos ⟨hz, hlt⟩])
      clear hz hn
      go_enter Try.func19, Try.ntmps19
      go_wp2_with fail
      go_ret2
      exact ⟨by rw [hp.out, hc.out]; rfl, Below.refl _ _⟩
    · have hd : decide (n < 0) = false := by simpa using hlt
      have hp := Lib.hid (show Gf.pw a n = 0 by unfold Gf.pw; rw [if_neg hn, if_pos hz])
      have hc := Lib.hid (show Gf.powE a n = 0 by unfold Gf.powE; rw [if_neg (fun h => hlt h.2)])
      clear hz hn
      go_enter Try.func19, Try.ntmps19
      go_wp2_with fail
      go_ret2
      exact ⟨by rw [hp.out, hc.out]; rfl, Below.refl _ _⟩
  rw [decide_eq_false hz] at ha
  have hp := Lib.hid (pw_yes hn hz)
  have hc := Lib.hid (show Gf.powE a n = 0 by unfold Gf.powE; rw [if_neg (fun h => hz h.1)])
  have hl := Gf.lg_bd hz
  have HZ := Lib.hid hz
  have m0 : 0 ≤ n % 255 := Int.emod_nonneg _ (by omega)
  have m1 : n % 255 < 255 := Int.emod_lt_of_pos _ (by omega)
  obtain ⟨m, hm⟩ : ∃ m : Nat, n % 255 = (m : Int) := ⟨(n % 255).toNat, by omega⟩
  have hb : ∀ w, Calls Try.prog 39 #[.int .i64 n] w fun e w' => e = .returned (.int .i64 (m : Int)) ∧ w = w' := by
    intro w; rw [← hm]; exact bounded_calls n w
  have HB := Lib.hid hb
  have hk : m < 255 := by omega
  rw [hm, Int.toNat_natCast] at hp
  have HM := Lib.hid hm
  clear hz hb m0 m1 hm
  obtain ⟨x, hx⟩ : ∃ x, x = Gf.lg a := ⟨_, rfl⟩
  rw [← hx] at hl hp
  have HX := Lib.hid hx
  clear hx
  obtain ⟨p, r, hp1, hr, e1, e2, hpr⟩ : ∃ p r : Nat, p ≤ 64516 ∧ r < 255 ∧ IntKind.i64.wrap ((x : Int) * (m : Int)) = (p : Int) ∧ ((p : Int)).tmod 255 = (r : Int) ∧ Hid (x * m % 255 = r) := by
    have hmul : x * m ≤ 254 * 254 := Nat.mul_le_mul (by omega) (by omega)
    refine ⟨x * m, x * m % 255, hmul, Nat.mod_lt _ (by omega), ?_, ?_, rfl⟩
    · rw [← Int.natCast_mul]; exact IntWalk.i64_in _ (by omega)
    · rw [Int.tmod_eq_emod_of_nonneg (by omega)]; omega
  rw [hpr.out] at hp
  have E1 := Lib.hid e1
  have E2 := Lib.hid e2
  clear e1 e2
  have ba := a.toNat_lt
  obtain ⟨Z, hzv, HZ0, HSZ⟩ := zero_tables'
  clear hn h0 h1
  go_enter Try.func19, Try.ntmps19
  go_wp2_with (first | (go_at_call 38; refine (build_calls _).mono ?_; rintro e w1 ⟨T, hT, rfl, hb1⟩) | (refine wpList_store_tab (.tmp 6) (.tmp 20) rfl rfl T Z hT HZ0 HSZ rfl rfl ?_; intro w2 hs2 hg2 hb2))
  have ht := HasTab.mk hT hg2
  have c1 := ht.log HZ.out
  rw [← HX.out] at c1
  have c2 := ht.exp r (by omega)
  have e1 := E1.out
  have e2 := E2.out
  have HS2 := Lib.hid hs2
  clear ht hzv hg2 hs2
  go_frame
  go_quiet ((go_at_call 39; exact Calls.quiet_of_same ((HB.out _).mono fun _ _ ⟨h1, h2⟩ => ⟨h1, h2.symm⟩)))
  go_wp2_with fail
  go_ret2
  exact ⟨by rw [← hp.out, hc.out]; rfl, below_drewN (hb1.trans (hb2.mono hb1.size)) _⟩

end Go.Proofs.Ytkalponomccaiaa
