/- Walks of the laws FieldLists, FieldDots, FieldFresh. -/
import Derived.Test.YtkalponomccaiaaAnyL
import Derived.Test.YtkalponomccaiaaSame
namespace Go.Proofs.Ytkalponomccaiaa
open Go.RowKit
set_option linter.unusedVariables false
set_option linter.unusedSimpArgs false

theorem same_self (A : Option Addr) (n ac : Nat) (B : Option Addr) (m bc : Nat) (xs : List UInt8) (w : World) (ha : Rd w w.heap.size A n (bVs xs)) (hb : Rd w w.heap.size B m (bVs xs)) :
    Calls Try.prog 32 #[.slice A n ac, .slice B m bc] w fun e w' => e = .returned (.bool true) ∧ w = w' := by
  have h := same_calls A n ac B m bc xs xs w ha hb
  rw [sameB_self] at h
  exact h
theorem OwnB.rdGo {w w' : World} {base n cap : Nat} {A : Option Addr} {xs : List UInt8} (h : OwnB w base A n cap xs) (hb : Below w.heap.size w w') : Rd w' w'.heap.size A n (bVs xs) := h.rd.go hb

set_option maxHeartbeats 1600000 in
theorem fieldLists_calls (a0 : Option Addr) (n0 c0 : Nat) (x0 : List UInt8) (a1 : Option Addr) (n1 c1 : Nat) (x1 : List UInt8) (c : UInt8) (w : World)
    (r0 : Rd w w.heap.size a0 n0 (bVs x0)) (l0 : n0 ≤ c0) (m0 : c0 ≤ 140737488351232) (r1 : Rd w w.heap.size a1 n1 (bVs x1)) (l1 : n1 ≤ c1) (m1 : c1 ≤ 140737488351232) :
    Calls Try.prog 10 #[.slice a0 n0 c0, .slice a1 n1 c1, .int .u8 (c.toNat : Int)] w fun e w' => e = .returned (.bool true) ∧ Below w.heap.size w w' := by
  have hW : Below w.heap.size w w := Below.refl _ _
  have hn : n0 ≤ 140737488355328 := by omega
  clear l0 m0 l1 m1
  go_enter Try.func10, Try.ntmps10
  go_wp2_with fail
  refine (sum_any _ _ _ _ _ _ x0 x1 _ r0 r1 hn).mono ?_; rintro e w1 ⟨A1, k1, d1, rfl, ho, hb⟩
  replace hW := hW.trans (hb.mono hW.size); replace r0 := r0.go hb; replace r1 := r1.go hb; have s1 := ho.rd; clear ho hb
  go_wp2_with fail
  refine (refMac_any _ _ _ 1 _ _ _ x0 x1 _ r0 r1 hn).mono ?_; rintro e w2 ⟨A2, k2, d2, rfl, ho, hb⟩
  replace hW := hW.trans (hb.mono hW.size); replace r0 := r0.go hb; replace r1 := r1.go hb; replace s1 := s1.go hb; have s2 := ho.rd; clear ho hb
  go_wp2_with fail
  refine (mac_any _ _ _ c _ _ _ x0 x1 _ r0 r1 hn).mono ?_; rintro e w3 ⟨A3, k3, d3, rfl, ho, hb⟩
  replace hW := hW.trans (hb.mono hW.size); replace r0 := r0.go hb; replace r1 := r1.go hb; replace s1 := s1.go hb; replace s2 := s2.go hb; have s3 := ho.rd; clear ho hb
  go_wp2_with fail
  refine (refMac_any _ _ _ c _ _ _ x0 x1 _ r0 r1 hn).mono ?_; rintro e w4 ⟨A4, k4, d4, rfl, ho, hb⟩
  replace hW := hW.trans (hb.mono hW.size); replace r0 := r0.go hb; replace r1 := r1.go hb; replace s1 := s1.go hb; replace s2 := s2.go hb; replace s3 := s3.go hb; have s4 := ho.rd; clear ho hb
  go_wp2_with fail
  refine (dot_any _ _ _ _ _ _ x0 x1 _ r0 r1 hn).mono ?_; rintro e w5 ⟨rfl, hb⟩
  replace hW := hW.trans (hb.mono hW.size); replace r0 := r0.go hb; replace r1 := r1.go hb; replace s1 := s1.go hb; replace s2 := s2.go hb; replace s3 := s3.go hb; replace s4 := s4.go hb; clear hb
  go_wp2_with fail
  refine (refDot_any _ _ _ _ _ _ x0 x1 _ r0 r1 hn).mono ?_; rintro e w6 ⟨rfl, hb⟩
  replace hW := hW.trans (hb.mono hW.size); replace r0 := r0.go hb; replace r1 := r1.go hb; replace s1 := s1.go hb; replace s2 := s2.go hb; replace s3 := s3.go hb; replace s4 := s4.go hb; clear hb
  go_wp2_with fail
  refine (same_self _ _ _ _ _ _ _ _ s1 s2).mono ?_; rintro e w' ⟨rfl, rfl⟩
  go_wp2_with fail
  refine (same_self _ _ _ _ _ _ _ _ s3 s4).mono ?_; rintro e w' ⟨rfl, rfl⟩
  go_wp2_with fail
  refine (scale_calls c _ _ _ x0 _ r0 hn).mono ?_; rintro e w7 ⟨A5, d5, rfl, ho, hb⟩
  replace hW := hW.trans (hb.mono hW.size); replace r0 := r0.go hb; have s5 := ho.rd; clear ho hb
  go_wp2_with fail
  refine (refScale_calls c _ _ _ x0 _ r0 hn).mono ?_; rintro e w8 ⟨A6, d6, rfl, ho, hb⟩
  replace hW := hW.trans (hb.mono hW.size); replace s5 := s5.go hb; have s6 := ho.rd; clear ho hb
  go_wp2_with fail
  refine (same_self _ _ _ _ _ _ _ _ s5 s6).mono ?_; rintro e w' ⟨rfl, rfl⟩
  go_wp2_with fail
  go_ret
  exact ⟨rfl, hW⟩

/-! Dot goes through sums and multiples -/
theorem dotTo_comm (xs ys : List UInt8) (i : Nat) : Gf.dotTo xs ys i = Gf.dotTo ys xs i := by
  induction i with
  | zero => rfl
  | succ i ih => simp only [Gf.dotTo]; rw [ih, Gf.mul_comm]
theorem macL_getD {ds ss : List UInt8} (c : UInt8) (h : ds.length = ss.length) {i : Nat} (hi : i < ss.length) : (Gf.macL ds c ss).getD i 0 = Gf.add (ds.getD i 0) (Gf.mul c (ss.getD i 0)) := by
  have hd : i < ds.length := by omega
  simp [Gf.macL, List.getD, List.getElem?_zipWith, hi, hd]
theorem dotTo_mac {xs ys : List UInt8} (c : UInt8) (h : xs.length = ys.length) (i : Nat) (hi : i ≤ ys.length) : Gf.dotTo (Gf.macL xs c ys) ys i = Gf.add (Gf.dotTo xs ys i) (Gf.mul c (Gf.dotTo ys ys i)) := by
  induction i with
  | zero => simp only [Gf.dotTo]; rw [Gf.mul_zero]; rfl
  | succ i ih =>
    simp only [Gf.dotTo]
    rw [ih (by omega), macL_getD c h (by omega), Gf.add_mul, Gf.mul_add, Gf.mul_assoc]
    rw [Gf.add_assoc, Gf.add_assoc]
    congr 1
    rw [Gf.add_left_comm]
theorem dot_mac {xs ys : List UInt8} (c : UInt8) (h : xs.length = ys.length) : Gf.dot (Gf.macL xs c ys) ys = Gf.add (Gf.dot xs ys) (Gf.mul c (Gf.dot ys ys)) := by
  unfold Gf.dot
  rw [macL_length c h, h]
  exact dotTo_mac c h _ (Nat.le_refl _)
theorem dot_comm {xs ys : List UInt8} (h : xs.length = ys.length) : Gf.dot ys xs = Gf.dot xs ys := by
  unfold Gf.dot
  rw [h]; exact dotTo_comm _ _ _

set_option maxHeartbeats 1600000 in
theorem fieldDots_calls (a0 : Option Addr) (n0 c0 : Nat) (x0 : List UInt8) (a1 : Option Addr) (n1 c1 : Nat) (x1 : List UInt8) (c : UInt8) (w : World)
    (r0 : Rd w w.heap.size a0 n0 (bVs x0)) (l0 : n0 ≤ c0) (m0 : c0 ≤ 140737488351232) (r1 : Rd w w.heap.size a1 n1 (bVs x1)) (l1 : n1 ≤ c1) (m1 : c1 ≤ 140737488351232) :
    Calls Try.prog 12 #[.slice a0 n0 c0, .slice a1 n1 c1, .int .u8 (c.toNat : Int)] w fun e w' => e = .returned (.bool true) ∧ Below w.heap.size w w' := by
  have hW : Below w.heap.size w w := Below.refl _ _
  have hn : n0 ≤ 140737488355328 := by omega
  clear l0 m0 l1 m1
  by_cases h : n0 = n1
  · subst h
    have hq : ((n0 : Int) != (n0 : Int)) = false := by rw [bne_eq_false_iff_eq]
    have e0 : x0.length = n0 := by have := r0.len; rw [bVs_length] at this; exact this
    have e1 : x1.length = n0 := by have := r1.len; rw [bVs_length] at this; exact this
    have d1 := dot_mac c (show x0.length = x1.length by omega)
    have d2 := dot_comm (show x0.length = x1.length by omega)
    clear e0 e1
    go_enter Try.func12, Try.ntmps12
    go_wp2_with fail
    refine (mac_calls _ _ _ c _ _ x0 x1 _ r0 r1 hn).mono ?_; rintro e w3 ⟨A3, d3, rfl, ho, hb⟩
    replace hW := hW.trans (hb.mono hW.size); replace r0 := r0.go hb; replace r1 := r1.go hb; have s3 := ho.rd; clear ho hb
    go_wp2_with fail
    refine (dot_calls _ _ _ _ _ _ x1 _ s3 r1 hn).mono ?_; rintro e w5 ⟨rfl, hb⟩
    replace hW := hW.trans (hb.mono hW.size); replace r0 := r0.go hb; replace r1 := r1.go hb; clear hb
    go_wp2_with fail
    refine (dot_calls _ _ _ _ _ x0 x1 _ r0 r1 hn).mono ?_; rintro e w6 ⟨rfl, hb⟩
    replace hW := hW.trans (hb.mono hW.size); replace r0 := r0.go hb; replace r1 := r1.go hb; clear hb
    go_wp2_with fail
    refine (dot_calls _ _ _ _ _ x1 x1 _ r1 r1 hn).mono ?_; rintro e w7 ⟨rfl, hb⟩
    replace hW := hW.trans (hb.mono hW.size); replace r0 := r0.go hb; replace r1 := r1.go hb; clear hb
    go_wp2_with fail
    refine (dot_calls _ _ _ _ _ x1 x0 _ r1 r0 hn).mono ?_; rintro e w8 ⟨rfl, hb⟩
    replace hW := hW.trans (hb.mono hW.size); clear hb
    go_wp2_with (first | (go_at_call 13; refine (add_calls _ _ _).mono ?_; rintro e w' ⟨rfl, rfl⟩) | (go_at_call 14; refine (mul_calls _ _ _).mono ?_; rintro e w' ⟨rfl, rfl⟩) | (go_at_call 16; refine (anchored_calls _).mono ?_; rintro e w' ⟨rfl, rfl⟩))
    go_ret
    exact ⟨rfl, hW⟩
  · have hq : ((n0 : Int) != (n1 : Int)) = true := by rw [bne_iff_ne]; omega
    go_enter Try.func12, Try.ntmps12
    go_wp2_with (first | (go_at_call 30; refine (dot_no _ _ _ _ _ _ _ h).mono ?_; rintro e w' ⟨rfl, rfl⟩) | (go_at_call 16; refine (anchored_calls _).mono ?_; rintro e w' ⟨rfl, rfl⟩))
    go_ret
    exact ⟨rfl, hW⟩
end Go.Proofs.Ytkalponomccaiaa
