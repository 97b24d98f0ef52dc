/- The walk of the law MatrixTurns. -/
import Derived.Test.YtgcgajeagdaenaaL03c
import Derived.Test.YtgcgajeagdaenaaTrans
namespace Go.Proofs.Ytgcgajeagdaenaa
open Go.RowKit
set_option linter.unusedVariables false
set_option linter.unusedSimpArgs false

theorem turn_twice {r c : Nat} {xs : List UInt8} (h : xs.length = r * c) : turnD c r (turnD r c xs) = xs := by
  rw [grid_of h]
  refine grid_congr fun i j hi hj => ?_
  exact (grid_getD _ hj hi).trans (by unfold turnF; exact grid_getD _ hi hj)
theorem turn_mul {a b c : Nat} {xs ys : List UInt8} : turnD a c (mulG a b c xs ys) = mulG c b a (turnD b c ys) (turnD a b xs) := by
  refine grid_congr fun j i hj hi => ?_
  unfold turnF
  rw [mulG, grid_getD _ hi hj]
  unfold mulF
  refine sumF_congr fun k hk => ?_
  rw [Gf.mul_comm]
  congr 1
  · exact (grid_getD (turnF c ys) hj hk).symm
  · exact (grid_getD (turnF b xs) hk hi).symm
theorem trans_any (r c : Int) (A : Option Addr) (n cap : Nat) (xs : List UInt8) (w : World) (hx : Rd w w.heap.size A n (bVs xs)) (hcap : n ≤ cap) :
    Calls Try.prog 32 #[mV r c A n cap] w fun e w' => ∃ R C g N E D, e = .returned (.tuple #[mV R C g N N, .int .i64 E]) ∧ OwnB w' w.heap.size g N N D ∧ Below w.heap.size w w' := by
  by_cases h : rightB r c n = true
  · obtain ⟨a, b, rfl, rfl, h1, h2, h3⟩ := right_nat h
    refine (trans_yes a b n A cap xs w h1 h2 (Lib.hid h3) hx hcap).mono ?_
    rintro e w' ⟨g, rfl, ho, hb⟩
    exact ⟨_, _, g, n, _, _, rfl, ho, hb⟩
  · refine (trans_no r c A n cap w (by simpa using h)).mono ?_
    rintro e w' ⟨rfl, hb⟩
    exact ⟨0, 0, none, 0, 3, [], rfl, ⟨rfl, rfl, .inl ⟨rfl, rfl⟩⟩, hb⟩
set_option maxRecDepth 100000 in
set_option maxHeartbeats 3200000 in
theorem turns_no (ra ca : Int) (A : Option Addr) (na ka : Nat) (xs : List UInt8) (rb cb : Int) (B : Option Addr) (nb kb : Nat) (ys : List UInt8) (w : World)
    (rx : Rd w w.heap.size A na (bVs xs)) (lx : na ≤ ka) (ry : Rd w w.heap.size B nb (bVs ys)) (ly : nb ≤ kb) (h : mulB ra ca na rb cb nb = false) :
    Calls Try.prog 7 #[mV ra ca A na ka, mV rb cb B nb kb] w fun e w' => e = .returned (.bool true) ∧ Below w.heap.size w w' := by
  have S := ((((Ctx.start w).add rx).add ry).box [.int .i64 ra, .int .i64 ca, .slice A na ka]).box [.int .i64 rb, .int .i64 cb, .slice B nb kb]
  simp only [World.size_alloc] at S
  have HT1 := Lib.hid (fun w h => trans_any ra ca A na ka xs w h lx)
  have HT2 := Lib.hid (fun w h => trans_any rb cb B nb kb ys w h ly)
  have HM := Lib.hid (fun w => mul_no ra ca rb cb A B na nb ka kb w h)
  have HR1 := Lib.hid (fun w => refRight_calls ra ca A na ka w)
  have HR2 := Lib.hid (fun w => refRight_calls rb cb B nb kb w)
  have hc : rightB ra ca na = false ∨ (rightB ra ca na = true ∧ rightB rb cb nb = false) ∨ (rightB ra ca na = true ∧ rightB rb cb nb = true ∧ (ca != rb) = true) := by
    unfold mulB at h
    cases h1 : rightB ra ca na
    · exact .inl rfl
    · cases h2 : rightB rb cb nb
      · exact .inr (.inl ⟨rfl, rfl⟩)
      · rw [h1, h2] at h; simp at h; exact .inr (.inr ⟨rfl, rfl, by simpa using h⟩)
  clear h
  obtain ⟨c0, c1, c2⟩ := S.cells 1 rfl
  obtain ⟨d0, d1, d2⟩ := S.cells 0 rfl
  go_enter Try.func7, Try.ntmps7
  go_wp2_with fail
  refine (HT1.out _ (S.rd 1 rfl)).mono ?_
  rintro e w1 ⟨R1, C1, g1, N1, E1, D1, rfl, ho, hb⟩
  replace S := ((S.go hb).add ho.rd).box [.int .i64 R1, .int .i64 C1, .slice g1 N1 N1]
  clear hb ho c0 c1 c2 d0 d1 d2
  obtain ⟨d0, d1, d2⟩ := S.cells 1 rfl
  go_wp2_with fail
  refine (HT2.out _ (S.rd 1 rfl)).mono ?_
  rintro e w2 ⟨R2, C2, g2, N2, E2, D2, rfl, ho, hb⟩
  replace S := ((S.go hb).add ho.rd).box [.int .i64 R2, .int .i64 C2, .slice g2 N2 N2]
  clear hb ho d0 d1 d2
  obtain ⟨c0, c1, c2⟩ := S.cells 3 rfl
  obtain ⟨d0, d1, d2⟩ := S.cells 2 rfl
  go_wp2_with fail
  refine (HM.out _).mono ?_
  rintro e w3 ⟨rfl, hb⟩
  replace S := (S.go hb).box [.int .i64 0, .int .i64 0, .slice none 0 0]
  clear hb c0 c1 c2 d0 d1 d2 HT1 HT2 HM
  obtain ⟨c0, c1, c2⟩ := S.cells 4 rfl
  obtain ⟨d0, d1, d2⟩ := S.cells 3 rfl
  rcases hc with h1 | ⟨h1, h2⟩ | ⟨h1, h2, h3⟩
  · rw [h1] at HR1
    clear h1
    go_wp2_with (first | (go_at_call 18; (first | (with_reducible refine (HR1.out _).mono ?_) | (with_reducible refine (HR2.out _).mono ?_)); rintro e w3 ⟨rfl, hb⟩; replace S := S.go hb; clear hb c0 c1 c2 d0 d1 d2; obtain ⟨c0, c1, c2⟩ := S.cells 4 rfl; obtain ⟨d0, d1, d2⟩ := S.cells 3 rfl) | (go_at_call 30; refine (anchored_calls _).mono ?_; rintro e w3 ⟨rfl, hb⟩; replace S := S.go hb))
    go_ret
    exact ⟨rfl, S.below⟩
  · rw [h1] at HR1
    rw [h2] at HR2
    clear h1 h2
    go_wp2_with (first | (go_at_call 18; (first | (with_reducible refine (HR1.out _).mono ?_) | (with_reducible refine (HR2.out _).mono ?_)); rintro e w3 ⟨rfl, hb⟩; replace S := S.go hb; clear hb c0 c1 c2 d0 d1 d2; obtain ⟨c0, c1, c2⟩ := S.cells 4 rfl; obtain ⟨d0, d1, d2⟩ := S.cells 3 rfl) | (go_at_call 30; refine (anchored_calls _).mono ?_; rintro e w3 ⟨rfl, hb⟩; replace S := S.go hb))
    go_ret
    exact ⟨rfl, S.below⟩
  · rw [h1] at HR1
    rw [h2] at HR2
    clear h1 h2
    go_wp2_with (first | (go_at_call 18; (first | (with_reducible refine (HR1.out _).mono ?_) | (with_reducible refine (HR2.out _).mono ?_)); rintro e w3 ⟨rfl, hb⟩; replace S := S.go hb; clear hb c0 c1 c2 d0 d1 d2; obtain ⟨c0, c1, c2⟩ := S.cells 4 rfl; obtain ⟨d0, d1, d2⟩ := S.cells 3 rfl) | (go_at_call 30; refine (anchored_calls _).mono ?_; rintro e w3 ⟨rfl, hb⟩; replace S := S.go hb))
    go_ret
    exact ⟨rfl, S.below⟩
set_option maxRecDepth 100000 in
set_option maxHeartbeats 3200000 in
theorem turns_yes (a b c : Nat) (A : Option Addr) (na ka : Nat) (xs : List UInt8) (B : Option Addr) (nb kb : Nat) (ys : List UInt8) (w : World)
    (rx : Rd w w.heap.size A na (bVs xs)) (lx : na ≤ ka) (ry : Rd w w.heap.size B nb (bVs ys)) (ly : nb ≤ kb)
    (ha : a ≤ 64) (hb : b ≤ 64) (hc : c ≤ 64) (hna : Hid (na = a * b)) (hnb : Hid (nb = b * c)) :
    Calls Try.prog 7 #[mV a b A na ka, mV b c B nb kb] w fun e w' => e = .returned (.bool true) ∧ Below w.heap.size w w' := by
  have S := ((((Ctx.start w).add rx).add ry).box [.int .i64 (a : Int), .int .i64 (b : Int), .slice A na ka]).box [.int .i64 (b : Int), .int .i64 (c : Int), .slice B nb kb]
  simp only [World.size_alloc] at S
  obtain ⟨p, hp⟩ : ∃ p, p = a * c := ⟨_, rfl⟩
  have hna2 : Hid (na = b * a) := Lib.hid (by rw [hna.out, Nat.mul_comm])
  have hnb2 : Hid (nb = c * b) := Lib.hid (by rw [hnb.out, Nat.mul_comm])
  have hp2 : Hid (p = c * a) := Lib.hid (by rw [hp, Nat.mul_comm])
  have hxl : xs.length = a * b := by have := rx.len; rw [bVs_length] at this; rw [this, hna.out]
  have HT1 := Lib.hid (fun w h => trans_yes a b na A ka xs w ha hb hna h lx)
  have HT2 := Lib.hid (fun w h => trans_yes b c nb B kb ys w hb hc hnb h ly)
  have HM1 := Lib.hid (fun w h1 h2 => mul_fit a b c na nb p A B ka kb xs ys w ha hb hc hna hnb hp h1 h2 lx ly)
  have HT3 := Lib.hid (fun g w h => trans_yes b a na g na (turnD a b xs) w hb ha hna2 h (Nat.le_refl _))
  rw [turn_twice hxl] at HT3
  have HT4 := Lib.hid (fun g w h => trans_yes a c p g p (mulG a b c xs ys) w ha hc hp h (Nat.le_refl _))
  have HM2 := Lib.hid (fun g g' w h1 h2 => mul_fit c b a nb na p g g' nb na (turnD b c ys) (turnD a b xs) w hc hb ha hnb2 hna2 hp2 h1 h2 (Nat.le_refl _) (Nat.le_refl _))
  rw [← turn_mul] at HM2
  have HR1 := Lib.hid (fun w => refRight_calls a b A na ka w)
  have HR2 := Lib.hid (fun w => refRight_calls b c B nb kb w)
  rw [show rightB a b na = true by simp [rightB, hna.out]; omega] at HR1
  rw [show rightB b c nb = true by simp [rightB, hnb.out]; omega] at HR2
  clear hp hxl
  obtain ⟨c0, c1, c2⟩ := S.cells 1 rfl
  obtain ⟨d0, d1, d2⟩ := S.cells 0 rfl
  go_enter Try.func7, Try.ntmps7
  go_wp2_with fail
  refine (HT1.out _ (S.rd 1 rfl)).mono ?_
  rintro e w1 ⟨g1, rfl, ho, hb1⟩
  replace S := ((S.go hb1).add ho.rd).box [.int .i64 (b : Int), .int .i64 (a : Int), .slice g1 na na]
  clear hb1 ho c0 c1 c2 d0 d1 d2
  obtain ⟨d0, d1, d2⟩ := S.cells 1 rfl
  go_wp2_with fail
  refine (HT2.out _ (S.rd 1 rfl)).mono ?_
  rintro e w2 ⟨g2, rfl, ho, hb1⟩
  replace S := ((S.go hb1).add ho.rd).box [.int .i64 (c : Int), .int .i64 (b : Int), .slice g2 nb nb]
  clear hb1 ho d0 d1 d2
  obtain ⟨c0, c1, c2⟩ := S.cells 3 rfl
  obtain ⟨d0, d1, d2⟩ := S.cells 2 rfl
  go_wp2_with fail
  refine (HM1.out _ (S.rd 3 rfl) (S.rd 2 rfl)).mono ?_
  rintro e w3 ⟨g3, rfl, ho, hb1⟩
  replace S := ((S.go hb1).add ho.rd).box [.int .i64 (a : Int), .int .i64 (c : Int), .slice g3 p p]
  clear hb1 ho c0 c1 c2 d0 d1 d2 HT1 HT2 HM1
  obtain ⟨c0, c1, c2⟩ := S.cells 4 rfl
  obtain ⟨d0, d1, d2⟩ := S.cells 3 rfl
  obtain ⟨e0, e1, e2⟩ := S.cells 2 rfl
  go_wp2_with (go_at_call 18; (first | (with_reducible refine (HR1.out _).mono ?_) | (with_reducible refine (HR2.out _).mono ?_)); rintro e w4 ⟨rfl, hb1⟩; replace S := S.go hb1; clear hb1 c0 c1 c2 d0 d1 d2 e0 e1 e2; obtain ⟨c0, c1, c2⟩ := S.cells 4 rfl; obtain ⟨d0, d1, d2⟩ := S.cells 3 rfl; obtain ⟨e0, e1, e2⟩ := S.cells 2 rfl)
  refine (HT3.out _ _ (S.rd 2 rfl)).mono ?_
  rintro e w5 ⟨g5, rfl, ho, hb1⟩
  replace S := ((S.go hb1).add ho.rd).box [.int .i64 (a : Int), .int .i64 (b : Int), .slice g5 na na]
  clear hb1 ho c0 c1 c2 d0 d1 d2 e0 e1 e2
  obtain ⟨c0, c1, c2⟩ := S.cells 1 rfl
  go_wp2_with fail
  refine (HT4.out _ _ (S.rd 1 rfl)).mono ?_
  rintro e w6 ⟨g6, rfl, ho, hb1⟩
  replace S := ((S.go hb1).add ho.rd).box [.int .i64 (c : Int), .int .i64 (a : Int), .slice g6 p p]
  clear hb1 ho c0 c1 c2
  obtain ⟨c0, c1, c2⟩ := S.cells 3 rfl
  obtain ⟨d0, d1, d2⟩ := S.cells 4 rfl
  go_wp2_with fail
  refine (HM2.out _ _ _ (S.rd 3 rfl) (S.rd 4 rfl)).mono ?_
  rintro e w7 ⟨g7, rfl, ho, hb1⟩
  replace S := ((S.go hb1).add ho.rd).box [.int .i64 (c : Int), .int .i64 (a : Int), .slice g7 p p]
  clear hb1 ho c0 c1 c2 d0 d1 d2
  obtain ⟨c0, c1, c2⟩ := S.cells 2 rfl
  obtain ⟨d0, d1, d2⟩ := S.cells 7 rfl
  obtain ⟨e0, e1, e2⟩ := S.cells 1 rfl
  obtain ⟨f0, f1, f2⟩ := S.cells 0 rfl
  have HL1 := Lib.hid (fun w h1 h2 => like_self a b g5 na na A na ka xs w h1 h2)
  have HL2 := Lib.hid (fun w h1 h2 => like_self c a g6 p p g7 p p (turnD a c (mulG a b c xs ys)) w h1 h2)
  go_wp2_with (first | (go_at_call 30; refine (anchored_calls _).mono ?_; rintro e w8 ⟨rfl, hb1⟩; replace S := S.go hb1; clear hb1 c0 c1 c2 d0 d1 d2 e0 e1 e2 f0 f1 f2; obtain ⟨c0, c1, c2⟩ := S.cells 2 rfl; obtain ⟨d0, d1, d2⟩ := S.cells 7 rfl; obtain ⟨e0, e1, e2⟩ := S.cells 1 rfl; obtain ⟨f0, f1, f2⟩ := S.cells 0 rfl) | (go_at_call 31; (first | ((with_reducible refine (HL1.out _ ?_ ?_).mono ?_); exact S.rd 2 rfl; exact S.rd 7 rfl) | ((with_reducible refine (HL2.out _ ?_ ?_).mono ?_); exact S.rd 1 rfl; exact S.rd 0 rfl)); rintro e w8 ⟨rfl, hb1⟩; replace S := S.go hb1; clear hb1 c0 c1 c2 d0 d1 d2 e0 e1 e2 f0 f1 f2; obtain ⟨c0, c1, c2⟩ := S.cells 2 rfl; obtain ⟨d0, d1, d2⟩ := S.cells 7 rfl; obtain ⟨e0, e1, e2⟩ := S.cells 1 rfl; obtain ⟨f0, f1, f2⟩ := S.cells 0 rfl))
  go_ret
  exact ⟨rfl, S.below⟩

theorem matrixTurns_calls (ra ca : Int) (A : Option Addr) (na ka : Nat) (xs : List UInt8) (rb cb : Int) (B : Option Addr) (nb kb : Nat) (ys : List UInt8) (w : World)
    (b1 : -9223372036854775808 ≤ ra ∧ ra ≤ 9223372036854775807) (b2 : -9223372036854775808 ≤ ca ∧ ca ≤ 9223372036854775807) (rx : Rd w w.heap.size A na (bVs xs)) (lx : na ≤ ka) (kx : ka ≤ 140737488351232)
    (b3 : -9223372036854775808 ≤ rb ∧ rb ≤ 9223372036854775807) (b4 : -9223372036854775808 ≤ cb ∧ cb ≤ 9223372036854775807) (ry : Rd w w.heap.size B nb (bVs ys)) (ly : nb ≤ kb) (ky : kb ≤ 140737488351232) :
    Calls Try.prog 7 #[mV ra ca A na ka, mV rb cb B nb kb] w fun e w' => e = .returned (.bool true) ∧ Below w.heap.size w w' := by
  by_cases h : mulB ra ca na rb cb nb = true
  · obtain ⟨a, b, c, rfl, rfl, rfl, rfl, h1, h2, h3, h4, h5⟩ := mulB_nat h
    exact turns_yes a b c A na ka xs B nb kb ys w rx lx ry ly h1 h2 h3 (Lib.hid h4) (Lib.hid h5)
  · exact turns_no ra ca A na ka xs rb cb B nb kb ys w rx lx ry ly (by simpa using h)
end Go.Proofs.Ytgcgajeagdaenaa
