/- The walk of the law MatrixGroups. -/
import Derived.Test.YtgcgajeagdaenaaAnchM
import Derived.Test.YtgcgajeagdaenaaRMatR
namespace Go.Proofs.Ytgcgajeagdaenaa
open Go.RowKit
set_option linter.unusedVariables false
set_option linter.unusedSimpArgs false

theorem mul_groups {a b c d : Nat} {xs ys zs : List UInt8} : mulG a c d (mulG a b c xs ys) zs = mulG a b d xs (mulG b c d ys zs) := by
  refine grid_congr fun i j hi hj => ?_
  unfold mulF
  have h1 : ∀ k, k < c → (mulG a b c xs ys).getD (i * c + k) 0 = sumF b fun l => Gf.mul (xs.getD (i * b + l) 0) (ys.getD (l * c + k) 0) := fun k hk => grid_getD _ hi hk
  have h2 : ∀ l, l < b → (mulG b c d ys zs).getD (l * d + j) 0 = sumF c fun k => Gf.mul (ys.getD (l * c + k) 0) (zs.getD (k * d + j) 0) := fun l hl => grid_getD _ hl hj
  rw [sumF_congr (fun k hk => by rw [h1 k hk, sumF_mul_right]), sumF_congr (n := b) (fun l hl => by rw [h2 l hl, sumF_mul]), sumF_swap]
  exact sumF_congr fun l _ => sumF_congr fun k _ => Gf.mul_assoc _ _ _
theorem muE_yes : muE true = 0 := rfl
theorem muE_no : muE false = 3 := rfl
set_option maxRecDepth 100000 in
set_option maxHeartbeats 3200000 in
/-- shapes that do not fit -/
theorem groups_no (ra ca : Int) (A : Option Addr) (na ka : Nat) (xs : List UInt8) (rb cb : Int) (B : Option Addr) (nb kb : Nat) (ys : List UInt8) (rc cc : Int) (C : Option Addr) (nc kc : Nat) (zs : List UInt8) (w : World)
    (rx : Rd w w.heap.size A na (bVs xs)) (lx : na ≤ ka) (ry : Rd w w.heap.size B nb (bVs ys)) (ly : nb ≤ kb) (rz : Rd w w.heap.size C nc (bVs zs)) (lz : nc ≤ kc)
    (E1 E2 : Int) (b1 b2 b3 b4 b5 : Bool) (he1 : muE (mulB ra ca na rb cb nb) = E1) (he2 : muE (mulB rb cb nb rc cc nc) = E2) (hb1 : rightB ra ca na = b1) (hb2 : rightB rb cb nb = b2) (hb3 : rightB rc cc nc = b3) (hb4 : (ca != rb) = b4) (hb5 : (cb != rc) = b5)
    (hcase : (E1 = 3 ∧ b1 = false) ∨ (E1 = 3 ∧ b1 = true ∧ b2 = false) ∨ (E1 = 3 ∧ b1 = true ∧ b2 = true ∧ b3 = false) ∨ (E1 = 0 ∧ E2 = 3 ∧ b1 = true ∧ b2 = true ∧ b3 = false) ∨ (E1 = 3 ∧ b1 = true ∧ b2 = true ∧ b3 = true ∧ b4 = true) ∨ (E1 = 0 ∧ E2 = 3 ∧ b1 = true ∧ b2 = true ∧ b3 = true ∧ b4 = false ∧ b5 = true)) :
    Calls Try.prog 6 #[mV ra ca A na ka, mV rb cb B nb kb, mV rc cc C nc kc] w fun e w' => e = .returned (.bool true) ∧ Below w.heap.size w w' := by
  have S := (((((Ctx.start w).add rx).add ry).add rz).box [.int .i64 ra, .int .i64 ca, .slice A na ka]).box [.int .i64 rb, .int .i64 cb, .slice B nb kb]
  replace S := S.box [.int .i64 rc, .int .i64 cc, .slice C nc kc]
  simp only [World.size_alloc] at S
  have HM1 := Lib.hid (fun w h1 h2 => mul_any ra ca rb cb A B na nb ka kb xs ys w h1 h2 lx ly)
  have HM2 := Lib.hid (fun w h1 h2 => mul_any rb cb rc cc B C nb nc kb kc ys zs w h1 h2 ly lz)
  rw [he1] at HM1
  rw [he2] at HM2
  generalize muR (mulB ra ca na rb cb nb) ra = R1 at HM1
  generalize muR (mulB ra ca na rb cb nb) cb = C1 at HM1
  generalize muN (mulB ra ca na rb cb nb) ra cb = N1 at HM1
  generalize muD (mulB ra ca na rb cb nb) ra ca cb xs ys = D1 at HM1
  generalize muR (mulB rb cb nb rc cc nc) rb = R2 at HM2
  generalize muR (mulB rb cb nb rc cc nc) cc = C2 at HM2
  generalize muN (mulB rb cb nb rc cc nc) rb cc = N2 at HM2
  generalize muD (mulB rb cb nb rc cc nc) rb cb cc ys zs = D2 at HM2
  have HR1 := Lib.hid (fun w => refRight_calls ra ca A na ka w)
  have HR2 := Lib.hid (fun w => refRight_calls rb cb B nb kb w)
  have HR3 := Lib.hid (fun w => refRight_calls rc cc C nc kc w)
  rw [hb1] at HR1
  rw [hb2] at HR2
  rw [hb3] at HR3
  clear he1 he2 hb1 hb2 hb3
  obtain ⟨c0, c1, c2⟩ := S.cells 2 rfl
  obtain ⟨d0, d1, d2⟩ := S.cells 1 rfl
  obtain ⟨e0, e1, e2⟩ := S.cells 0 rfl
  go_enter Try.func6, Try.ntmps6
  go_wp2_with fail
  refine (HM1.out _ (S.rd 2 rfl) (S.rd 1 rfl)).mono ?_
  rintro e w1 ⟨g1, rfl, ho, hb⟩
  replace S := ((S.go hb).add ho.rd).box [.int .i64 R1, .int .i64 C1, .slice g1 N1 N1]
  clear hb ho c0 c1 c2 d0 d1 d2 e0 e1 e2
  obtain ⟨c0, c1, c2⟩ := S.cells 3 rfl
  obtain ⟨d0, d1, d2⟩ := S.cells 2 rfl
  obtain ⟨e0, e1, e2⟩ := S.cells 1 rfl
  go_wp2_with fail
  refine (HM2.out _ (S.rd 2 rfl) (S.rd 1 rfl)).mono ?_
  rintro e w2 ⟨g2, rfl, ho, hb⟩
  replace S := ((S.go hb).add ho.rd).box [.int .i64 R2, .int .i64 C2, .slice g2 N2 N2]
  clear hb ho c0 c1 c2 d0 d1 d2 e0 e1 e2
  obtain ⟨c0, c1, c2⟩ := S.cells 4 rfl
  obtain ⟨d0, d1, d2⟩ := S.cells 3 rfl
  obtain ⟨e0, e1, e2⟩ := S.cells 2 rfl
  clear HM1 HM2
  rcases hcase with ⟨rfl, rfl⟩ | ⟨rfl, rfl, rfl⟩ | ⟨rfl, rfl, rfl, rfl⟩ | ⟨rfl, rfl, rfl, rfl, rfl⟩ | ⟨rfl, rfl, rfl, rfl, rfl⟩ | ⟨rfl, rfl, rfl, rfl, rfl, rfl, rfl⟩
  all_goals
    go_wp2_with (first | (go_at_call 18; (first | (with_reducible refine (HR1.out _).mono ?_) | (with_reducible refine (HR2.out _).mono ?_) | (with_reducible refine (HR3.out _).mono ?_)); rintro e w3 ⟨rfl, hb⟩; replace S := S.go hb; clear hb c0 c1 c2 d0 d1 d2 e0 e1 e2; obtain ⟨c0, c1, c2⟩ := S.cells 4 rfl; obtain ⟨d0, d1, d2⟩ := S.cells 3 rfl; obtain ⟨e0, e1, e2⟩ := S.cells 2 rfl) | (go_at_call 30; refine (anchored_calls _).mono ?_; rintro e w3 ⟨rfl, hb⟩; replace S := S.go hb))
    go_ret
    exact ⟨rfl, S.below⟩

theorem mul_fit (a b c na nb p : Nat) (A B : Option Addr) (cap capb : Nat) (xs ys : List UInt8) (w : World) (h1 : a ≤ 64) (h2 : b ≤ 64) (h3 : c ≤ 64) (hna : Hid (na = a * b)) (hnb : Hid (nb = b * c)) (hp : Hid (p = a * c))
    (hx : Rd w w.heap.size A na (bVs xs)) (hy : Rd w w.heap.size B nb (bVs ys)) (hcap : na ≤ cap) (hcapb : nb ≤ capb) :
    Calls Try.prog 29 #[mV a b A na cap, mV b c B nb capb] w fun e w' => ∃ g, e = .returned (.tuple #[mV a c g p p, .int .i64 0]) ∧ OwnB w' w.heap.size g p p (mulG a b c xs ys) ∧ Below w.heap.size w w' := by
  refine (mul_yes a b c na nb p A B cap capb xs ys w h1 h2 h3 hna hnb hp hx hy hcap hcapb).mono ?_
  rintro e w' ⟨g, rfl, hr, hg, hb⟩
  have : a * c ≤ 64 * 64 := Nat.mul_le_mul h1 h3
  have hpo := hp.out
  exact ⟨some ⟨g, 0, none⟩, rfl, hr.ownB hg (by rw [hpo]; exact grid_length _ _ _) (by simp only [maxLen]; omega), hb⟩
set_option maxRecDepth 100000 in
set_option maxHeartbeats 3200000 in
theorem groups_yes (a b c d : Nat) (A : Option Addr) (na ka : Nat) (xs : List UInt8) (B : Option Addr) (nb kb : Nat) (ys : List UInt8) (C : Option Addr) (nc kc : Nat) (zs : List UInt8) (w : World)
    (rx : Rd w w.heap.size A na (bVs xs)) (lx : na ≤ ka) (ry : Rd w w.heap.size B nb (bVs ys)) (ly : nb ≤ kb) (rz : Rd w w.heap.size C nc (bVs zs)) (lz : nc ≤ kc)
    (ha : a ≤ 64) (hb : b ≤ 64) (hc : c ≤ 64) (hd : d ≤ 64) (hna : Hid (na = a * b)) (hnb : Hid (nb = b * c)) (hnc : Hid (nc = c * d)) :
    Calls Try.prog 6 #[mV a b A na ka, mV b c B nb kb, mV c d C nc kc] w fun e w' => e = .returned (.bool true) ∧ Below w.heap.size w w' := by
  have S := (((((Ctx.start w).add rx).add ry).add rz).box [.int .i64 (a : Int), .int .i64 (b : Int), .slice A na ka]).box [.int .i64 (b : Int), .int .i64 (c : Int), .slice B nb kb]
  replace S := S.box [.int .i64 (c : Int), .int .i64 (d : Int), .slice C nc kc]
  simp only [World.size_alloc] at S
  obtain ⟨p, hp⟩ : ∃ p, p = a * c := ⟨_, rfl⟩
  obtain ⟨q, hq⟩ : ∃ q, q = b * d := ⟨_, rfl⟩
  obtain ⟨s, hs⟩ : ∃ s, s = a * d := ⟨_, rfl⟩
  have HM1 := Lib.hid (fun w h1 h2 => mul_fit a b c na nb p A B ka kb xs ys w ha hb hc hna hnb hp h1 h2 lx ly)
  have HM2 := Lib.hid (fun w h1 h2 => mul_fit b c d nb nc q B C kb kc ys zs w hb hc hd hnb hnc hq h1 h2 ly lz)
  have HM3 := Lib.hid (fun g w h1 h2 => mul_fit a c d p nc s g C p kc (mulG a b c xs ys) zs w ha hc hd hp hnc hs h1 h2 (Nat.le_refl _) lz)
  have HM4 := Lib.hid (fun g w h1 h2 => mul_fit a b d na q s A g ka q xs (mulG b c d ys zs) w ha hb hd hna hq hs h1 h2 lx (Nat.le_refl _))
  rw [← mul_groups] at HM4
  have HR1 := Lib.hid (fun w => refRight_calls a b A na ka w)
  have HR2 := Lib.hid (fun w => refRight_calls b c B nb kb w)
  have HR3 := Lib.hid (fun w => refRight_calls c d C nc kc w)
  rw [show rightB a b na = true by simp [rightB, hna.out]; omega] at HR1
  rw [show rightB b c nb = true by simp [rightB, hnb.out]; omega] at HR2
  rw [show rightB c d nc = true by simp [rightB, hnc.out]; omega] at HR3
  clear hp hq hs
  obtain ⟨c0, c1, c2⟩ := S.cells 2 rfl
  obtain ⟨d0, d1, d2⟩ := S.cells 1 rfl
  obtain ⟨e0, e1, e2⟩ := S.cells 0 rfl
  go_enter Try.func6, Try.ntmps6
  go_wp2_with fail
  refine (HM1.out _ (S.rd 2 rfl) (S.rd 1 rfl)).mono ?_
  rintro e w1 ⟨g1, rfl, ho, hb1⟩
  replace S := ((S.go hb1).add ho.rd).box [.int .i64 (a : Int), .int .i64 (c : Int), .slice g1 p p]
  clear hb1 ho c0 c1 c2 d0 d1 d2 e0 e1 e2
  obtain ⟨c0, c1, c2⟩ := S.cells 3 rfl
  obtain ⟨d0, d1, d2⟩ := S.cells 2 rfl
  obtain ⟨e0, e1, e2⟩ := S.cells 1 rfl
  go_wp2_with fail
  refine (HM2.out _ (S.rd 2 rfl) (S.rd 1 rfl)).mono ?_
  rintro e w2 ⟨g2, rfl, ho, hb1⟩
  replace S := ((S.go hb1).add ho.rd).box [.int .i64 (b : Int), .int .i64 (d : Int), .slice g2 q q]
  clear hb1 ho c0 c1 c2 d0 d1 d2 e0 e1 e2
  obtain ⟨c0, c1, c2⟩ := S.cells 4 rfl
  obtain ⟨d0, d1, d2⟩ := S.cells 3 rfl
  obtain ⟨e0, e1, e2⟩ := S.cells 2 rfl
  obtain ⟨f0, f1, f2⟩ := S.cells 1 rfl
  obtain ⟨i0, i1, i2⟩ := S.cells 0 rfl
  clear HM1 HM2
  go_wp2_with (go_at_call 18; (first | (with_reducible refine (HR1.out _).mono ?_) | (with_reducible refine (HR2.out _).mono ?_) | (with_reducible refine (HR3.out _).mono ?_)); rintro e w3 ⟨rfl, hb1⟩; replace S := S.go hb1; clear hb1 c0 c1 c2 d0 d1 d2 e0 e1 e2 f0 f1 f2 i0 i1 i2; obtain ⟨c0, c1, c2⟩ := S.cells 4 rfl; obtain ⟨d0, d1, d2⟩ := S.cells 3 rfl; obtain ⟨e0, e1, e2⟩ := S.cells 2 rfl; obtain ⟨f0, f1, f2⟩ := S.cells 1 rfl; obtain ⟨i0, i1, i2⟩ := S.cells 0 rfl)
  refine (HM3.out _ _ (S.rd 1 rfl) (S.rd 2 rfl)).mono ?_
  rintro e w4 ⟨g3, rfl, ho, hb1⟩
  replace S := ((S.go hb1).add ho.rd).box [.int .i64 (a : Int), .int .i64 (d : Int), .slice g3 s s]
  clear hb1 ho c0 c1 c2 d0 d1 d2 e0 e1 e2 f0 f1 f2 i0 i1 i2
  obtain ⟨c0, c1, c2⟩ := S.cells 5 rfl
  obtain ⟨i0, i1, i2⟩ := S.cells 1 rfl
  go_wp2_with fail
  refine (HM4.out _ _ (S.rd 5 rfl) (S.rd 1 rfl)).mono ?_
  rintro e w5 ⟨g4, rfl, ho, hb1⟩
  replace S := ((S.go hb1).add ho.rd).box [.int .i64 (a : Int), .int .i64 (d : Int), .slice g4 s s]
  clear hb1 ho c0 c1 c2 i0 i1 i2
  obtain ⟨c0, c1, c2⟩ := S.cells 1 rfl
  obtain ⟨d0, d1, d2⟩ := S.cells 0 rfl
  go_wp2_with (go_at_call 30; refine (anchored_calls _).mono ?_; rintro e w6 ⟨rfl, hb1⟩; replace S := S.go hb1; clear hb1 c0 c1 c2 d0 d1 d2; obtain ⟨c0, c1, c2⟩ := S.cells 1 rfl; obtain ⟨d0, d1, d2⟩ := S.cells 0 rfl)
  refine (like_self a d g3 s s g4 s s (mulG a c d (mulG a b c xs ys) zs) _ (S.rd 1 rfl) (S.rd 0 rfl)).mono ?_
  rintro e w7 ⟨rfl, hb1⟩
  replace S := S.go hb1
  go_wp2_with fail
  go_ret
  exact ⟨rfl, S.below⟩

theorem matrixGroups_calls (ra ca : Int) (A : Option Addr) (na ka : Nat) (xs : List UInt8) (rb cb : Int) (B : Option Addr) (nb kb : Nat) (ys : List UInt8) (rc cc : Int) (C : Option Addr) (nc kc : Nat) (zs : List UInt8) (w : World)
    (b1 : -9223372036854775808 ≤ ra ∧ ra ≤ 9223372036854775807) (b2 : -9223372036854775808 ≤ ca ∧ ca ≤ 9223372036854775807) (rx : Rd w w.heap.size A na (bVs xs)) (lx : na ≤ ka) (kx : ka ≤ 140737488351232)
    (b3 : -9223372036854775808 ≤ rb ∧ rb ≤ 9223372036854775807) (b4 : -9223372036854775808 ≤ cb ∧ cb ≤ 9223372036854775807) (ry : Rd w w.heap.size B nb (bVs ys)) (ly : nb ≤ kb) (ky : kb ≤ 140737488351232)
    (b5 : -9223372036854775808 ≤ rc ∧ rc ≤ 9223372036854775807) (b6 : -9223372036854775808 ≤ cc ∧ cc ≤ 9223372036854775807) (rz : Rd w w.heap.size C nc (bVs zs)) (lz : nc ≤ kc) (kz : kc ≤ 140737488351232) :
    Calls Try.prog 6 #[mV ra ca A na ka, mV rb cb B nb kb, mV rc cc C nc kc] w fun e w' => e = .returned (.bool true) ∧ Below w.heap.size w w' := by
  by_cases h : mulB ra ca na rb cb nb = true ∧ mulB rb cb nb rc cc nc = true
  · obtain ⟨a, b, c, rfl, rfl, rfl, rfl, h1, h2, h3, h4, h5⟩ := mulB_nat h.1
    obtain ⟨b', c', d, e1, e2, e3, rfl, _, _, h6, _, h8⟩ := mulB_nat h.2
    obtain rfl : c = c' := by omega
    subst e3
    exact groups_yes a b c d A na ka xs B nb kb ys C nc kc zs w rx lx ry ly rz lz h1 h2 h3 h6 (Lib.hid h4) (Lib.hid h5) (Lib.hid h8)
  · refine groups_no ra ca A na ka xs rb cb B nb kb ys rc cc C nc kc zs w rx lx ry ly rz lz _ _ _ _ _ _ _ rfl rfl rfl rfl rfl rfl rfl ?_
    unfold mulB at h ⊢
    cases hA : rightB ra ca na <;> cases hB : rightB rb cb nb <;> cases hC : rightB rc cc nc <;> cases hq : (ca == rb) <;> cases hr : (cb == rc) <;> simp [muE, hA, hB, hC, hq, hr, bne] at h ⊢
end Go.Proofs.Ytgcgajeagdaenaa
