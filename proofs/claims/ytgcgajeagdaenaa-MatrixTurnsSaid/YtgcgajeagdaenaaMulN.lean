/- Mul of matrices that do not fit; Mul as one answer. -/
import Derived.Test.YtgcgajeagdaenaaMul
namespace Go.Proofs.Ytgcgajeagdaenaa
open Go.RowKit
set_option linter.unusedVariables false
set_option linter.unusedSimpArgs false

set_option maxRecDepth 100000 in
set_option maxHeartbeats 3200000 in
theorem mul_no (ra ca rb cb : Int) (A B : Option Addr) (na nb cap capb : Nat) (w : World) (h : mulB ra ca na rb cb nb = false) :
    Calls Try.prog 29 #[mV ra ca A na cap, mV rb cb B nb capb] w fun e w' => e = .returned (.tuple #[mV 0 0 none 0 0, .int .i64 3]) ∧ Below w.heap.size w w' := by
  have HR1 := Lib.hid (fun w => right_calls ra ca A na cap w)
  have HR2 := Lib.hid (fun w => right_calls rb cb B nb capb w)
  have S := (((Ctx.start w).box [.int .i64 ra, .int .i64 ca, .slice A na cap]).box [.int .i64 rb, .int .i64 cb, .slice B nb capb]).box [.int .i64 0, .int .i64 0, .slice none 0 0]
  simp only [World.size_alloc] at S
  obtain ⟨c0, c1, c2⟩ := S.cells 2 rfl
  obtain ⟨d0, d1, d2⟩ := S.cells 1 rfl
  obtain ⟨e0, e1, e2, f0, f1, f2⟩ := (S.row 0 rfl).three
  have hsz := S.lt 0 rfl
  have hc : rightB ra ca na = false ∨ (rightB ra ca na = true ∧ rightB rb cb nb = false) ∨ (rightB ra ca na = true ∧ rightB rb cb nb = true ∧ (ca == rb) = false) := by
    unfold mulB at h
    cases h1 : rightB ra ca na
    · exact .inl rfl
    · cases h2 : rightB rb cb nb
      · exact .inr (.inl ⟨rfl, rfl⟩)
      · rw [h1, h2] at h; simp at h; exact .inr (.inr ⟨rfl, rfl, by simpa using h⟩)
  clear h
  go_enter Try.func29, Try.ntmps29
  rcases hc with h1 | ⟨h1, h2⟩ | ⟨h1, h2, h3⟩
  · rw [h1] at HR1
    clear h1
    go_wp2_with (go_at_call 17; refine (HR1.out _).mono ?_; rintro e w1 ⟨rfl, hb⟩; replace S := S.go hb; clear hb c0 c1 c2 d0 d1 d2 e0 e1 e2 f0 f1 f2 hsz; have hsz := S.lt 0 rfl; obtain ⟨c0, c1, c2⟩ := S.cells 2 rfl; obtain ⟨d0, d1, d2⟩ := S.cells 1 rfl; obtain ⟨e0, e1, e2, f0, f1, f2⟩ := (S.row 0 rfl).three)
    exact bodyPost_ret (v := .tuple #[mV 0 0 none 0 0, .int .i64 3]) (by simp [results, Try.results29, go_sem, e0, e1, e2, f0, f1, f2]) rfl ⟨rfl, below_set3 S.below (by omega) _ _ _⟩
  · rw [h1] at HR1
    rw [h2] at HR2
    clear h1 h2
    go_wp2_with (go_at_call 17; (first | (with_reducible refine (HR1.out _).mono ?_) | (with_reducible refine (HR2.out _).mono ?_)); rintro e w1 ⟨rfl, hb⟩; replace S := S.go hb; clear hb c0 c1 c2 d0 d1 d2 e0 e1 e2 f0 f1 f2 hsz; have hsz := S.lt 0 rfl; obtain ⟨c0, c1, c2⟩ := S.cells 2 rfl; obtain ⟨d0, d1, d2⟩ := S.cells 1 rfl; obtain ⟨e0, e1, e2, f0, f1, f2⟩ := (S.row 0 rfl).three)
    exact bodyPost_ret (v := .tuple #[mV 0 0 none 0 0, .int .i64 3]) (by simp [results, Try.results29, go_sem, e0, e1, e2, f0, f1, f2]) rfl ⟨rfl, below_set3 S.below (by omega) _ _ _⟩
  · rw [h1] at HR1
    rw [h2] at HR2
    clear h1 h2
    go_wp2_with (go_at_call 17; (first | (with_reducible refine (HR1.out _).mono ?_) | (with_reducible refine (HR2.out _).mono ?_)); rintro e w1 ⟨rfl, hb⟩; replace S := S.go hb; clear hb c0 c1 c2 d0 d1 d2 e0 e1 e2 f0 f1 f2 hsz; have hsz := S.lt 0 rfl; obtain ⟨c0, c1, c2⟩ := S.cells 2 rfl; obtain ⟨d0, d1, d2⟩ := S.cells 1 rfl; obtain ⟨e0, e1, e2, f0, f1, f2⟩ := (S.row 0 rfl).three)
    exact bodyPost_ret (v := .tuple #[mV 0 0 none 0 0, .int .i64 3]) (by simp [results, Try.results29, go_sem, e0, e1, e2, f0, f1, f2]) rfl ⟨rfl, below_set3 S.below (by omega) _ _ _⟩

def muR (b : Bool) (ra : Int) : Int := if b then ra else 0
def muE (b : Bool) : Int := if b then 0 else 3
def muN (b : Bool) (ra cb : Int) : Nat := if b then ra.toNat * cb.toNat else 0
def muD (b : Bool) (ra ca cb : Int) (xs ys : List UInt8) : List UInt8 := if b then mulG ra.toNat ca.toNat cb.toNat xs ys else []
theorem right_nat {r c : Int} {n : Nat} (h : rightB r c n = true) : ∃ a b : Nat, r = a ∧ c = b ∧ a ≤ 64 ∧ b ≤ 64 ∧ n = a * b := by
  simp [rightB] at h
  refine ⟨r.toNat, c.toNat, by omega, by omega, by omega, by omega, ?_⟩
  apply Int.ofNat_inj.1
  rw [Int.natCast_mul, Int.toNat_of_nonneg h.1.1, Int.toNat_of_nonneg h.2.1.1]
  exact h.2.2
theorem mulB_nat {ra ca rb cb : Int} {na nb : Nat} (h : mulB ra ca na rb cb nb = true) : ∃ a b c : Nat, ra = a ∧ ca = b ∧ rb = b ∧ cb = c ∧ a ≤ 64 ∧ b ≤ 64 ∧ c ≤ 64 ∧ na = a * b ∧ nb = b * c := by
  simp [mulB] at h
  obtain ⟨a, b, h1, h2, h3, h4, h5⟩ := right_nat h.1.1
  obtain ⟨b', c, h6, h7, h8, h9, h10⟩ := right_nat h.1.2
  have := h.2
  obtain rfl : b = b' := by omega
  exact ⟨a, b, c, h1, h2, h6, h7, h3, h4, h9, h5, h10⟩
/-- Mul, whatever comes -/
theorem mul_any (ra ca rb cb : Int) (A B : Option Addr) (na nb cap capb : Nat) (xs ys : List UInt8) (w : World) (hx : Rd w w.heap.size A na (bVs xs)) (hy : Rd w w.heap.size B nb (bVs ys)) (hcap : na ≤ cap) (hcapb : nb ≤ capb) :
    Calls Try.prog 29 #[mV ra ca A na cap, mV rb cb B nb capb] w fun e w' => ∃ g, e = .returned (.tuple #[mV (muR (mulB ra ca na rb cb nb) ra) (muR (mulB ra ca na rb cb nb) cb) g (muN (mulB ra ca na rb cb nb) ra cb) (muN (mulB ra ca na rb cb nb) ra cb), .int .i64 (muE (mulB ra ca na rb cb nb))]) ∧
      OwnB w' w.heap.size g (muN (mulB ra ca na rb cb nb) ra cb) (muN (mulB ra ca na rb cb nb) ra cb) (muD (mulB ra ca na rb cb nb) ra ca cb xs ys) ∧ Below w.heap.size w w' := by
  by_cases h : mulB ra ca na rb cb nb = true
  · rw [h]
    obtain ⟨a, b, c, rfl, rfl, rfl, rfl, h1, h2, h3, rfl, rfl⟩ := mulB_nat h
    refine (mul_yes a b c _ _ _ A B cap capb xs ys w h1 h2 h3 (Lib.hid rfl) (Lib.hid rfl) (Lib.hid rfl) hx hy hcap hcapb).mono ?_
    rintro e w' ⟨g, rfl, hr, hg, hb⟩
    refine ⟨some ⟨g, 0, none⟩, by simp [muR, muE, muN], ?_, hb⟩
    have : a * c ≤ 64 * 64 := Nat.mul_le_mul h1 h3
    simp only [muN, muD, if_true, Int.toNat_natCast]
    exact hr.ownB hg (grid_length _ _ _) (by simp only [maxLen]; omega)
  · have h : mulB ra ca na rb cb nb = false := by simpa using h
    rw [h]
    refine (mul_no ra ca rb cb A B na nb cap capb w h).mono ?_
    rintro e w' ⟨rfl, hb⟩
    exact ⟨none, by simp [muR, muE, muN], ⟨rfl, rfl, .inl ⟨rfl, rfl⟩⟩, hb⟩
end Go.Proofs.Ytgcgajeagdaenaa
