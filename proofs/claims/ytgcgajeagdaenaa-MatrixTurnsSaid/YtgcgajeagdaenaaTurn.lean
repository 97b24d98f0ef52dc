/- The walk of turned. -/
import Derived.Test.YtgcgajeagdaenaaCtx2
import Derived.Test.YtgcgajeagdaenaaGrid
import Derived.Test.YtgcgajeagdaenaaMatB
import Derived.Test.YtgcgajeagdaenaaMatRow
import Derived.Deep.RegionHeld3
namespace Go.Proofs.Ytgcgajeagdaenaa
open Go.RowKit
set_option linter.unusedVariables false
set_option linter.unusedSimpArgs false

def atF (c : Nat) (xs : List UInt8) (i j : Nat) : UInt8 := xs.getD (i * c + j) 0
def turnF (c : Nat) (xs : List UInt8) (j i : Nat) : UInt8 := xs.getD (i * c + j) 0
def turnD (r c : Nat) (xs : List UInt8) : List UInt8 := gridD c r (turnF c xs)
set_option maxRecDepth 100000 in
set_option maxHeartbeats 3200000 in
theorem turned_calls (r c n : Nat) (A : Option Addr) (cap : Nat) (xs : List UInt8) (w : World) (hr : r ≤ 64) (hc : c ≤ 64) (hn : Hid (n = r * c)) (hrd : Rd w w.heap.size A n (bVs xs)) (hcap : n ≤ cap) :
    Calls Try.prog 50 #[mV r c A n cap] w fun e w' => ∃ g, e = .returned (mV c r (some ⟨g, 0, none⟩) n n) ∧ Row w' g 5 (bVs (turnD r c xs)) ∧ w.heap.size ≤ g ∧ Below w.heap.size w w' := by
  have hn2 : Hid (n = c * r) := Lib.hid (by rw [hn.out, Nat.mul_comm])
  have S := ((Ctx.start w).box [.int .i64 r, .int .i64 c, .slice A n cap]).box [.int .i64 0, .int .i64 0, .slice none 0 0]
  obtain ⟨c0, c1, c2⟩ := S.cells 1 rfl
  go_enter Try.func50, Try.ntmps50
  go_wp2_with fail
  refine (blank_row c r n _ hc hr hn2).mono ?_
  rintro e w1 ⟨gt, rfl, hrow, hgt, hb⟩
  have hs := hb.size
  have hgl := hrow.lt
  simp at hs hgt
  replace S := (S.go hb).box [.int .i64 (c : Int), .int .i64 (r : Int), .slice (some ⟨gt, 0, none⟩) n n]
  replace hrow := hrow.alloc (.cells #[.int .i64 (c : Int), .int .i64 (r : Int), .slice (some ⟨gt, 0, none⟩) n n] 24)
  rw [World.size_alloc] at S
  obtain ⟨BS, hBS⟩ : ∃ BS : List (Nat × List Value), BS = [(w1.heap.size, [.int .i64 (c : Int), .int .i64 (r : Int), .slice (some ⟨gt, 0, none⟩) n n]), (w.heap.size + 1, [.int .i64 0, .int .i64 0, .slice none 0 0]), (w.heap.size, [.int .i64 r, .int .i64 c, .slice A n cap])] := ⟨_, rfl⟩
  rw [← hBS] at S
  have HC := Lib.hid (show ∀ x : World, Ctx w x BS [] → x.cell? ⟨w.heap.size, 0, none⟩ = some (.int .i64 r) ∧ x.cell? ⟨w.heap.size, 1, none⟩ = some (.int .i64 c) ∧ x.cell? ⟨w.heap.size, 2, none⟩ = some (.slice A n cap) ∧ x.cell? ⟨w1.heap.size, 0, none⟩ = some (.int .i64 c) ∧ x.cell? ⟨w1.heap.size, 1, none⟩ = some (.int .i64 r) ∧ x.cell? ⟨w1.heap.size, 2, none⟩ = some (.slice (some ⟨gt, 0, none⟩) n n) by
    rw [hBS]
    exact fun x q => ⟨(q.cells 2 rfl).1, (q.cells 2 rfl).2.1, (q.cells 2 rfl).2.2, (q.cells 0 rfl).1, (q.cells 0 rfl).2.1, (q.cells 0 rfl).2.2⟩)
  have HE := Lib.hid (show ∀ x : World, Ctx w x BS [] → Row x (w.heap.size + 1) 24 [.int .i64 0, .int .i64 0, .slice none 0 0] by rw [hBS]; exact fun x q => q.row 1 rfl)
  have HSET := Lib.hid (show ∀ (x : World) (q : Nat) (v : Value), Ctx w x BS [] → Ctx w (x.setCell ⟨gt, q, none⟩ v) BS [] by
    intro x q v h
    refine h.set (p := ⟨gt, q, none⟩) (by simp; omega) ?_ v
    rw [hBS]
    simp
    omega)
  clear hBS c0 c1 c2 hb
  obtain ⟨c0, c1, c2, d0, d1, d2⟩ := HC.out _ S
  have HF0 := fillC_start c r (turnF c xs)
  rw [← hn2.out] at HF0
  rw [HF0] at hrow
  have HS := Lib.hid S
  have HROW := Lib.hid hrow
  clear S hrow HF0
  go_wp2_with fail
  go_loopw [13] (fun v13 wr => ∃ i : Nat, i ≤ r ∧ v13 = .int .i64 (i : Int) ∧ Row wr gt 5 (bVs (fillC c r (turnF c xs) i 0)) ∧ Ctx w wr BS []) (fun v13 _ => r - (intOf v13).toNat)
  case atStart => exact ⟨0, by omega, rfl, HROW.out, HS.out⟩
  case round =>
    obtain ⟨i, hi, rfl, hrow, S⟩ := hrel
    clear HROW HS c0 c1 c2 d0 d1 d2
    obtain ⟨wo, rfl⟩ : ∃ wo : World, wo = wr := ⟨_, rfl⟩
    obtain ⟨c0, c1, c2, d0, d1, d2⟩ := HC.out _ S
    have HS := Lib.hid S
    have HROW := Lib.hid hrow
    clear S hrow
    by_cases hlt : i < r
    · go_wp2_with fail
      clear c0 c1 c2 d0 d1 d2
      go_loopw [18] (fun v18 wr => ∃ j : Nat, j ≤ c ∧ v18 = .int .i64 (j : Int) ∧ Row wr gt 5 (bVs (fillC c r (turnF c xs) i j)) ∧ Ctx w wr BS []) (fun v18 _ => c - (intOf v18).toNat)
      case atStart => exact ⟨0, by omega, rfl, HROW.out, HS.out⟩
      case round =>
        obtain ⟨j, hj, rfl, hrow, S⟩ := hrel
        clear HROW HS
        obtain ⟨c0, c1, c2, d0, d1, d2⟩ := HC.out _ S
        by_cases hlj : j < c
        · have HF := Lib.hid (fillC_set (R := c) (C := r) (i := j) (j := i) (turnF c xs) hlj hlt)
          obtain ⟨new, hnew⟩ : ∃ new, new = fillC c r (turnF c xs) i (j + 1) := ⟨_, rfl⟩
          rw [← hnew] at HF
          have HNEW := Lib.hid hnew
          have hlen := fillC_length c r i j (turnF c xs)
          have hq := place_lt hlj hlt
          have hp := place_lt hlt hlj
          obtain ⟨v, hv⟩ : ∃ v, v = xs.getD (i * c + j) 0 := ⟨_, rfl⟩
          have HV := Lib.hid hv
          rw [show turnF c xs j i = v from hv.symm] at HF
          have e1 : (i + 1) * c = i * c + c := by rw [Nat.add_mul]; omega
          have e2 : (j + 1) * r = j * r + r := by rw [Nat.add_mul]; omega
          have hk1 : i * c + c ≤ n := by rw [hn.out, ← e1]; exact Nat.mul_le_mul_right c hlt
          have hk2 : j * r + r ≤ n := by rw [hn2.out, ← e2]; exact Nat.mul_le_mul_right r hlj
          rw [← hn.out] at hp
          rw [← hn2.out] at hq hlen
          obtain ⟨kr, hkr⟩ : ∃ k, k = i * c := ⟨_, rfl⟩
          obtain ⟨kt, hkt⟩ : ∃ k, k = j * r := ⟨_, rfl⟩
          have HR1 := Lib.hid (fun w => row_calls c r j (some ⟨gt, 0, none⟩) n n kt (kt + r) w hc hr hlj hkt (Lib.hid (by rw [hkt]; exact e2.symm)) (by rw [hkt]; exact hk2) (Nat.le_refl _))
          have HR2 := Lib.hid (fun w => row_calls r c i A n cap kr (kr + c) w hr hc hlt hkr (Lib.hid (by rw [hkr]; exact e1.symm)) (by rw [hkr]; exact hk1) hcap)
          rw [rowA_plain (by omega), Nat.zero_add] at HR1
          rw [← hkr] at hp hv hk1
          rw [← hkt] at hq hk2 HF
          clear hkr hkt e1 e2 hnew HV
          obtain ⟨g, o, rfl, hg, hcell⟩ := rd_get hrd hp
          rw [← hv, ← Nat.add_assoc] at hcell
          rw [rowA_plain (by omega)] at HR2
          clear hv
          obtain ⟨P, hP⟩ : ∃ P : World → Prop, P = fun x => Ctx w x BS [] ∧ CurS x gt (kt + i) v new := ⟨_, rfl⟩
          have hp0 : P wr := by rw [hP]; exact ⟨S, _, by rw [hlen]; exact hq, HF.out, hrow⟩
          obtain ⟨cur, hcur⟩ : ∃ cur : World → Value, ∀ x, P x → x.cell? ⟨gt, kt + i, none⟩ = some (cur x) := by
            refine ⟨fun x => (x.cell? ⟨gt, kt + i, none⟩).getD (.bool false), fun x hx => ?_⟩
            rw [hP] at hx
            obtain ⟨old, h⟩ := hx.2.cell
            simp [h]
          have HG := Lib.hid (show ∀ x y : World, P x → Below x.heap.size x y → P y by rw [hP]; exact fun x y q hb => ⟨q.1.go hb, q.2.go hb⟩)
          have HD := Lib.hid (show ∀ x : World, P x → P x.drew by rw [hP]; exact fun x q => ⟨q.1.drew, q.2.drew⟩)
          have HST := Lib.hid (show ∀ x : World, P x → P (x.setCell ⟨gt, kt + i, none⟩ (.int .u8 (v.toNat : Int))) by rw [hP]; exact fun x q => ⟨HSET.out _ _ _ q.1, q.2.set⟩)
          have HCC := Lib.hid (show ∀ x : World, P x → x.cell? ⟨w.heap.size, 0, none⟩ = some (.int .i64 r) ∧ x.cell? ⟨w.heap.size, 1, none⟩ = some (.int .i64 c) ∧ x.cell? ⟨w.heap.size, 2, none⟩ = some (.slice (some ⟨g, o, none⟩) n cap) ∧ x.cell? ⟨w1.heap.size, 0, none⟩ = some (.int .i64 c) ∧ x.cell? ⟨w1.heap.size, 1, none⟩ = some (.int .i64 r) ∧ x.cell? ⟨w1.heap.size, 2, none⟩ = some (.slice (some ⟨gt, 0, none⟩) n n) ∧ x.cell? ⟨g, o + kr + j, none⟩ = some (.int .u8 (v.toNat : Int)) ∧ x.cell? ⟨gt, kt + i, none⟩ = some (cur x) ∧ x.frozen? ⟨gt, kt + i, none⟩ = false by
            intro x q
            have h := hcur x q
            rw [hP] at q
            obtain ⟨q1, q2, q3, q4, q5, q6⟩ := HC.out x q.1
            exact ⟨q1, q2, q3, q4, q5, q6, (q.1.below.cell (p := ⟨g, o + kr + j, none⟩) hg).trans hcell, h, q.2.frozen⟩)
          have HALL := Lib.hid (show ∀ x : World, P (x.setCell ⟨gt, kt + i, none⟩ (.int .u8 (v.toNat : Int))) → Ctx w (x.setCell ⟨gt, kt + i, none⟩ (.int .u8 (v.toNat : Int))) BS [] ∧ Row (x.setCell ⟨gt, kt + i, none⟩ (.int .u8 (v.toNat : Int))) gt 5 (bVs new) by rw [hP]; exact fun x q => ⟨q.1, q.2.fin⟩)
          clear hP hcur S hrow hcell
          go_wp2_with fail
          have hc := HCC.out _ hp0
          go_region_held3 (fun x => P x ∧ x.cell? ⟨w.heap.size, 0, none⟩ = some (.int .i64 r) ∧ x.cell? ⟨w.heap.size, 1, none⟩ = some (.int .i64 c) ∧ x.cell? ⟨w.heap.size, 2, none⟩ = some (.slice (some ⟨g, o, none⟩) n cap) ∧ x.cell? ⟨w1.heap.size, 0, none⟩ = some (.int .i64 c) ∧ x.cell? ⟨w1.heap.size, 1, none⟩ = some (.int .i64 r) ∧ x.cell? ⟨w1.heap.size, 2, none⟩ = some (.slice (some ⟨gt, 0, none⟩) n n) ∧ x.cell? ⟨g, o + kr + j, none⟩ = some (.int .u8 (v.toNat : Int)) ∧ x.cell? ⟨gt, kt + i, none⟩ = some (cur x) ∧ x.frozen? ⟨gt, kt + i, none⟩ = false)
            (first | (go_split_ands; have q := HG.out _ _ (by assumption) hbk; exact ⟨q, HCC.out _ q⟩) | (go_split_ands; have q := HST.out _ (by assumption); exact ⟨q, HCC.out _ q⟩) | (go_split_ands; have q := HD.out _ (by assumption); exact ⟨q, HCC.out _ q⟩))
            (first | (go_at_call 46; (first | (with_reducible refine (HR1.out _).mono ?_) | (with_reducible refine (HR2.out _).mono ?_)); rintro e wk ⟨rfl, hbk⟩))
          go_wp2_with fail
          go_split_ands
          go_roundw
          case rel => exact ⟨j + 1, by omega, by go_num, by rw [← HNEW.out]; exact (HALL.out _ (by assumption)).2, (HALL.out _ (by assumption)).1⟩
          case measure => simp [intOf]; omega
        · obtain rfl : j = c := by omega
          have HN := Lib.hid (fillC_next j r i (turnF j xs))
          go_wp2_with fail
          go_roundw
          case rel => exact ⟨i + 1, by omega, by go_num, by rw [← HN.out]; exact hrow, S⟩
          case measure => simp [intOf]; omega
    · obtain rfl : i = r := by omega
      obtain ⟨e0, e1, e2, f0, f1, f2⟩ := (HE.out _ HS.out).three
      have HN := Lib.hid (fillC_end c i (turnF c xs))
      go_wp2_with fail
      refine bodyPost_ret (v := mV c i (some ⟨gt, 0, none⟩) n n) (by simp [results, Try.results50, go_sem, e0, e1, e2]) rfl ⟨gt, rfl, ?_, by omega, below_set3 HS.out.below (by omega) _ _ _⟩
      have h := HROW.out
      rw [HN.out] at h
      exact h.far3 (by omega) _ _ _
end Go.Proofs.Ytgcgajeagdaenaa
