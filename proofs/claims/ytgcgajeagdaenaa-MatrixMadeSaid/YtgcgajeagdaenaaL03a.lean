/- The walk of the law MatrixMade. -/
import Derived.Test.YtgcgajeagdaenaaMatI
import Derived.Test.YtgcgajeagdaenaaRMatI
import Derived.Test.YtgcgajeagdaenaaLike3
import Derived.Test.YtgcgajeagdaenaaCtx
import Derived.Test.YtgcgajeagdaenaaRMatR
import Derived.Deep.RegionHeld3
namespace Go.Proofs.Ytgcgajeagdaenaa
open Go.RowKit
set_option linter.unusedVariables false
set_option linter.unusedSimpArgs false

def mkR (r c : Int) : Int := if makeB r c then r else 0
def mkC (r c : Int) : Int := if makeB r c then c else 0
def mkN (r c : Int) : Nat := if makeB r c then (r * c).toNat else 0
def mkE (r c : Int) : Int := if makeB r c then 0 else 2
def idD (n : Int) : List UInt8 := if makeB n n then idTo n.toNat n.toNat else []
theorem mkN_nat {r c : Nat} (h : makeB r c = true) : mkN r c = r * c := by
  unfold mkN
  rw [if_pos h, ← Int.natCast_mul, Int.toNat_natCast]
theorem make_any (r c : Int) (w : World) :
    Calls Try.prog 13 #[.int .i64 r, .int .i64 c] w fun e w' => ∃ A, e = .returned (.tuple #[mV (mkR r c) (mkC r c) A (mkN r c) (mkN r c), .int .i64 (mkE r c)]) ∧ OwnB w' w.heap.size A (mkN r c) (mkN r c) (List.replicate (mkN r c) 0) ∧ Below w.heap.size w w' := by
  by_cases h : makeB r c = true
  · obtain ⟨a, b, rfl, rfl, ha, hb⟩ := makeB_yes h
    refine (make_yes a b (mkN a b) w ha hb (mkN_nat h)).mono ?_
    rintro e w' ⟨A, rfl, ho, hb⟩
    exact ⟨A, by simp [mkR, mkC, mkE, h], ho, hb⟩
  · have h : makeB r c = false := by simpa using h
    refine (make_no r c w h).mono ?_
    rintro e w' ⟨rfl, hb⟩
    exact ⟨none, by simp [mkR, mkC, mkE, mkN, h], by simp [mkN, h]; exact ⟨rfl, rfl, .inl ⟨rfl, rfl⟩⟩, hb⟩
theorem refMake_any (r c : Int) (w : World) :
    Calls Try.prog 14 #[.int .i64 r, .int .i64 c] w fun e w' => ∃ A, e = .returned (.tuple #[mV (mkR r c) (mkC r c) A (mkN r c) (mkN r c), .int .i64 (mkE r c)]) ∧ OwnB w' w.heap.size A (mkN r c) (mkN r c) (List.replicate (mkN r c) 0) ∧ Below w.heap.size w w' := by
  by_cases h : makeB r c = true
  · obtain ⟨a, b, rfl, rfl, ha, hb⟩ := makeB_yes h
    refine (refMake_yes a b (mkN a b) w ha hb (mkN_nat h)).mono ?_
    rintro e w' ⟨A, rfl, ho, hb⟩
    exact ⟨A, by simp [mkR, mkC, mkE, h], ho, hb⟩
  · have h : makeB r c = false := by simpa using h
    refine (refMake_no r c w h).mono ?_
    rintro e w' ⟨rfl, hb⟩
    exact ⟨none, by simp [mkR, mkC, mkE, mkN, h], by simp [mkN, h]; exact ⟨rfl, rfl, .inl ⟨rfl, rfl⟩⟩, hb⟩
theorem identity_any (n : Int) (w : World) :
    Calls Try.prog 15 #[.int .i64 n] w fun e w' => ∃ A, e = .returned (.tuple #[mV (mkR n n) (mkC n n) A (mkN n n) (mkN n n), .int .i64 (mkE n n)]) ∧ OwnB w' w.heap.size A (mkN n n) (mkN n n) (idD n) ∧ Below w.heap.size w w' := by
  by_cases h : makeB n n = true
  · obtain ⟨a, b, rfl, h2, ha, hb⟩ := makeB_yes h
    refine (identity_yes a (mkN a a) w ha (mkN_nat h)).mono ?_
    rintro e w' ⟨A, rfl, ho, hb⟩
    exact ⟨A, by simp [mkR, mkC, mkE, h], by simpa [idD, h] using ho, hb⟩
  · have h : makeB n n = false := by simpa using h
    refine (identity_no n w h).mono ?_
    rintro e w' ⟨rfl, hb⟩
    exact ⟨none, by simp [mkR, mkC, mkE, mkN, h], by simp [mkN, idD, h]; exact ⟨rfl, rfl, .inl ⟨rfl, rfl⟩⟩, hb⟩
theorem refIdentity_any (n : Int) (w : World) :
    Calls Try.prog 16 #[.int .i64 n] w fun e w' => ∃ A, e = .returned (.tuple #[mV (mkR n n) (mkC n n) A (mkN n n) (mkN n n), .int .i64 (mkE n n)]) ∧ OwnB w' w.heap.size A (mkN n n) (mkN n n) (idD n) ∧ Below w.heap.size w w' := by
  by_cases h : makeB n n = true
  · obtain ⟨a, b, rfl, h2, ha, hb⟩ := makeB_yes h
    refine (refIdentity_yes a (mkN a a) w ha (mkN_nat h)).mono ?_
    rintro e w' ⟨A, rfl, ho, hb⟩
    exact ⟨A, by simp [mkR, mkC, mkE, h], by simpa [idD, h] using ho, hb⟩
  · have h : makeB n n = false := by simpa using h
    refine (refIdentity_no n w h).mono ?_
    rintro e w' ⟨rfl, hb⟩
    exact ⟨none, by simp [mkR, mkC, mkE, mkN, h], by simp [mkN, idD, h]; exact ⟨rfl, rfl, .inl ⟨rfl, rfl⟩⟩, hb⟩

set_option maxRecDepth 100000 in
set_option maxHeartbeats 3200000 in
theorem matrixMade_calls (r c : Int) (A : Option Addr) (n cap : Nat) (xs : List UInt8) (rows cols : Int) (w : World) (br : -9223372036854775808 ≤ r ∧ r ≤ 9223372036854775807) (bc : -9223372036854775808 ≤ c ∧ c ≤ 9223372036854775807) (rd : Rd w w.heap.size A n (bVs xs)) (lc : n ≤ cap) (cr : cap ≤ 140737488351232)
    (h1 : -9223372036854775808 ≤ rows) (h2 : rows ≤ 9223372036854775807) (h3 : -9223372036854775808 ≤ cols) (h4 : cols ≤ 9223372036854775807) :
    Calls Try.prog 3 #[mV r c A n cap, .int .i64 rows, .int .i64 cols] w fun e w' => e = .returned (.bool true) ∧ Below w.heap.size w w' := by
  clear br bc rd lc cr h1 h2 h3 h4
  have S := (Ctx.start w).box [.int .i64 r, .int .i64 c, .slice A n cap]
  have HM1 := Lib.hid (make_any rows cols)
  have HM2 := Lib.hid (refMake_any rows cols)
  have HI1 := Lib.hid (identity_any rows)
  have HI2 := Lib.hid (refIdentity_any rows)
  generalize mkR rows cols = R at *
  generalize mkC rows cols = C at *
  generalize mkE rows cols = E at *
  generalize mkN rows cols = N at *
  generalize mkR rows rows = R' at *
  generalize mkC rows rows = C' at *
  generalize mkE rows rows = E' at *
  generalize mkN rows rows = N' at *
  generalize idD rows = ids at *
  generalize List.replicate N (0 : UInt8) = zs at *
  go_enter Try.func3, Try.ntmps3
  go_wp2_with fail
  refine (HM1.out _).mono ?_; rintro e w1 ⟨A1, rfl, ho, hb⟩
  replace S := ((S.go hb).add ho.rd).box [.int .i64 R, .int .i64 C, .slice A1 N N]; clear ho hb
  go_wp2_with fail
  refine (HM2.out _).mono ?_; rintro e w2 ⟨A2, rfl, ho, hb⟩
  replace S := ((S.go hb).add ho.rd).box [.int .i64 R, .int .i64 C, .slice A2 N N]; clear ho hb
  go_wp2_with fail
  refine (HI1.out _).mono ?_; rintro e w3 ⟨A3, rfl, ho, hb⟩
  replace S := ((S.go hb).add ho.rd).box [.int .i64 R', .int .i64 C', .slice A3 N' N']; clear ho hb
  go_wp2_with fail
  refine (HI2.out _).mono ?_; rintro e w4 ⟨A4, rfl, ho, hb⟩
  replace S := ((S.go hb).add ho.rd).box [.int .i64 R', .int .i64 C', .slice A4 N' N']; clear ho hb
  go_wp2_with fail
  generalize hwz : w4.alloc (Obj.cells [Value.int .i64 R', Value.int .i64 C', Value.slice A4 N' N'].toArray 24) = wz at S ⊢
  obtain ⟨P, hP⟩ : ∃ P : World → Prop, P = fun w' => Ctx w w' [(w4.heap.size, [.int .i64 R', .int .i64 C', .slice A4 N' N']), (w3.heap.size, [.int .i64 R', .int .i64 C', .slice A3 N' N']), (w2.heap.size, [.int .i64 R, .int .i64 C, .slice A2 N N]), (w1.heap.size, [.int .i64 R, .int .i64 C, .slice A1 N N]), (w.heap.size, [.int .i64 r, .int .i64 c, .slice A n cap])] [(A4, N', ids), (A3, N', ids), (A2, N, zs), (A1, N, zs)] := ⟨_, rfl⟩
  have hp0 : P wz := by rw [hP]; exact S
  have hp := hp0
  rw [hP] at hp
  have HG := Lib.hid (show ∀ x y : World, P x → Below x.heap.size x y → P y by rw [hP]; exact fun x y q hb => q.go hb)
  have HD := Lib.hid (show ∀ x : World, P x → P x.drew by rw [hP]; exact fun x q => q.drew)
  have HC := Lib.hid (show ∀ w' : World, P w' → w'.cell? ⟨w.heap.size, 0, none⟩ = some (.int .i64 r) ∧ w'.cell? ⟨w.heap.size, 1, none⟩ = some (.int .i64 c) ∧ w'.cell? ⟨w.heap.size, 2, none⟩ = some (.slice A n cap) ∧ w'.cell? ⟨w1.heap.size, 0, none⟩ = some (.int .i64 R) ∧ w'.cell? ⟨w1.heap.size, 1, none⟩ = some (.int .i64 C) ∧ w'.cell? ⟨w1.heap.size, 2, none⟩ = some (.slice A1 N N) ∧ w'.cell? ⟨w2.heap.size, 0, none⟩ = some (.int .i64 R) ∧ w'.cell? ⟨w2.heap.size, 1, none⟩ = some (.int .i64 C) ∧ w'.cell? ⟨w2.heap.size, 2, none⟩ = some (.slice A2 N N) ∧ w'.cell? ⟨w3.heap.size, 0, none⟩ = some (.int .i64 R') ∧ w'.cell? ⟨w3.heap.size, 1, none⟩ = some (.int .i64 C') ∧ w'.cell? ⟨w3.heap.size, 2, none⟩ = some (.slice A3 N' N') ∧ w'.cell? ⟨w4.heap.size, 0, none⟩ = some (.int .i64 R') ∧ w'.cell? ⟨w4.heap.size, 1, none⟩ = some (.int .i64 C') ∧ w'.cell? ⟨w4.heap.size, 2, none⟩ = some (.slice A4 N' N') by rw [hP]; exact fun w' q => ⟨(q.cells 4 rfl).1, (q.cells 4 rfl).2.1, (q.cells 4 rfl).2.2, (q.cells 3 rfl).1, (q.cells 3 rfl).2.1, (q.cells 3 rfl).2.2, (q.cells 2 rfl).1, (q.cells 2 rfl).2.1, (q.cells 2 rfl).2.2, (q.cells 1 rfl).1, (q.cells 1 rfl).2.1, (q.cells 1 rfl).2.2, (q.cells 0 rfl).1, (q.cells 0 rfl).2.1, (q.cells 0 rfl).2.2⟩)
  have H1 := Lib.hid (show ∀ x : World, P x → Rd x x.heap.size A1 N (bVs zs) by rw [hP]; exact fun x q => q.rd 3 rfl)
  have H2 := Lib.hid (show ∀ x : World, P x → Rd x x.heap.size A2 N (bVs zs) by rw [hP]; exact fun x q => q.rd 2 rfl)
  have H3 := Lib.hid (show ∀ x : World, P x → Rd x x.heap.size A3 N' (bVs ids) by rw [hP]; exact fun x q => q.rd 1 rfl)
  have H4 := Lib.hid (show ∀ x : World, P x → Rd x x.heap.size A4 N' (bVs ids) by rw [hP]; exact fun x q => q.rd 0 rfl)
  have HB := Lib.hid (show ∀ x : World, P x → Below w.heap.size w x by rw [hP]; exact fun x q => q.below)
  clear hp S hP
  have hc := HC.out _ hp0
  go_region_held3 (fun w' => P w' ∧ w'.cell? ⟨w.heap.size, 0, none⟩ = some (.int .i64 r) ∧ w'.cell? ⟨w.heap.size, 1, none⟩ = some (.int .i64 c) ∧ w'.cell? ⟨w.heap.size, 2, none⟩ = some (.slice A n cap) ∧ w'.cell? ⟨w1.heap.size, 0, none⟩ = some (.int .i64 R) ∧ w'.cell? ⟨w1.heap.size, 1, none⟩ = some (.int .i64 C) ∧ w'.cell? ⟨w1.heap.size, 2, none⟩ = some (.slice A1 N N) ∧ w'.cell? ⟨w2.heap.size, 0, none⟩ = some (.int .i64 R) ∧ w'.cell? ⟨w2.heap.size, 1, none⟩ = some (.int .i64 C) ∧ w'.cell? ⟨w2.heap.size, 2, none⟩ = some (.slice A2 N N) ∧ w'.cell? ⟨w3.heap.size, 0, none⟩ = some (.int .i64 R') ∧ w'.cell? ⟨w3.heap.size, 1, none⟩ = some (.int .i64 C') ∧ w'.cell? ⟨w3.heap.size, 2, none⟩ = some (.slice A3 N' N') ∧ w'.cell? ⟨w4.heap.size, 0, none⟩ = some (.int .i64 R') ∧ w'.cell? ⟨w4.heap.size, 1, none⟩ = some (.int .i64 C') ∧ w'.cell? ⟨w4.heap.size, 2, none⟩ = some (.slice A4 N' N'))
    (first | (go_split_ands; have q := HG.out _ _ (by assumption) hbk; exact ⟨q, HC.out _ q⟩) | (go_split_ands; have q := HD.out _ (by assumption); exact ⟨q, HC.out _ q⟩))
    (first | (go_at_call 17; refine (right_calls _ _ _ _ _ _).mono ?_; rintro e wk ⟨rfl, hbk⟩) | (go_at_call 18; refine (refRight_calls _ _ _ _ _ _).mono ?_; rintro e wk ⟨rfl, hbk⟩) | (go_at_call 19; (try go_split_ands); ((first | ((with_reducible refine (like3_self R C A1 N N E A2 N N zs _ ?_ ?_).mono ?_); exact H1.out _ (by assumption); exact H2.out _ (by assumption)) | ((with_reducible refine (like3_self R' C' A3 N' N' E' A4 N' N' ids _ ?_ ?_).mono ?_); exact H3.out _ (by assumption); exact H4.out _ (by assumption))); rintro e wk ⟨rfl, hbk⟩)))
  go_wp2_with fail
  go_ret
  go_split_ands
  exact ⟨rfl, HB.out _ (by assumption)⟩
end Go.Proofs.Ytgcgajeagdaenaa
