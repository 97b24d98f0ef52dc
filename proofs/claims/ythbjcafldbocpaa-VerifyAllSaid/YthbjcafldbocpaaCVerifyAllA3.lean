/- What the functions compute that the law VerifyAll reaches, proved by walking them; conditions stand at each theorem. -/
import Derived.Deep.CutRange
import Derived.Deep.Cut
import Derived.Deep.RegionHeld3
import Derived.ProofKit
import Derived.OpenShut
import Derived.ChangeOld
import Derived.SizedLaws
import Derived.Deep.Matrix
import Derived.Lib.SmallJoins
import Derived.Test.YthbjcafldbocpaaCVerifyAllA2
import Derived.Test.YthbjcafldbocpaaCVerifyAllA1
namespace Go.Proofs.Ythbjcafldbocpaa
open Go.RowKit
set_option linter.unusedVariables false
set_option linter.unusedSimpArgs false

def MulMid (w : World) (BS : List (Nat × List Value)) (ra ca cb p nb : Nat) (T : List UInt8) (s6 s7 : Value) (x : World) : Prop :=
  ∃ g6 g7 gm gt : Nat, s6 = .pointer (some ⟨g6, 0, none⟩) ∧ s7 = .pointer (some ⟨g7, 0, none⟩) ∧ w.heap.size + 3 ≤ g6 ∧ w.heap.size + 3 ≤ g7 ∧ w.heap.size + 3 ≤ gm ∧ gm ≠ g6 ∧ gm ≠ g7 ∧ gm ≠ gt ∧ gt ≠ g6 ∧ gt ≠ g7 ∧ g6 ≠ g7 ∧
    Ctx w x ((g6, [.int .i64 ra, .int .i64 cb, .slice (some ⟨gm, 0, none⟩) p p]) :: (g7, [.int .i64 cb, .int .i64 ca, .slice (some ⟨gt, 0, none⟩) nb nb]) :: BS) [] ∧ Row x gm 5 (bVs (List.replicate p 0)) ∧ Row x gt 5 (bVs T)
set_option maxRecDepth 100000 in
set_option maxHeartbeats 12800000 in
theorem mul_yes (ra ca cb na nb p : Nat) (A B : Option Addr) (cap capb : Nat) (xs ys : List UInt8) (w : World) (hra : ra ≤ 64) (hca : ca ≤ 64) (hcb : cb ≤ 64) (hna : Hid (na = ra * ca)) (hnb : Hid (nb = ca * cb)) (hp : Hid (p = ra * cb))
    (hx : Rd w w.heap.size A na (bVs xs)) (hy : Rd w w.heap.size B nb (bVs ys)) (hcap : na ≤ cap) (hcapb : nb ≤ capb) :
    Calls Try.prog 44 #[mV ra ca A na cap, mV ca cb B nb capb] w fun e w' => ∃ g, e = .returned (.tuple #[mV ra cb (some ⟨g, 0, none⟩) p p, .int .i64 0]) ∧ Row w' g 5 (bVs (mulG ra ca cb xs ys)) ∧ w.heap.size ≤ g ∧ Below w.heap.size w w' := by
  have HR1 := Lib.hid (fun w => right_calls ra ca A na cap w)
  have HR2 := Lib.hid (fun w => right_calls ca cb B nb capb w)
  rw [show rightB ra ca na = true by simp [rightB, hna.out]; omega] at HR1
  rw [show rightB ca cb nb = true by simp [rightB, hnb.out]; omega] at HR2
  have S := (((Ctx.start w).box [.int .i64 ra, .int .i64 ca, .slice A na cap]).box [.int .i64 ca, .int .i64 cb, .slice B nb capb]).box [.int .i64 0, .int .i64 0, .slice none 0 0]
  simp only [World.size_alloc] at S
  obtain ⟨c0, c1, c2⟩ := S.cells 2 rfl
  obtain ⟨d0, d1, d2⟩ := S.cells 1 rfl
  have hsz := S.lt 0 rfl
  obtain ⟨T, hT⟩ : ∃ T, T = turnD ca cb ys := ⟨_, rfl⟩
  have HT := Lib.hid hT
  clear hT
  go_enter Try.func44, Try.ntmps44
  go_upto_region 3 with (first | (go_at_call 43; (first | (with_reducible refine (HR1.out _).mono ?_) | (with_reducible refine (HR2.out _).mono ?_)); rintro e w1 ⟨rfl, hb⟩; replace S := S.go hb; clear hb c0 c1 c2 d0 d1 d2 hsz; have hsz := S.lt 0 rfl; obtain ⟨c0, c1, c2⟩ := S.cells 2 rfl; obtain ⟨d0, d1, d2⟩ := S.cells 1 rfl))
  clear c0 c1 c2 d0 d1 d2 HR1 HR2
  obtain ⟨BS, hBS⟩ : ∃ BS : List (Nat × List Value), BS = [(w.heap.size + 1 + 1, [.int .i64 0, .int .i64 0, .slice none 0 0]), (w.heap.size + 1, [.int .i64 ca, .int .i64 cb, .slice B nb capb]), (w.heap.size, [.int .i64 ra, .int .i64 ca, .slice A na cap])] := ⟨_, rfl⟩
  have S2 : Ctx w w1 BS [] := by rw [hBS]; exact S
  clear S
  have HC := Lib.hid (show ∀ x : World, Ctx w x BS [] → x.cell? ⟨w.heap.size, 0, none⟩ = some (.int .i64 ra) ∧ x.cell? ⟨w.heap.size + 1, 1, none⟩ = some (.int .i64 cb) ∧ x.cell? ⟨w.heap.size + 1, 0, none⟩ = some (.int .i64 ca) ∧ x.cell? ⟨w.heap.size + 1, 2, none⟩ = some (.slice B nb capb) by
    rw [hBS]
    exact fun x q => ⟨(q.cells 2 rfl).1, (q.cells 1 rfl).2.1, (q.cells 1 rfl).1, (q.cells 1 rfl).2.2⟩)
  have HBS := Lib.hid hBS
  clear hBS
  go_cut [6, 7] from 6 to 60 (fun s6 s7 wx => MulMid w BS ra ca cb p nb T s6 s7 wx)
  case first =>
    obtain ⟨P, hP⟩ : ∃ P : World → Prop, P = fun x => Ctx w x BS [] := ⟨_, rfl⟩
    have hp0 : P w1 := by rw [hP]; exact S2
    have HB := Lib.hid (show ∀ x : World, P x → Calls Try.prog 54 #[.int .i64 ra, .int .i64 cb] x fun e w' => ∃ g, e = .returned (mV ra cb (some ⟨g, 0, none⟩) p p) ∧ Row w' g 5 (bVs (List.replicate p 0)) ∧ x.heap.size ≤ g ∧ Below x.heap.size x w' from fun x _ => blank_row ra cb p x hra hcb hp)
    have HTU := Lib.hid (show ∀ x : World, P x → Calls Try.prog 55 #[mV ca cb B nb capb] x fun e w' => ∃ g, e = .returned (mV cb ca (some ⟨g, 0, none⟩) nb nb) ∧ Row w' g 5 (bVs T) ∧ x.heap.size ≤ g ∧ Below x.heap.size x w' by
      rw [hP, HT.out]
      exact fun x q => turned_calls ca cb nb B capb ys x hca hcb hnb (hy.go q.below) hcapb)
    have HG := Lib.hid (show ∀ x y : World, P x → Below x.heap.size x y → P y by rw [hP]; exact fun x y q hb => q.go hb)
    have HA := Lib.hid (show ∀ (x : World) o, P x → P (x.alloc o) by rw [hP]; exact fun x o q => q.alloc o)
    have HD := Lib.hid (show ∀ (x : World), P x → P x.drew by rw [hP]; exact fun x q => q.drew)
    have HCC := Lib.hid (show ∀ x : World, P x → x.cell? ⟨w.heap.size, 0, none⟩ = some (.int .i64 ra) ∧ x.cell? ⟨w.heap.size + 1, 1, none⟩ = some (.int .i64 cb) ∧ x.cell? ⟨w.heap.size + 1, 0, none⟩ = some (.int .i64 ca) ∧ x.cell? ⟨w.heap.size + 1, 2, none⟩ = some (.slice B nb capb) by rw [hP]; exact HC.out)
    have HST := Lib.hid (show ∀ (x : World) (a : Addr) (u : Value), w.heap.size + 3 ≤ a.block → P x → P (x.setCell a u) by
      rw [hP]
      intro x a u ha q
      refine q.set (by omega) ?_ u
      rw [HBS.out]
      simp
      omega)
    have HPS := Lib.hid (show ∀ (x : World), P x → w.heap.size + 3 ≤ x.heap.size by
      rw [hP, HBS.out]
      intro x q
      have := q.lt 0 rfl
      omega)
    have HFIN := Lib.hid (show ∀ x, P x → Ctx w x BS [] by rw [hP]; exact fun x q => q)
    clear hP S2
    have hc := HCC.out _ hp0
    have hz1 := HPS.out _ hp0
    go_region_held3 (fun x => P x ∧ x.cell? ⟨w.heap.size, 0, none⟩ = some (.int .i64 ra) ∧ x.cell? ⟨w.heap.size + 1, 1, none⟩ = some (.int .i64 cb) ∧ x.cell? ⟨w.heap.size + 1, 0, none⟩ = some (.int .i64 ca) ∧ x.cell? ⟨w.heap.size + 1, 2, none⟩ = some (.slice B nb capb))
      (first | (refine ⟨?_, HCC.out _ ?_⟩ <;> (repeat' (first | with_reducible exact hp0 | with_reducible refine HD.out _ ?_ | with_reducible exact hpt | with_reducible exact hpb | with_reducible refine HA.out _ _ ?_ | with_reducible refine HST.out _ _ _ (by (try dsimp only); (try simp only [World.size_alloc]); first | omega | (simp; omega)) ?_))))
      (first | (go_at_call 54; (try go_split_ands); refine (HB.out _ (by assumption)).mono ?_; rintro e wb ⟨gm, rfl, hrowm, hgm, hbm⟩; have hpb := HG.out _ _ (by assumption) hbm; have hzb := HPS.out _ hpb; have lM := hrowm.lt; (try simp only [World.size_alloc, size_drew] at hgm); (try ((first | (have rA := box_last hbm) | (have rA := box_lastD hbm)); (try simp only [World.size_alloc] at rA); obtain ⟨a0, a1, a2, a3, a4, a5⟩ := rA.three; have lA := rA.lt)); (try ((first | (have rB := box_prev hbm) | (have rB := box_prevD hbm)); obtain ⟨b0, b1, b2, b3, b4, b5⟩ := rB.three; have lB := rB.lt))) | (go_at_call 55; (try go_split_ands); refine (HTU.out _ (by assumption)).mono ?_; rintro e wt ⟨gt, rfl, hrowt, hgt, hbt⟩; have hpt := HG.out _ _ (by assumption) hbt; have hzt := HPS.out _ hpt; have lT := hrowt.lt; (try simp only [World.size_alloc, size_drew] at hgt); (first | (have rM := carry0 hrowm hbt) | (have rM := carry1 hrowm hbt) | (have rM := carry2 hrowm hbt)); have lM2 := rM.lt; (try (have rC := box_last hbt; (try simp only [World.size_alloc] at rC); obtain ⟨a0, a1, a2, a3, a4, a5⟩ := rC.three; have lC := rC.lt)); (try (have rD := box_prev hbt; obtain ⟨b0, b1, b2, b3, b4, b5⟩ := rD.three; have lD := rD.lt)); (try ((first | (have rE := carry0 rA hbt) | (have rE := carry1 rA hbt) | (have rE := carry2 rA hbt)); obtain ⟨a0, a1, a2, a3, a4, a5⟩ := rE.three; have lE := rE.lt)); (try ((first | (have rF := carry0 rB hbt) | (have rF := carry1 rB hbt) | (have rF := carry2 rB hbt)); obtain ⟨b0, b1, b2, b3, b4, b5⟩ := rF.three; have lF := rF.lt))))
    all_goals (go_split_ands; go_wp2_with fail; go_meet; refine ⟨_, _, gm, gt, rfl, rfl, by omega, by omega, by omega, by omega, by omega, by omega, by omega, by omega, by omega, ((HFIN.out _ (by assumption)).cons ?_).cons ?_, ?_, ?_⟩ <;> (repeat' (first | with_reducible assumption | with_reducible refine Row.newE _ _ _ (by first | with_reducible rfl | (simp; done)) | with_reducible refine Row.drew ?_ | with_reducible refine Row.alloc ?_ _ | with_reducible refine Row.set3 (a := .int .i64 0) (b := .int .i64 0) (c := .slice none 0 0) ?_ _ _ _ | with_reducible refine Row.far3 ?_ (by omega) _ _ _)))
  case rest =>
    clear S2 HC
    obtain ⟨g6, g7, gm, gt, rfl, rfl, k6, k7, km, n1, n2, n3, n4, n5, n6, S, hrow, hrt⟩ := hcut
    obtain ⟨B2, hB2⟩ : ∃ B2 : List (Nat × List Value), B2 = (g6, [.int .i64 ra, .int .i64 cb, .slice (some ⟨gm, 0, none⟩) p p]) :: (g7, [.int .i64 cb, .int .i64 ca, .slice (some ⟨gt, 0, none⟩) nb nb]) :: BS := ⟨_, rfl⟩
    rw [← hB2] at S
    rw [HBS.out] at hB2
    have HC := Lib.hid (show ∀ x : World, Ctx w x B2 [] → x.cell? ⟨w.heap.size, 0, none⟩ = some (.int .i64 ra) ∧ x.cell? ⟨w.heap.size, 1, none⟩ = some (.int .i64 ca) ∧ x.cell? ⟨w.heap.size, 2, none⟩ = some (.slice A na cap) ∧ x.cell? ⟨g6, 0, none⟩ = some (.int .i64 ra) ∧ x.cell? ⟨g6, 1, none⟩ = some (.int .i64 cb) ∧ x.cell? ⟨g6, 2, none⟩ = some (.slice (some ⟨gm, 0, none⟩) p p) ∧ x.cell? ⟨g7, 0, none⟩ = some (.int .i64 cb) ∧ x.cell? ⟨g7, 1, none⟩ = some (.int .i64 ca) ∧ x.cell? ⟨g7, 2, none⟩ = some (.slice (some ⟨gt, 0, none⟩) nb nb) by
      rw [hB2]
      exact fun x q => ⟨(q.cells 4 rfl).1, (q.cells 4 rfl).2.1, (q.cells 4 rfl).2.2, (q.cells 0 rfl).1, (q.cells 0 rfl).2.1, (q.cells 0 rfl).2.2, (q.cells 1 rfl).1, (q.cells 1 rfl).2.1, (q.cells 1 rfl).2.2⟩)
    have HE := Lib.hid (show ∀ x : World, Ctx w x B2 [] → Row x (w.heap.size + 1 + 1) 37 [.int .i64 0, .int .i64 0, .slice none 0 0] by rw [hB2]; exact fun x q => q.row 2 rfl)
    have HSET := Lib.hid (show ∀ (x : World) (q : Nat) (v : Value), Ctx w x B2 [] → Ctx w (x.setCell ⟨gm, q, none⟩ v) B2 [] by
      intro x q v h
      refine h.set (p := ⟨gm, q, none⟩) (by simp; omega) ?_ v
      rw [hB2]
      simp
      omega)
    clear hB2 HBS
    obtain ⟨F, hF⟩ : ∃ F, F = mulF ca cb xs ys := ⟨_, rfl⟩
    have HF := Lib.hid hF
    clear hF
    have hF0 := fillT_start ra cb F
    rw [← hp.out] at hF0
    rw [hF0] at hrow
    clear hF0
    obtain ⟨c0, c1, c2, d0, d1, d2, e0, e1, e2⟩ := HC.out _ S
    have HS := Lib.hid S
    have HROW := Lib.hid hrow
    have HRT := Lib.hid hrt
    clear S hrow hrt
    go_wp2_with fail
    clear c0 c1 c2 d0 d1 d2 e0 e1 e2
    go_loopw [35] (fun v35 wr => ∃ i : Nat, i ≤ ra ∧ v35 = .int .i64 (i : Int) ∧ Row wr gm 5 (bVs (fillT ra cb F i 0)) ∧ Row wr gt 5 (bVs T) ∧ Ctx w wr B2 []) (fun v35 _ => ra - (intOf v35).toNat)
    case atStart => exact ⟨0, by omega, rfl, HROW.out, HRT.out, HS.out⟩
    case round =>
      obtain ⟨i, hi, rfl, hrow, hrt, S⟩ := hrel
      clear HROW HS HRT
      obtain ⟨wo, rfl⟩ : ∃ wo : World, wo = wr := ⟨_, rfl⟩
      obtain ⟨c0, c1, c2, d0, d1, d2, e0, e1, e2⟩ := HC.out _ S
      have HS := Lib.hid S
      have HROW := Lib.hid hrow
      have HRT := Lib.hid hrt
      clear S hrow hrt
      by_cases hlt : i < ra
      · go_wp2_with fail
        clear c0 c1 c2 d0 d1 d2 e0 e1 e2
        go_loopw [40] (fun v40 wr => ∃ j : Nat, j ≤ cb ∧ v40 = .int .i64 (j : Int) ∧ Row wr gm 5 (bVs (fillT ra cb F i j)) ∧ Row wr gt 5 (bVs T) ∧ Ctx w wr B2 []) (fun v40 _ => cb - (intOf v40).toNat)
        case atStart => exact ⟨0, by omega, rfl, HROW.out, HRT.out, HS.out⟩
        case round =>
          obtain ⟨j, hj, rfl, hrow, hrt, S⟩ := hrel
          clear HROW HS HRT
          obtain ⟨c0, c1, c2, d0, d1, d2, e0, e1, e2⟩ := HC.out _ S
          by_cases hlj : j < cb
          · have HFS := Lib.hid (fillT_set (R := ra) (C := cb) (i := i) (j := j) F hlt hlj)
            obtain ⟨new, hnew⟩ : ∃ new, new = fillT ra cb F i (j + 1) := ⟨_, rfl⟩
            rw [← hnew] at HFS
            have HNEW := Lib.hid hnew
            have hlen := fillT_length ra cb i j F
            have hq := place_lt hlt hlj
            have hxl : xs.length = ra * ca := by have := hx.len; rw [bVs_length] at this; rw [this, hna.out]
            have HV := dot_rows (ys := ys) hxl hlt hlj
            rw [← HT.out, ← HF.out] at HV
            have hTl : T.length = nb := by rw [HT.out, turnD_length, hnb.out, Nat.mul_comm]
            obtain ⟨v, hv⟩ : ∃ v, v = F i j := ⟨_, rfl⟩
            rw [← hv] at HFS HV
            have f1 : (i + 1) * cb = i * cb + cb := by rw [Nat.add_mul]; omega
            have f2 : (i + 1) * ca = i * ca + ca := by rw [Nat.add_mul]; omega
            have f3 : (j + 1) * ca = j * ca + ca := by rw [Nat.add_mul]; omega
            have h1 : i * cb + cb ≤ p := by rw [hp.out, ← f1]; exact Nat.mul_le_mul_right cb hlt
            have h2 : i * ca + ca ≤ na := by rw [hna.out, ← f2]; exact Nat.mul_le_mul_right ca hlt
            have h3 : j * ca + ca ≤ nb := by rw [hnb.out, Nat.mul_comm ca cb, ← f3]; exact Nat.mul_le_mul_right ca hlj
            rw [← hp.out] at hq hlen
            obtain ⟨kr, hkr⟩ : ∃ k, k = i * cb := ⟨_, rfl⟩
            obtain ⟨ka, hka⟩ : ∃ k, k = i * ca := ⟨_, rfl⟩
            obtain ⟨kb, hkb⟩ : ∃ k, k = j * ca := ⟨_, rfl⟩
            have HR1 := Lib.hid (fun w => row_calls ra cb i (some ⟨gm, 0, none⟩) p p kr (kr + cb) w hra hcb hlt hkr (Lib.hid (by rw [hkr]; exact f1.symm)) (by rw [hkr]; exact h1) (Nat.le_refl _))
            have HR2 := Lib.hid (fun w => row_calls ra ca i A na cap ka (ka + ca) w hra hca hlt hka (Lib.hid (by rw [hka]; exact f2.symm)) (by rw [hka]; exact h2) hcap)
            have HR3 := Lib.hid (fun w => row_calls cb ca j (some ⟨gt, 0, none⟩) nb nb kb (kb + ca) w hcb hca hlj hkb (Lib.hid (by rw [hkb]; exact f3.symm)) (by rw [hkb]; exact h3) (Nat.le_refl _))
            rw [rowA_plain (by omega), Nat.zero_add] at HR1
            rw [← hkr] at hq h1 HFS
            rw [← hka] at h2 HV
            rw [← hkb] at h3 HV
            clear hkr hka hkb f1 f2 f3 hnew hv
            obtain ⟨ra1, hra1⟩ : ∃ l, l = (xs.drop ka).take ca := ⟨_, rfl⟩
            obtain ⟨rt1, hrt1⟩ : ∃ l, l = (T.drop kb).take ca := ⟨_, rfl⟩
            rw [← hra1, ← hrt1] at HV
            obtain ⟨P, hP⟩ : ∃ P : World → Prop, P = fun x => Ctx w x B2 [] ∧ Row x gt 5 (bVs T) ∧ CurS x gm (kr + j) v new := ⟨_, rfl⟩
            have hp0 : P wr := by rw [hP]; exact ⟨S, hrt, _, by rw [hlen]; exact hq, HFS.out, hrow⟩
            have HCUR : ∀ x, P x → ∃ old, x.cell? ⟨gm, kr + j, none⟩ = some old := by rw [hP]; exact fun x q => q.2.2.cell
            obtain ⟨cur, hcur⟩ : ∃ cur : World → Value, ∀ x, P x → x.cell? ⟨gm, kr + j, none⟩ = some (cur x) := by
              refine ⟨fun x => (x.cell? ⟨gm, kr + j, none⟩).getD (.bool false), fun x hx => ?_⟩
              obtain ⟨old, h⟩ := HCUR x hx
              simp [h]
            have HDOT := Lib.hid (show ∀ x : World, P x → Calls Try.prog 56 #[.slice (rowA A ca ka) ca ca, .slice (rowA (some ⟨gt, 0, none⟩) ca kb) ca ca] x fun e w' => e = .returned (.tuple #[.int .u8 (v.toNat : Int), .int .i64 0]) ∧ Below x.heap.size x w' by
              rw [hP, ← HV, hra1, hrt1]
              exact fun x q => dot_calls _ _ _ _ _ _ _ _ (rd_row (hx.go q.1.below) h2) (rd_row (q.2.1.rd hTl) h3) (by omega))
            have HG := Lib.hid (show ∀ x y : World, P x → Below x.heap.size x y → P y by rw [hP]; exact fun x y q hb => ⟨q.1.go hb, carry0 q.2.1 hb, q.2.2.go hb⟩)
            have HD := Lib.hid (show ∀ x : World, P x → P x.drew by rw [hP]; exact fun x q => ⟨q.1.drew, q.2.1, q.2.2.drew⟩)
            have HST := Lib.hid (show ∀ x : World, P x → P (x.setCell ⟨gm, kr + j, none⟩ (.int .u8 (v.toNat : Int))) by rw [hP]; exact fun x q => ⟨HSET.out _ _ _ q.1, q.2.1.far (by simp; omega) _, q.2.2.set⟩)
            have HCC := Lib.hid (show ∀ x : World, P x → x.cell? ⟨w.heap.size, 0, none⟩ = some (.int .i64 ra) ∧ x.cell? ⟨w.heap.size, 1, none⟩ = some (.int .i64 ca) ∧ x.cell? ⟨w.heap.size, 2, none⟩ = some (.slice A na cap) ∧ x.cell? ⟨g6, 0, none⟩ = some (.int .i64 ra) ∧ x.cell? ⟨g6, 1, none⟩ = some (.int .i64 cb) ∧ x.cell? ⟨g6, 2, none⟩ = some (.slice (some ⟨gm, 0, none⟩) p p) ∧ x.cell? ⟨g7, 0, none⟩ = some (.int .i64 cb) ∧ x.cell? ⟨g7, 1, none⟩ = some (.int .i64 ca) ∧ x.cell? ⟨g7, 2, none⟩ = some (.slice (some ⟨gt, 0, none⟩) nb nb) ∧ x.cell? ⟨gm, kr + j, none⟩ = some (cur x) ∧ x.frozen? ⟨gm, kr + j, none⟩ = false by
              intro x q
              have h := hcur x q
              rw [hP] at q
              obtain ⟨q1, q2, q3, q4, q5, q6, q7, q8, q9⟩ := HC.out x q.1
              exact ⟨q1, q2, q3, q4, q5, q6, q7, q8, q9, h, q.2.2.frozen⟩)
            have HALL := Lib.hid (show ∀ x : World, P (x.setCell ⟨gm, kr + j, none⟩ (.int .u8 (v.toNat : Int))) → Ctx w (x.setCell ⟨gm, kr + j, none⟩ (.int .u8 (v.toNat : Int))) B2 [] ∧ Row (x.setCell ⟨gm, kr + j, none⟩ (.int .u8 (v.toNat : Int))) gt 5 (bVs T) ∧ Row (x.setCell ⟨gm, kr + j, none⟩ (.int .u8 (v.toNat : Int))) gm 5 (bVs new) by rw [hP]; exact fun x q => ⟨q.1, q.2.1, q.2.2.fin⟩)
            clear hP hcur HCUR S hrow hrt HV hra1 hrt1 hxl hTl
            go_wp2_with fail
            have hc := HCC.out _ hp0
            go_region_held3 (fun x => P x ∧ x.cell? ⟨w.heap.size, 0, none⟩ = some (.int .i64 ra) ∧ x.cell? ⟨w.heap.size, 1, none⟩ = some (.int .i64 ca) ∧ x.cell? ⟨w.heap.size, 2, none⟩ = some (.slice A na cap) ∧ x.cell? ⟨g6, 0, none⟩ = some (.int .i64 ra) ∧ x.cell? ⟨g6, 1, none⟩ = some (.int .i64 cb) ∧ x.cell? ⟨g6, 2, none⟩ = some (.slice (some ⟨gm, 0, none⟩) p p) ∧ x.cell? ⟨g7, 0, none⟩ = some (.int .i64 cb) ∧ x.cell? ⟨g7, 1, none⟩ = some (.int .i64 ca) ∧ x.cell? ⟨g7, 2, none⟩ = some (.slice (some ⟨gt, 0, none⟩) nb nb) ∧ x.cell? ⟨gm, kr + j, none⟩ = some (cur x) ∧ x.frozen? ⟨gm, kr + j, none⟩ = false)
              (first | (go_split_ands; have q := HG.out _ _ (by assumption) hbk; exact ⟨q, HCC.out _ q⟩) | (go_split_ands; have q := HST.out _ (by assumption); exact ⟨q, HCC.out _ q⟩) | (go_split_ands; have q := HD.out _ (by assumption); exact ⟨q, HCC.out _ q⟩))
              (first | (go_at_call 57; (first | (with_reducible refine (HR1.out _).mono ?_) | (with_reducible refine (HR2.out _).mono ?_) | (with_reducible refine (HR3.out _).mono ?_)); rintro e wk ⟨rfl, hbk⟩) | (go_at_call 56; (try go_split_ands); refine (HDOT.out _ (by assumption)).mono ?_; rintro e wk ⟨rfl, hbk⟩))
            go_wp2_with fail
            go_split_ands
            go_roundw
            case rel => exact ⟨j + 1, by omega, by go_num, by rw [← HNEW.out]; exact (HALL.out _ (by assumption)).2.2, (HALL.out _ (by assumption)).2.1, (HALL.out _ (by assumption)).1⟩
            case measure => simp [intOf]; omega
          · obtain rfl : j = cb := by omega
            have HN := Lib.hid (fillT_next ra j i F)
            go_wp2_with fail
            go_roundw
            case rel => exact ⟨i + 1, by omega, by go_num, by rw [← HN.out]; exact hrow, hrt, S⟩
            case measure => simp [intOf]; omega
      · obtain rfl : i = ra := by omega
        obtain ⟨h0, h1, h2, f0, f1, f2⟩ := (HE.out _ HS.out).three
        have HN := Lib.hid (fillT_end i cb F)
        go_wp2_with fail
        refine bodyPost_ret (v := .tuple #[mV i cb (some ⟨gm, 0, none⟩) p p, .int .i64 0]) (by simp [results, Try.results44, go_sem, h0, h1, h2]) rfl ⟨gm, rfl, ?_, by omega, below_set3 HS.out.below (by omega) _ _ _⟩
        have h := HROW.out
        rw [HN.out, HF.out] at h
        exact h.far3 (by omega) _ _ _
end Go.Proofs.Ythbjcafldbocpaa
namespace Go.Proofs.Ythbjcafldbocpaa
open Go.RowKit
set_option linter.unusedVariables false
set_option linter.unusedSimpArgs false

def muR (b : Bool) (ra : Int) : Int := if b then ra else 0
def muE (b : Bool) : Int := if b then 0 else 3
def muN (b : Bool) (ra cb : Int) : Nat := if b then ra.toNat * cb.toNat else 0
def muD (b : Bool) (ra ca cb : Int) (xs ys : List UInt8) : List UInt8 := if b then mulG ra.toNat ca.toNat cb.toNat xs ys else []
end Go.Proofs.Ythbjcafldbocpaa
namespace Go.Proofs.Ythbjcafldbocpaa
open Go.RowKit
set_option linter.unusedVariables false
set_option linter.unusedSimpArgs false

end Go.Proofs.Ythbjcafldbocpaa
namespace Go.Proofs.Ythbjcafldbocpaa
open Go.ChangeShapes Go.WideShapes Go.ChangeAt Go.RowKit

theorem own_knob : ownKnob Try.prog.godebug = none := by kernel_rfl
theorem laid_out : laidOutB Try.prog = true := by kernel_rfl
theorem u8_of {n : Int} (h : (Lit.int .u8 n).wf = true) : ∃ u : UInt8, n = (u.toNat : Int) := by
  have hb := bounds_u8 h
  refine ⟨UInt8.ofNat n.toNat, ?_⟩
  rw [UInt8.toNat_ofNat']
  omega
theorem u8s_of : ∀ {zs : List Int}, (∀ n ∈ zs, (Lit.int .u8 n).wf = true) → ∃ xs : List UInt8, zs = xs.map fun x => (x.toNat : Int)
  | [], _ => ⟨[], rfl⟩
  | z :: zs, h => by
    obtain ⟨u, hu⟩ := u8_of (h z (by simp))
    obtain ⟨xs, hx⟩ := u8s_of (zs := zs) (fun n hn => h n (by simp [hn]))
    exact ⟨u :: xs, by simp [hu, hx]⟩
theorem open_bytes {H : Type} {enc : TypeId × Value → H} {W : World} {d : DataW H} {p : List MemPlace} {a : Option Addr} {len cap : Nat}
    (h : DataW.Trod enc Try.prog W 0 (fun _ => true) true 35 (.slice a len cap) d p) :
    ∃ (xs : List UInt8), Rd W W.heap.size a len (bVs xs) ∧ len ≤ cap ∧ cap ≤ maxLen ∧ ((d = .nil ∧ cap = 0) ∨ ∃ es rs : List (DataW H), d = .slice es rs ∧ es.length + rs.length = cap) := by
  obtain ⟨fuel, hf⟩ := h
  have hlt := DataW.trod_lt fuel _ _ _ hf
  rcases open_ints Try.underlying35 Try.underlying5 (by kernel_rfl) hf with ⟨hcs, hx⟩ | ⟨x, l, c, zs, hcs, _, hl, hm, hz, hx, hcell, hwz⟩
  · simp [Value.cells] at hcs
    obtain ⟨rfl, rfl, rfl⟩ := hcs
    exact ⟨[], Rd.nil, Nat.le_refl _, Nat.zero_le _, .inl ⟨by simpa using congrArg Prod.fst hx, rfl⟩⟩
  · simp [Value.cells] at hcs
    obtain ⟨rfl, rfl, rfl⟩ := hcs
    simp only [if_true] at hz
    obtain ⟨xs, rfl⟩ := u8s_of hwz
    rw [List.length_map] at hz
    refine ⟨xs.take len, ⟨by simp [bVs]; omega, fun hn => ?_⟩, hl, hm, .inr ⟨_, _, by simpa using congrArg Prod.fst hx, by simp [lits]; omega⟩⟩
    obtain ⟨g, o, rfl, hc⟩ := ints_at hcell (by rw [List.length_map]; omega)
    refine ⟨g, o, rfl, ?_, fun j u hu => ?_⟩
    · have hp : p = MemPlace.row ⟨g, o, none⟩ ((xs.map fun x => (x.toNat : Int)).length) := by simpa using congrArg Prod.snd hx
      have := hlt (.cell g o) (by rw [hp]; simp [MemPlace.row]; omega)
      exact this
    · have hj : j < (bVs (xs.take len)).length := by
        rcases Nat.lt_or_ge j (bVs (xs.take len)).length with hlt | hge
        · exact hlt
        · rw [List.getElem?_eq_none hge] at hu; cases hu
      rw [bVs_length, List.length_take] at hj
      rw [hc j (by rw [List.length_map]; omega)]
      rw [← hu]
      have hx : (xs.map fun x => (x.toNat : Int)).getD j 0 = ((xs[j]'(by omega)).toNat : Int) := by simp [List.getD]; rw [List.getElem?_eq_getElem (by omega)]; rfl
      rw [hx, bVs_get _ _ (by rw [List.length_take]; omega), List.getElem_take]
theorem bytes_of_u8 : Try.prog.bytesOf 5 = 1 := by kernel_rfl
end Go.Proofs.Ythbjcafldbocpaa
namespace Go.Proofs.Ythbjcafldbocpaa
open Go.ChangeShapes Go.WideShapes Go.ChangeAt Go.RowKit Go.Proofs.YthbjcafldbocpaaW.PrintWords
set_option linter.unusedVariables false
set_option linter.unusedSimpArgs false

end Go.Proofs.Ythbjcafldbocpaa
namespace Go.Proofs.Ythbjcafldbocpaa
open Go.RowKit
set_option linter.unusedVariables false
set_option linter.unusedSimpArgs false

set_option maxHeartbeats 400000 in
theorem copy_calls (A : Option Addr) (n cap : Nat) (xs : List UInt8) (w : World) (hr : Rd w w.heap.size A n (bVs xs)) (hn : n ≤ 140737488355328) :
    Calls Try.prog 33 #[.slice A n cap] w fun e w' => ∃ v, e = .returned v ∧ OwnV w' w.heap.size v xs ∧ Below w.heap.size w w' := by
  go_enter Try.func33, Try.ntmps33
  go_wp2_with (at_builtin; refine wpList_append_rd (.tmp 3) (.tmp 4) rfl rfl w.heap.size _ [] xs rfl (own_empty w _ (Nat.le_refl _) _ rfl) w.heap.size A n cap rfl (hr.below ((Below.refl _ _).alloc (Nat.le_refl _) _) (Nat.le_refl _)) (by simpa using hn) (by simp) ?_; intro v1 w1 ho1 hg1 hat1)
  go_ret
  exact ⟨_, rfl, ho1, ((Below.refl _ _).alloc (Nat.le_refl _) _).trans (grown_below hg1 (by simp) (fun k hk => Nat.le_of_eq (Option.some.inj hk)))⟩

theorem copy_own (A : Option Addr) (n cap : Nat) (xs : List UInt8) (w : World) (hr : Rd w w.heap.size A n (bVs xs)) (hn : n ≤ 140737488355328) :
    Calls Try.prog 33 #[.slice A n cap] w fun e w' => ∃ A' cap', e = .returned (.slice A' n cap') ∧ OwnB w' w.heap.size A' n cap' xs ∧ Below w.heap.size w w' := by
  refine (copy_calls A n cap xs w hr hn).mono ?_
  rintro e w' ⟨v, rfl, ho, hb⟩
  obtain ⟨A', cap', rfl, ho'⟩ := ho.slice' (n := n) (by have := hr.len; rw [bVs_length] at this; exact this)
  exact ⟨A', cap', rfl, ho', hb⟩
end Go.Proofs.Ythbjcafldbocpaa
namespace Go.Proofs.Ythbjcafldbocpaa
open Go.ChangeShapes Go.WideShapes Go.ChangeAt Go.RowKit Go.Joins
set_option linter.unusedVariables false
set_option linter.unusedSimpArgs false

theorem cells_matrix : Try.prog.cellsOf 37 = 3 := by kernel_rfl
theorem bytes_field {H : Type} {enc : TypeId × Value → H} {W : World} {fuel : Nat} {v : Value} {y : DataW H × List MemPlace}
    (hf : DataW.trod enc Try.prog W 0 (fun _ => true) true fuel 35 [v] = some y) :
    ∃ (a : Option Addr) (len cap : Nat) (xs : List UInt8), v = .slice a len cap ∧ Rd W W.heap.size a len (bVs xs) ∧ len ≤ cap ∧ cap ≤ maxLen ∧ ((y.1 = .nil ∧ cap = 0) ∨ ∃ es rs : List (DataW H), y.1 = .slice es rs ∧ es.length + rs.length = cap) := by
  have hv : ∃ a len cap, v = .slice a len cap := by
    rcases open_ints Try.underlying35 Try.underlying5 (by kernel_rfl) hf with ⟨hcs, _⟩ | ⟨x, l, c, zs, hcs, _⟩
    · simp at hcs; exact ⟨_, _, _, hcs⟩
    · simp at hcs; exact ⟨_, _, _, hcs⟩
  obtain ⟨a, len, cap, rfl⟩ := hv
  have h : DataW.Trod enc Try.prog W 0 (fun _ => true) true 35 (.slice a len cap) y.1 y.2 := ⟨fuel, hf⟩
  obtain ⟨xs, h1, h2, h3, h4⟩ := open_bytes h
  exact ⟨a, len, cap, xs, rfl, h1, h2, h3, h4⟩
set_option maxRecDepth 100000 in
theorem open_matrix {H : Type} {enc : TypeId × Value → H} {W : World} {r : Reach} {b0 : Nat} {v : Value} {d : DataW H} {p : List MemPlace}
    (hv : Value.okWide Try.prog W r b0 37 v) (h : DataW.Trod enc Try.prog W 0 (fun _ => true) true 37 v d p) :
    ∃ (rr cc : Int) (a : Option Addr) (n cap : Nat) (xs : List UInt8) (d2 : DataW H), v = mV rr cc a n cap ∧ (Lit.int .i64 rr).wf = true ∧ (Lit.int .i64 cc).wf = true ∧ Rd W W.heap.size a n (bVs xs) ∧ n ≤ cap ∧ cap ≤ maxLen ∧
      d = .agg [.lit (.int .i64 rr), .lit (.int .i64 cc), d2] ∧ ((d2 = .nil ∧ cap = 0) ∨ ∃ es rs : List (DataW H), d2 = .slice es rs ∧ es.length + rs.length = cap) := by
  obtain ⟨v0, v1, v2, y0, y1, y2, m, rfl, rfl, rfl, t0, t1, t2⟩ := open_agg3 Try.underlying37 (by kernel_rfl) cells_matrix hv h
  obtain ⟨rr, e0, rfl, w0⟩ := DataW.trod_int Try.underlying3 t0
  obtain ⟨cc, e1, rfl, w1⟩ := DataW.trod_int Try.underlying3 t1
  obtain ⟨a, n, cap, xs, rfl, h1, h2, h3, h4⟩ := bytes_field t2
  simp at e0 e1
  subst e0; subst e1
  exact ⟨rr, cc, a, n, cap, xs, y2.1, rfl, w0, w1, h1, h2, h3, rfl, h4⟩
theorem sized_matrix {H : Type} {ts : List TypeId} {ds : List (DataW H)} {j : Nat} {a b : DataW H} {d2 : DataW H} {cap : Nat} (h : (DataW.weightsEach Try.prog ts ds).all (· ≤ reachBytes) = true)
    (ht : ts[j]? = some 37) (hd : ds[j]? = some (.agg [a, b, d2])) (hs : (d2 = .nil ∧ cap = 0) ∨ ∃ es rs : List (DataW H), d2 = .slice es rs ∧ es.length + rs.length = cap) : cap ≤ 140737488351232 := by
  rcases hs with ⟨_, h0⟩ | ⟨es, rs, rfl, hl⟩
  · omega
  · have := List.all_eq_true.1 h _ (DataW.weights_mem_each ht hd ((es.length + rs.length) * Try.prog.bytesOf 5) (by
      simp only [DataW.weights, Try.underlying37, DataW.weightsEach, List.map, Array.toList, Try.underlying35]
      simp))
    rw [bytes_of_u8] at this
    simp only [reachBytes] at this
    have h2 := of_decide_eq_true this
    omega
end Go.Proofs.Ythbjcafldbocpaa
