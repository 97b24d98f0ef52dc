/- What the functions compute that the law VerifyDoes reaches, proved by walking them; conditions stand at each theorem. -/
import Derived.Deep.CutRange
import Derived.Deep.Cut
import Derived.Deep.RegionHeld3
import Derived.ProofKit
import Derived.OpenShut
import Derived.ChangeOld
import Derived.SizedLaws
import Derived.Lib.SmallJoins
import Derived.Test.YthbjcafldbocpaaCVerifyDoesA1
import Derived.Test.YthbjcafldbocpaaCVerifyDoesA2
namespace Go.Proofs.Ythbjcafldbocpaa
open Go.RowKit
set_option linter.unusedVariables false
set_option linter.unusedSimpArgs false

set_option maxRecDepth 100000 in
set_option maxHeartbeats 800000 in
theorem dot_calls (a : Option Addr) (n ac : Nat) (b : Option Addr) (bc : Nat) (xs ys : List UInt8) (w : World) (ha : Rd w w.heap.size a n (bVs xs)) (hb : Rd w w.heap.size b n (bVs ys)) (hn : n ≤ 140737488355328) :
    Calls Try.prog 56 #[.slice a n ac, .slice b n bc] w fun e w' => e = .returned (.tuple #[.int .u8 ((Gf.dot xs ys).toNat : Int), .int .i64 0]) ∧ Below w.heap.size w w' := by
  have hq : ((n : Int) != (n : Int)) = false := by rw [bne_eq_false_iff_eq]
  have HL := Lib.hid (show xs.length = n by have := ha.len; rw [bVs_length] at this; exact this)
  obtain ⟨Z, hzv, HZ0, HSZ⟩ := zero_tables'
  go_enter Try.func56, Try.ntmps56
  go_wp2_with (first | (go_at_call 70; refine (build_calls _).mono ?_; rintro e w1 ⟨T, hT, rfl, hb1⟩) | (refine wpList_store_tab (.tmp 6) (.tmp 15) rfl rfl T Z hT HZ0 HSZ rfl rfl ?_; intro w2 hs2 hg2 hb2))
  have HT := Lib.hid (HasTab.mk hT hg2)
  have HB := Lib.hid (hb1.trans (hb2.mono hb1.size))
  have hsz := hb1.size
  clear hT hg2 hb2 HZ0 HSZ hzv hs2
  go_loopw [7, 18] (fun v7 v18 wr => ∃ i : Nat, i ≤ n ∧ v18 = .int .i64 (i : Int) ∧ v7 = .int .u8 ((Gf.dotTo xs ys i).toNat : Int) ∧ HasTab wr w1.heap.size ∧ Below w.heap.size w wr) (fun _ v18 _ => n - (intOf v18).toNat)
  case atStart => exact ⟨0, by omega, rfl, rfl, HT.out, HB.out⟩
  case round =>
    obtain ⟨i, hi, rfl, rfl, ht, hbw⟩ := hrel
    clear HT HB
    by_cases hlt : i < n
    · obtain ⟨g, o, rfl, hg, hcell⟩ := rd_get (ha.below hbw (Nat.le_refl _)) hlt
      obtain ⟨g1, o1, rfl, hg1, hcell1⟩ := rd_get (hb.below hbw (Nat.le_refl _)) hlt
      have hx := bxor_u8 (Gf.dotTo xs ys i) (Gf.mul (xs.getD i 0) (ys.getD i 0))
      have HD := Lib.hid (show Gf.dotTo xs ys (i + 1) = Gf.add (Gf.dotTo xs ys i) (Gf.mul (xs.getD i 0) (ys.getD i 0)) from rfl)
      generalize xs.getD i 0 = x at *
      generalize ys.getD i 0 = y at *
      generalize Gf.dotTo xs ys i = s at *
      have HB := Lib.hid hbw
      have HA := Lib.hid ha
      have HBB := Lib.hid hb
      clear hbw ha hb
      go_wp2_with (go_at_call 71; refine (tmul_calls _ _ _ _ ht).mono ?_; rintro e w' ⟨rfl, nd, rfl⟩)
      go_roundw
      case rel => exact ⟨i + 1, by omega, by go_num, by rw [HD.out], ht.drewN nd, below_drewN HB.out nd⟩
      case measure => simp [intOf]; omega
    · obtain rfl : i = n := by omega
      go_wp2_with fail
      go_ret2
      exact ⟨by rw [Gf.dot, HL.out]; rfl, hbw⟩

end Go.Proofs.Ythbjcafldbocpaa
namespace Go.Proofs.Ythbjcafldbocpaa
open Go.RowKit
set_option linter.unusedVariables false
set_option linter.unusedSimpArgs false

def MulMid (w : World) (BS : List (Nat × List Value)) (ra ca cb p nb : Nat) (T : List UInt8) (s6 s7 : Value) (x : World) : Prop :=
  ∃ g6 g7 gm gt : Nat, s6 = .pointer (some ⟨g6, 0, none⟩) ∧ s7 = .pointer (some ⟨g7, 0, none⟩) ∧ w.heap.size + 3 ≤ g6 ∧ w.heap.size + 3 ≤ g7 ∧ w.heap.size + 3 ≤ gm ∧ gm ≠ g6 ∧ gm ≠ g7 ∧ gm ≠ gt ∧ gt ≠ g6 ∧ gt ≠ g7 ∧ g6 ≠ g7 ∧
    Ctx w x ((g6, [.int .i64 ra, .int .i64 cb, .slice (some ⟨gm, 0, none⟩) p p]) :: (g7, [.int .i64 cb, .int .i64 ca, .slice (some ⟨gt, 0, none⟩) nb nb]) :: BS) [] ∧ Row x gm 5 (bVs (List.replicate p 0)) ∧ Row x gt 5 (bVs T)
set_option maxRecDepth 100000 in
set_option maxHeartbeats 12800000 in
theorem mul_yes (ra ca cb na nb p : Nat) (A B : Option Addr) (cap capb : Nat) (xs ys : List UInt8) (w : World) (hra : ra ≤ 64) (hca : ca ≤ 64) (hcb : cb ≤ 64) (hna : Hid (na = ra * ca)) (hnb : Hid (nb = ca * cb)) (hp : Hid (p = ra * cb))
    (hx : Rd w w.heap.size A na (bVs xs)) (hy : Rd w w.heap.size B nb (bVs ys)) (hcap : na ≤ cap) (hcapb : nb ≤ capb) :
    Calls Try.prog 44 #[mV ra ca A na cap, mV ca cb B nb capb] w fun e w' => ∃ g, e = .returned (.tuple #[mV ra cb (some ⟨g, 0, none⟩) p p, .int .i64 0]) ∧ Row w' g 5 (bVs (mulG ra ca cb xs ys)) ∧ w.heap.size ≤ g ∧ Below w.heap.size w w' := by
  have HR1 := Lib.hid (fun w => right_calls ra ca A na cap w)
  have HR2 := Lib.hid (fun w => right_calls ca cb B nb capb w)
  rw [show rightB ra ca na = true by simp [rightB, hna.out]; omega] at HR1
  rw [show rightB ca cb nb = true by simp [rightB, hnb.out]; omega] at HR2
  have S := (((Ctx.start w).box [.int .i64 ra, .int .i64 ca, .slice A na cap]).box [.int .i64 ca, .int .i64 cb, .slice B nb capb]).box [.int .i64 0, .int .i64 0, .slice none 0 0]
  simp only [World.size_alloc] at S
  obtain ⟨c0, c1, c2⟩ := S.cells 2 rfl
  obtain ⟨d0, d1, d2⟩ := S.cells 1 rfl
  have hsz := S.lt 0 rfl
  obtain ⟨T, hT⟩ : ∃ T, T = turnD ca cb ys := ⟨_, rfl⟩
  have HT := Lib.hid hT
  clear hT
  go_enter Try.func44, Try.ntmps44
  go_upto_region 3 with (first | (go_at_call 43; (first | (with_reducible refine (HR1.out _).mono ?_) | (with_reducible refine (HR2.out _).mono ?_)); rintro e w1 ⟨rfl, hb⟩; replace S := S.go hb; clear hb c0 c1 c2 d0 d1 d2 hsz; have hsz := S.lt 0 rfl; obtain ⟨c0, c1, c2⟩ := S.cells 2 rfl; obtain ⟨d0, d1, d2⟩ := S.cells 1 rfl))
  clear c0 c1 c2 d0 d1 d2 HR1 HR2
  obtain ⟨BS, hBS⟩ : ∃ BS : List (Nat × List Value), BS = [(w.heap.size + 1 + 1, [.int .i64 0, .int .i64 0, .slice none 0 0]), (w.heap.size + 1, [.int .i64 ca, .int .i64 cb, .slice B nb capb]), (w.heap.size, [.int .i64 ra, .int .i64 ca, .slice A na cap])] := ⟨_, rfl⟩
  have S2 : Ctx w w1 BS [] := by rw [hBS]; exact S
  clear S
  have HC := Lib.hid (show ∀ x : World, Ctx w x BS [] → x.cell? ⟨w.heap.size, 0, none⟩ = some (.int .i64 ra) ∧ x.cell? ⟨w.heap.size + 1, 1, none⟩ = some (.int .i64 cb) ∧ x.cell? ⟨w.heap.size + 1, 0, none⟩ = some (.int .i64 ca) ∧ x.cell? ⟨w.heap.size + 1, 2, none⟩ = some (.slice B nb capb) by
    rw [hBS]
    exact fun x q => ⟨(q.cells 2 rfl).1, (q.cells 1 rfl).2.1, (q.cells 1 rfl).1, (q.cells 1 rfl).2.2⟩)
  have HBS := Lib.hid hBS
  clear hBS
  go_cut [6, 7] from 6 to 60 (fun s6 s7 wx => MulMid w BS ra ca cb p nb T s6 s7 wx)
  case first =>
    obtain ⟨P, hP⟩ : ∃ P : World → Prop, P = fun x => Ctx w x BS [] := ⟨_, rfl⟩
    have hp0 : P w1 := by rw [hP]; exact S2
    have HB := Lib.hid (show ∀ x : World, P x → Calls Try.prog 54 #[.int .i64 ra, .int .i64 cb] x fun e w' => ∃ g, e = .returned (mV ra cb (some ⟨g, 0, none⟩) p p) ∧ Row w' g 5 (bVs (List.replicate p 0)) ∧ x.heap.size ≤ g ∧ Below x.heap.size x w' from fun x _ => blank_row ra cb p x hra hcb hp)
    have HTU := Lib.hid (show ∀ x : World, P x → Calls Try.prog 55 #[mV ca cb B nb capb] x fun e w' => ∃ g, e = .returned (mV cb ca (some ⟨g, 0, none⟩) nb nb) ∧ Row w' g 5 (bVs T) ∧ x.heap.size ≤ g ∧ Below x.heap.size x w' by
      rw [hP, HT.out]
      exact fun x q => turned_calls ca cb nb B capb ys x hca hcb hnb (hy.go q.below) hcapb)
    have HG := Lib.hid (show ∀ x y : World, P x → Below x.heap.size x y → P y by rw [hP]; exact fun x y q hb => q.go hb)
    have HA := Lib.hid (show ∀ (x : World) o, P x → P (x.alloc o) by rw [hP]; exact fun x o q => q.alloc o)
    have HD := Lib.hid (show ∀ (x : World), P x → P x.drew by rw [hP]; exact fun x q => q.drew)
    have HCC := Lib.hid (show ∀ x : World, P x → x.cell? ⟨w.heap.size, 0, none⟩ = some (.int .i64 ra) ∧ x.cell? ⟨w.heap.size + 1, 1, none⟩ = some (.int .i64 cb) ∧ x.cell? ⟨w.heap.size + 1, 0, none⟩ = some (.int .i64 ca) ∧ x.cell? ⟨w.heap.size + 1, 2, none⟩ = some (.slice B nb capb) by rw [hP]; exact HC.out)
    have HST := Lib.hid (show ∀ (x : World) (a : Addr) (u : Value), w.heap.size + 3 ≤ a.block → P x → P (x.setCell a u) by
      rw [hP]
      intro x a u ha q
      refine q.set (by omega) ?_ u
      rw [HBS.out]
      simp
      omega)
    have HPS := Lib.hid (show ∀ (x : World), P x → w.heap.size + 3 ≤ x.heap.size by
      rw [hP, HBS.out]
      intro x q
      have := q.lt 0 rfl
      omega)
    have HFIN := Lib.hid (show ∀ x, P x → Ctx w x BS [] by rw [hP]; exact fun x q => q)
    clear hP S2
    have hc := HCC.out _ hp0
    have hz1 := HPS.out _ hp0
    go_region_held3 (fun x => P x ∧ x.cell? ⟨w.heap.size, 0, none⟩ = some (.int .i64 ra) ∧ x.cell? ⟨w.heap.size + 1, 1, none⟩ = some (.int .i64 cb) ∧ x.cell? ⟨w.heap.size + 1, 0, none⟩ = some (.int .i64 ca) ∧ x.cell? ⟨w.heap.size + 1, 2, none⟩ = some (.slice B nb capb))
      (first | (refine ⟨?_, HCC.out _ ?_⟩ <;> (repeat' (first | with_reducible exact hp0 | with_reducible refine HD.out _ ?_ | with_reducible exact hpt | with_reducible exact hpb | with_reducible refine HA.out _ _ ?_ | with_reducible refine HST.out _ _ _ (by (try dsimp only); (try simp only [World.size_alloc]); first | omega | (simp; omega)) ?_))))
      (first | (go_at_call 54; (try go_split_ands); refine (HB.out _ (by assumption)).mono ?_; rintro e wb ⟨gm, rfl, hrowm, hgm, hbm⟩; have hpb := HG.out _ _ (by assumption) hbm; have hzb := HPS.out _ hpb; have lM := hrowm.lt; (try simp only [World.size_alloc, size_drew] at hgm); (try ((first | (have rA := box_last hbm) | (have rA := box_lastD hbm)); (try simp only [World.size_alloc] at rA); obtain ⟨a0, a1, a2, a3, a4, a5⟩ := rA.three; have lA := rA.lt)); (try ((first | (have rB := box_prev hbm) | (have rB := box_prevD hbm)); obtain ⟨b0, b1, b2, b3, b4, b5⟩ := rB.three; have lB := rB.lt))) | (go_at_call 55; (try go_split_ands); refine (HTU.out _ (by assumption)).mono ?_; rintro e wt ⟨gt, rfl, hrowt, hgt, hbt⟩; have hpt := HG.out _ _ (by assumption) hbt; have hzt := HPS.out _ hpt; have lT := hrowt.lt; (try simp only [World.size_alloc, size_drew] at hgt); (first | (have rM := carry0 hrowm hbt) | (have rM := carry1 hrowm hbt) | (have rM := carry2 hrowm hbt)); have lM2 := rM.lt; (try (have rC := box_last hbt; (try simp only [World.size_alloc] at rC); obtain ⟨a0, a1, a2, a3, a4, a5⟩ := rC.three; have lC := rC.lt)); (try (have rD := box_prev hbt; obtain ⟨b0, b1, b2, b3, b4, b5⟩ := rD.three; have lD := rD.lt)); (try ((first | (have rE := carry0 rA hbt) | (have rE := carry1 rA hbt) | (have rE := carry2 rA hbt)); obtain ⟨a0, a1, a2, a3, a4, a5⟩ := rE.three; have lE := rE.lt)); (try ((first | (have rF := carry0 rB hbt) | (have rF := carry1 rB hbt) | (have rF := carry2 rB hbt)); obtain ⟨b0, b1, b2, b3, b4, b5⟩ := rF.three; have lF := rF.lt))))
    all_goals (go_split_ands; go_wp2_with fail; go_meet; refine ⟨_, _, gm, gt, rfl, rfl, by omega, by omega, by omega, by omega, by omega, by omega, by omega, by omega, by omega, ((HFIN.out _ (by assumption)).cons ?_).cons ?_, ?_, ?_⟩ <;> (repeat' (first | with_reducible assumption | with_reducible refine Row.newE _ _ _ (by first | with_reducible rfl | (simp; done)) | with_reducible refine Row.drew ?_ | with_reducible refine Row.alloc ?_ _ | with_reducible refine Row.set3 (a := .int .i64 0) (b := .int .i64 0) (c := .slice none 0 0) ?_ _ _ _ | with_reducible refine Row.far3 ?_ (by omega) _ _ _)))
  case rest =>
    clear S2 HC
    obtain ⟨g6, g7, gm, gt, rfl, rfl, k6, k7, km, n1, n2, n3, n4, n5, n6, S, hrow, hrt⟩ := hcut
    obtain ⟨B2, hB2⟩ : ∃ B2 : List (Nat × List Value), B2 = (g6, [.int .i64 ra, .int .i64 cb, .slice (some ⟨gm, 0, none⟩) p p]) :: (g7, [.int .i64 cb, .int .i64 ca, .slice (some ⟨gt, 0, none⟩) nb nb]) :: BS := ⟨_, rfl⟩
    rw [← hB2] at S
    rw [HBS.out] at hB2
    have HC := Lib.hid (show ∀ x : World, Ctx w x B2 [] → x.cell? ⟨w.heap.size, 0, none⟩ = some (.int .i64 ra) ∧ x.cell? ⟨w.heap.size, 1, none⟩ = some (.int .i64 ca) ∧ x.cell? ⟨w.heap.size, 2, none⟩ = some (.slice A na cap) ∧ x.cell? ⟨g6, 0, none⟩ = some (.int .i64 ra) ∧ x.cell? ⟨g6, 1, none⟩ = some (.int .i64 cb) ∧ x.cell? ⟨g6, 2, none⟩ = some (.slice (some ⟨gm, 0, none⟩) p p) ∧ x.cell? ⟨g7, 0, none⟩ = some (.int .i64 cb) ∧ x.cell? ⟨g7, 1, none⟩ = some (.int .i64 ca) ∧ x.cell? ⟨g7, 2, none⟩ = some (.slice (some ⟨gt, 0, none⟩) nb nb) by
      rw [hB2]
      exact fun x q => ⟨(q.cells 4 rfl).1, (q.cells 4 rfl).2.1, (q.cells 4 rfl).2.2, (q.cells 0 rfl).1, (q.cells 0 rfl).2.1, (q.cells 0 rfl).2.2, (q.cells 1 rfl).1, (q.cells 1 rfl).2.1, (q.cells 1 rfl).2.2⟩)
    have HE := Lib.hid (show ∀ x : World, Ctx w x B2 [] → Row x (w.heap.size + 1 + 1) 37 [.int .i64 0, .int .i64 0, .slice none 0 0] by rw [hB2]; exact fun x q => q.row 2 rfl)
    have HSET := Lib.hid (show ∀ (x : World) (q : Nat) (v : Value), Ctx w x B2 [] → Ctx w (x.setCell ⟨gm, q, none⟩ v) B2 [] by
      intro x q v h
      refine h.set (p := ⟨gm, q, none⟩) (by simp; omega) ?_ v
      rw [hB2]
      simp
      omega)
    clear hB2 HBS
    obtain ⟨F, hF⟩ : ∃ F, F = mulF ca cb xs ys := ⟨_, rfl⟩
    have HF := Lib.hid hF
    clear hF
    have hF0 := fillT_start ra cb F
    rw [← hp.out] at hF0
    rw [hF0] at hrow
    clear hF0
    obtain ⟨c0, c1, c2, d0, d1, d2, e0, e1, e2⟩ := HC.out _ S
    have HS := Lib.hid S
    have HROW := Lib.hid hrow
    have HRT := Lib.hid hrt
    clear S hrow hrt
    go_wp2_with fail
    clear c0 c1 c2 d0 d1 d2 e0 e1 e2
    go_loopw [35] (fun v35 wr => ∃ i : Nat, i ≤ ra ∧ v35 = .int .i64 (i : Int) ∧ Row wr gm 5 (bVs (fillT ra cb F i 0)) ∧ Row wr gt 5 (bVs T) ∧ Ctx w wr B2 []) (fun v35 _ => ra - (intOf v35).toNat)
    case atStart => exact ⟨0, by omega, rfl, HROW.out, HRT.out, HS.out⟩
    case round =>
      obtain ⟨i, hi, rfl, hrow, hrt, S⟩ := hrel
      clear HROW HS HRT
      obtain ⟨wo, rfl⟩ : ∃ wo : World, wo = wr := ⟨_, rfl⟩
      obtain ⟨c0, c1, c2, d0, d1, d2, e0, e1, e2⟩ := HC.out _ S
      have HS := Lib.hid S
      have HROW := Lib.hid hrow
      have HRT := Lib.hid hrt
      clear S hrow hrt
      by_cases hlt : i < ra
      · go_wp2_with fail
        clear c0 c1 c2 d0 d1 d2 e0 e1 e2
        go_loopw [40] (fun v40 wr => ∃ j : Nat, j ≤ cb ∧ v40 = .int .i64 (j : Int) ∧ Row wr gm 5 (bVs (fillT ra cb F i j)) ∧ Row wr gt 5 (bVs T) ∧ Ctx w wr B2 []) (fun v40 _ => cb - (intOf v40).toNat)
        case atStart => exact ⟨0, by omega, rfl, HROW.out, HRT.out, HS.out⟩
        case round =>
          obtain ⟨j, hj, rfl, hrow, hrt, S⟩ := hrel
          clear HROW HS HRT
          obtain ⟨c0, c1, c2, d0, d1, d2, e0, e1, e2⟩ := HC.out _ S
          by_cases hlj : j < cb
          · have HFS := Lib.hid (fillT_set (R := ra) (C := cb) (i := i) (j := j) F hlt hlj)
            obtain ⟨new, hnew⟩ : ∃ new, new = fillT ra cb F i (j + 1) := ⟨_, rfl⟩
            rw [← hnew] at HFS
            have HNEW := Lib.hid hnew
            have hlen := fillT_length ra cb i j F
            have hq := place_lt hlt hlj
            have hxl : xs.length = ra * ca := by have := hx.len; rw [bVs_length] at this; rw [this, hna.out]
            have HV := dot_rows (ys := ys) hxl hlt hlj
            rw [← HT.out, ← HF.out] at HV
            have hTl : T.length = nb := by rw [HT.out, turnD_length, hnb.out, Nat.mul_comm]
            obtain ⟨v, hv⟩ : ∃ v, v = F i j := ⟨_, rfl⟩
            rw [← hv] at HFS HV
            have f1 : (i + 1) * cb = i * cb + cb := by rw [Nat.add_mul]; omega
            have f2 : (i + 1) * ca = i * ca + ca := by rw [Nat.add_mul]; omega
            have f3 : (j + 1) * ca = j * ca + ca := by rw [Nat.add_mul]; omega
            have h1 : i * cb + cb ≤ p := by rw [hp.out, ← f1]; exact Nat.mul_le_mul_right cb hlt
            have h2 : i * ca + ca ≤ na := by rw [hna.out, ← f2]; exact Nat.mul_le_mul_right ca hlt
            have h3 : j * ca + ca ≤ nb := by rw [hnb.out, Nat.mul_comm ca cb, ← f3]; exact Nat.mul_le_mul_right ca hlj
            rw [← hp.out] at hq hlen
            obtain ⟨kr, hkr⟩ : ∃ k, k = i * cb := ⟨_, rfl⟩
            obtain ⟨ka, hka⟩ : ∃ k, k = i * ca := ⟨_, rfl⟩
            obtain ⟨kb, hkb⟩ : ∃ k, k = j * ca := ⟨_, rfl⟩
            have HR1 := Lib.hid (fun w => row_calls ra cb i (some ⟨gm, 0, none⟩) p p kr (kr + cb) w hra hcb hlt hkr (Lib.hid (by rw [hkr]; exact f1.symm)) (by rw [hkr]; exact h1) (Nat.le_refl _))
            have HR2 := Lib.hid (fun w => row_calls ra ca i A na cap ka (ka + ca) w hra hca hlt hka (Lib.hid (by rw [hka]; exact f2.symm)) (by rw [hka]; exact h2) hcap)
            have HR3 := Lib.hid (fun w => row_calls cb ca j (some ⟨gt, 0, none⟩) nb nb kb (kb + ca) w hcb hca hlj hkb (Lib.hid (by rw [hkb]; exact f3.symm)) (by rw [hkb]; exact h3) (Nat.le_refl _))
            rw [rowA_plain (by omega), Nat.zero_add] at HR1
            rw [← hkr] at hq h1 HFS
            rw [← hka] at h2 HV
            rw [← hkb] at h3 HV
            clear hkr hka hkb f1 f2 f3 hnew hv
            obtain ⟨ra1, hra1⟩ : ∃ l, l = (xs.drop ka).take ca := ⟨_, rfl⟩
            obtain ⟨rt1, hrt1⟩ : ∃ l, l = (T.drop kb).take ca := ⟨_, rfl⟩
            rw [← hra1, ← hrt1] at HV
            obtain ⟨P, hP⟩ : ∃ P : World → Prop, P = fun x => Ctx w x B2 [] ∧ Row x gt 5 (bVs T) ∧ CurS x gm (kr + j) v new := ⟨_, rfl⟩
            have hp0 : P wr := by rw [hP]; exact ⟨S, hrt, _, by rw [hlen]; exact hq, HFS.out, hrow⟩
            have HCUR : ∀ x, P x → ∃ old, x.cell? ⟨gm, kr + j, none⟩ = some old := by rw [hP]; exact fun x q => q.2.2.cell
            obtain ⟨cur, hcur⟩ : ∃ cur : World → Value, ∀ x, P x → x.cell? ⟨gm, kr + j, none⟩ = some (cur x) := by
              refine ⟨fun x => (x.cell? ⟨gm, kr + j, none⟩).getD (.bool false), fun x hx => ?_⟩
              obtain ⟨old, h⟩ := HCUR x hx
              simp [h]
            have HDOT := Lib.hid (show ∀ x : World, P x → Calls Try.prog 56 #[.slice (rowA A ca ka) ca ca, .slice (rowA (some ⟨gt, 0, none⟩) ca kb) ca ca] x fun e w' => e = .returned (.tuple #[.int .u8 (v.toNat : Int), .int .i64 0]) ∧ Below x.heap.size x w' by
              rw [hP, ← HV, hra1, hrt1]
              exact fun x q => dot_calls _ _ _ _ _ _ _ _ (rd_row (hx.go q.1.below) h2) (rd_row (q.2.1.rd hTl) h3) (by omega))
            have HG := Lib.hid (show ∀ x y : World, P x → Below x.heap.size x y → P y by rw [hP]; exact fun x y q hb => ⟨q.1.go hb, carry0 q.2.1 hb, q.2.2.go hb⟩)
            have HD := Lib.hid (show ∀ x : World, P x → P x.drew by rw [hP]; exact fun x q => ⟨q.1.drew, q.2.1, q.2.2.drew⟩)
            have HST := Lib.hid (show ∀ x : World, P x → P (x.setCell ⟨gm, kr + j, none⟩ (.int .u8 (v.toNat : Int))) by rw [hP]; exact fun x q => ⟨HSET.out _ _ _ q.1, q.2.1.far (by simp; omega) _, q.2.2.set⟩)
            have HCC := Lib.hid (show ∀ x : World, P x → x.cell? ⟨w.heap.size, 0, none⟩ = some (.int .i64 ra) ∧ x.cell? ⟨w.heap.size, 1, none⟩ = some (.int .i64 ca) ∧ x.cell? ⟨w.heap.size, 2, none⟩ = some (.slice A na cap) ∧ x.cell? ⟨g6, 0, none⟩ = some (.int .i64 ra) ∧ x.cell? ⟨g6, 1, none⟩ = some (.int .i64 cb) ∧ x.cell? ⟨g6, 2, none⟩ = some (.slice (some ⟨gm, 0, none⟩) p p) ∧ x.cell? ⟨g7, 0, none⟩ = some (.int .i64 cb) ∧ x.cell? ⟨g7, 1, none⟩ = some (.int .i64 ca) ∧ x.cell? ⟨g7, 2, none⟩ = some (.slice (some ⟨gt, 0, none⟩) nb nb) ∧ x.cell? ⟨gm, kr + j, none⟩ = some (cur x) ∧ x.frozen? ⟨gm, kr + j, none⟩ = false by
              intro x q
              have h := hcur x q
              rw [hP] at q
              obtain ⟨q1, q2, q3, q4, q5, q6, q7, q8, q9⟩ := HC.out x q.1
              exact ⟨q1, q2, q3, q4, q5, q6, q7, q8, q9, h, q.2.2.frozen⟩)
            have HALL := Lib.hid (show ∀ x : World, P (x.setCell ⟨gm, kr + j, none⟩ (.int .u8 (v.toNat : Int))) → Ctx w (x.setCell ⟨gm, kr + j, none⟩ (.int .u8 (v.toNat : Int))) B2 [] ∧ Row (x.setCell ⟨gm, kr + j, none⟩ (.int .u8 (v.toNat : Int))) gt 5 (bVs T) ∧ Row (x.setCell ⟨gm, kr + j, none⟩ (.int .u8 (v.toNat : Int))) gm 5 (bVs new) by rw [hP]; exact fun x q => ⟨q.1, q.2.1, q.2.2.fin⟩)
            clear hP hcur HCUR S hrow hrt HV hra1 hrt1 hxl hTl
            go_wp2_with fail
            have hc := HCC.out _ hp0
            go_region_held3 (fun x => P x ∧ x.cell? ⟨w.heap.size, 0, none⟩ = some (.int .i64 ra) ∧ x.cell? ⟨w.heap.size, 1, none⟩ = some (.int .i64 ca) ∧ x.cell? ⟨w.heap.size, 2, none⟩ = some (.slice A na cap) ∧ x.cell? ⟨g6, 0, none⟩ = some (.int .i64 ra) ∧ x.cell? ⟨g6, 1, none⟩ = some (.int .i64 cb) ∧ x.cell? ⟨g6, 2, none⟩ = some (.slice (some ⟨gm, 0, none⟩) p p) ∧ x.cell? ⟨g7, 0, none⟩ = some (.int .i64 cb) ∧ x.cell? ⟨g7, 1, none⟩ = some (.int .i64 ca) ∧ x.cell? ⟨g7, 2, none⟩ = some (.slice (some ⟨gt, 0, none⟩) nb nb) ∧ x.cell? ⟨gm, kr + j, none⟩ = some (cur x) ∧ x.frozen? ⟨gm, kr + j, none⟩ = false)
              (first | (go_split_ands; have q := HG.out _ _ (by assumption) hbk; exact ⟨q, HCC.out _ q⟩) | (go_split_ands; have q := HST.out _ (by assumption); exact ⟨q, HCC.out _ q⟩) | (go_split_ands; have q := HD.out _ (by assumption); exact ⟨q, HCC.out _ q⟩))
              (first | (go_at_call 57; (first | (with_reducible refine (HR1.out _).mono ?_) | (with_reducible refine (HR2.out _).mono ?_) | (with_reducible refine (HR3.out _).mono ?_)); rintro e wk ⟨rfl, hbk⟩) | (go_at_call 56; (try go_split_ands); refine (HDOT.out _ (by assumption)).mono ?_; rintro e wk ⟨rfl, hbk⟩))
            go_wp2_with fail
            go_split_ands
            go_roundw
            case rel => exact ⟨j + 1, by omega, by go_num, by rw [← HNEW.out]; exact (HALL.out _ (by assumption)).2.2, (HALL.out _ (by assumption)).2.1, (HALL.out _ (by assumption)).1⟩
            case measure => simp [intOf]; omega
          · obtain rfl : j = cb := by omega
            have HN := Lib.hid (fillT_next ra j i F)
            go_wp2_with fail
            go_roundw
            case rel => exact ⟨i + 1, by omega, by go_num, by rw [← HN.out]; exact hrow, hrt, S⟩
            case measure => simp [intOf]; omega
      · obtain rfl : i = ra := by omega
        obtain ⟨h0, h1, h2, f0, f1, f2⟩ := (HE.out _ HS.out).three
        have HN := Lib.hid (fillT_end i cb F)
        go_wp2_with fail
        refine bodyPost_ret (v := .tuple #[mV i cb (some ⟨gm, 0, none⟩) p p, .int .i64 0]) (by simp [results, Try.results44, go_sem, h0, h1, h2]) rfl ⟨gm, rfl, ?_, by omega, below_set3 HS.out.below (by omega) _ _ _⟩
        have h := HROW.out
        rw [HN.out, HF.out] at h
        exact h.far3 (by omega) _ _ _
end Go.Proofs.Ythbjcafldbocpaa
namespace Go.Proofs.Ythbjcafldbocpaa
open Go.RowKit
set_option linter.unusedVariables false
set_option linter.unusedSimpArgs false

def muR (b : Bool) (ra : Int) : Int := if b then ra else 0
def muE (b : Bool) : Int := if b then 0 else 3
def muN (b : Bool) (ra cb : Int) : Nat := if b then ra.toNat * cb.toNat else 0
def muD (b : Bool) (ra ca cb : Int) (xs ys : List UInt8) : List UInt8 := if b then mulG ra.toNat ca.toNat cb.toNat xs ys else []
theorem right_nat {r c : Int} {n : Nat} (h : rightB r c n = true) : ∃ a b : Nat, r = a ∧ c = b ∧ a ≤ 64 ∧ b ≤ 64 ∧ n = a * b := by
  simp [rightB] at h
  refine ⟨r.toNat, c.toNat, by omega, by omega, by omega, by omega, ?_⟩
  apply Int.ofNat_inj.1
  rw [Int.natCast_mul, Int.toNat_of_nonneg h.1.1, Int.toNat_of_nonneg h.2.1.1]
  exact h.2.2
end Go.Proofs.Ythbjcafldbocpaa
namespace Go.Proofs.Ythbjcafldbocpaa
open Go.RowKit Go.Proofs.YthbjcafldbocpaaW.PrintWords
set_option linter.unusedVariables false
set_option linter.unusedSimpArgs false

theorem nI_set (xs : List UInt8) (i : Nat) (x : UInt8) : (nI xs).set i (x.toNat : Int) = nI (xs.set i x) := by simp [nI, List.map_set]
theorem nI_rep (n : Nat) : List.replicate n (0 : Int) = nI (List.replicate n 0) := by simp [nI]
theorem rd_nI (xs : List UInt8) (i : Nat) : rd (nI xs) (i : Int) = ((xs.getD i 0).toNat : Int) := by
  unfold rd nI
  rw [Int.toNat_natCast, List.getD_eq_getElem?_getD, List.getElem?_map, List.getD_eq_getElem?_getD]
  cases xs[i]? <;> simp
theorem w64 {e : Int} (h0 : -9223372036854775808 ≤ e) (h1 : e ≤ 9223372036854775807) : wrap64 e = e := by
  unfold wrap64
  omega
theorem w64_succ {i : Nat} (h : i ≤ 9223372036854775806) : wrap64 ((i : Int) + 1) = ((i + 1 : Nat) : Int) := by
  rw [w64 (by omega) (by omega)]; rfl
theorem w64_mul {i c : Nat} (h : i * c ≤ 9223372036854775807) : wrap64 ((i : Int) * (c : Int)) = ((i * c : Nat) : Int) := by
  rw [← Int.natCast_mul, w64 (by omega) (by omega)]
theorem w64_add {i c : Nat} (h : i + c ≤ 9223372036854775807) : wrap64 ((i : Int) + (c : Int)) = ((i + c : Nat) : Int) := by
  rw [← Int.natCast_add, w64 (by omega) (by omega)]
theorem w64_place {i c j : Nat} (h : i * c + j ≤ 9223372036854775807) : wrap64 (wrap64 ((i : Int) * (c : Int)) + (j : Int)) = ((i * c + j : Nat) : Int) := by
  rw [w64_mul (by omega), w64_add h]
theorem getD_set_same (xs : List UInt8) (p : Nat) (x : UInt8) (h : p < xs.length) : (xs.set p x).getD p 0 = x := by
  rw [List.getD_eq_getElem?_getD, List.getElem?_set]
  simp [h]
theorem add_xor (a b : UInt8) : Go.bits .xor .u8 (a.toNat : Int) (b.toNat : Int) = ((Gf.add a b).toNat : Int) := bxor_u8 a b
end Go.Proofs.Ythbjcafldbocpaa
namespace Go.Proofs.Ythbjcafldbocpaa
open Go.RowKit
set_option linter.unusedVariables false
set_option linter.unusedSimpArgs false

set_option maxRecDepth 100000 in
set_option maxHeartbeats 800000 in
theorem refRight_calls (r c : Int) (A : Option Addr) (n cap : Nat) (w : World) : Calls Try.prog 15 #[mV r c A n cap] w fun e w' => e = .returned (.bool (rightB r c n)) ∧ Below w.heap.size w w' := by
  have hB : Below w.heap.size w (w.alloc (.cells #[.int .i64 r, .int .i64 c, .slice A n cap] 37)) := (Below.refl _ _).alloc (Nat.le_refl _) _
  have HB := Lib.hid hB
  clear hB
  by_cases h1 : 0 ≤ r
  · have d1 : decide (0 ≤ r) = true := by simpa using h1
    by_cases h2 : r ≤ 64
    · have d2 : decide (r ≤ 64) = true := by simpa using h2
      by_cases h3 : 0 ≤ c
      · have d3 : decide (0 ≤ c) = true := by simpa using h3
        by_cases h4 : c ≤ 64
        · have d4 : decide (c ≤ 64) = true := by simpa using h4
          obtain ⟨p, hp⟩ : ∃ p, p = r * c := ⟨_, rfl⟩
          have hb := prod_bd h1 h2 h3 h4
          have e1 : IntKind.i64.wrap (r * c) = p := by rw [IntKind.wrap_i64, hp]; omega
          have H := Lib.hid (show rightB r c n = decide ((n : Int) = p) by rw [hp]; simp [rightB, h1, h2, h3, h4])
          clear hb hp
          by_cases hn : (n : Int) = p
          · have q : ((n : Int) == p) = true := by simpa using hn
            have HN := Lib.hid (show decide ((n : Int) = p) = true by simpa using hn)
            clear hn
            go_enter Try.func15, Try.ntmps15
            go_wp2_with fail
            go_ret
            exact ⟨by rw [H.out, HN.out]; rfl, HB.out⟩
          · have q : ((n : Int) == p) = false := by simpa using hn
            have HN := Lib.hid (show decide ((n : Int) = p) = false by simpa using hn)
            clear hn
            go_enter Try.func15, Try.ntmps15
            go_wp2_with fail
            go_ret
            exact ⟨by rw [H.out, HN.out]; rfl, HB.out⟩
        · have d4 : decide (c ≤ 64) = false := by simpa using h4
          have H := Lib.hid (show rightB r c n = false by simp [rightB, h4])
          go_enter Try.func15, Try.ntmps15
          go_wp2_with fail
          go_ret
          exact ⟨by rw [H.out]; rfl, HB.out⟩
      · have d3 : decide (0 ≤ c) = false := by simpa using h3
        have H := Lib.hid (show rightB r c n = false by simp [rightB, h3])
        go_enter Try.func15, Try.ntmps15
        go_wp2_with fail
        go_ret
        exact ⟨by rw [H.out]; rfl, HB.out⟩
    · have d2 : decide (r ≤ 64) = false := by simpa using h2
      have H := Lib.hid (show rightB r c n = false by simp [rightB, h2])
      go_enter Try.func15, Try.ntmps15
      go_wp2_with fail
      go_ret
      exact ⟨by rw [H.out]; rfl, HB.out⟩
  · have d1 : decide (0 ≤ r) = false := by simpa using h1
    have H := Lib.hid (show rightB r c n = false by simp [rightB, h1])
    go_enter Try.func15, Try.ntmps15
    go_wp2_with fail
    go_ret
    exact ⟨by rw [H.out]; rfl, HB.out⟩
end Go.Proofs.Ythbjcafldbocpaa
namespace Go.Proofs.Ythbjcafldbocpaa
open Go.RowKit
set_option linter.unusedVariables false
set_option linter.unusedSimpArgs false
set_option maxHeartbeats 4000000 in
set_option maxRecDepth 100000 in
theorem do_out (gt ga gz nr no n reads nS cS : Nat) (AS : Option Addr) (D S : Nat) (C : UInt8) (st : VS) (W : World) (h : DW W gt ga gz nr no n st) (hn : n ≤ 64) (hnr : nr ≤ 256) :
    Calls Try.prog 51 #[.pointer (some ⟨gt, 0, none⟩), .agg #[.slice AS nS cS, .int .i64 (nr : Int), .int .i64 (no : Int), .int .u64 (reads : Int)], .agg #[.int .u8 4, .int .i64 (D : Int), .int .i64 (S : Int), .int .u8 (C.toNat : Int)], .int .i64 (n : Int)] W fun e W' =>
      Chg3 W.heap.size gt ga gz W W' ∧ (∀ st', vStep nr no reads n st 4 D S C = some st' → e = .returned (.bool true) ∧ DW W' gt ga gz nr no n st') ∧ (vStep nr no reads n st 4 D S C = none → e = .returned (.bool false)) := by
  have i0 : (0 : Int) ≤ (D : Int) := by omega
  have j0 : (0 : Int) ≤ (S : Int) := by omega
  go_enter Try.func51, Try.ntmps51
  go_wp2_with fail
  obtain ⟨W1, hW1⟩ : ∃ W1, W1 = (W.alloc (.cells #[.slice AS nS cS, .int .i64 (nr : Int), .int .i64 (no : Int), .int .u64 (reads : Int)] 26)).alloc (.cells #[.int .u8 4, .int .i64 (D : Int), .int .i64 (S : Int), .int .u8 (C.toNat : Int)] 59) := ⟨_, rfl⟩
  have q : Below W.heap.size W W1 := by rw [hW1]; exact ((Below.refl _ _).alloc (Nat.le_refl _) _).alloc (by simp) _
  have hp : Row W1 W.heap.size 26 [.slice AS nS cS, .int .i64 (nr : Int), .int .i64 (no : Int), .int .u64 (reads : Int)] := by rw [hW1]; exact (Row.new W _ _).alloc _
  have hs : Row W1 (W.heap.size + 1) 59 [.int .u8 4, .int .i64 (D : Int), .int .i64 (S : Int), .int .u8 (C.toNat : Int)] := by
    rw [hW1]
    have := Row.new (W.alloc (.cells #[.slice AS nS cS, .int .i64 (nr : Int), .int .i64 (no : Int), .int .u64 (reads : Int)] 26)) [.int .u8 4, .int .i64 (D : Int), .int .i64 (S : Int), .int .u8 (C.toNat : Int)] 59
    simpa using this
  have h1 := h.below q
  have ltt := h.ht.lt
  have lta : ga < W.heap.size := by obtain ⟨lv, hr, _⟩ := h.la; exact hr.lt
  have ltz : gz < W.heap.size := by obtain ⟨lv, hr, _⟩ := h.lz; exact hr.lt
  rw [← hW1]
  clear hW1 h
  obtain ⟨lv, hra, hva⟩ := h1.la
  obtain ⟨lz, hrz, hvz⟩ := h1.lz
  have k0 : W1.cell? ⟨gt, 0, none⟩ = some (.slice (some ⟨ga, 0, none⟩) nr nr) := h1.ht.cell 0
  have s0 : W1.cell? ⟨W.heap.size + 1, 0, none⟩ = some (.int .u8 4) := hs.cell 0
  have s1 : W1.cell? ⟨W.heap.size + 1, 1, none⟩ = some (.int .i64 (D : Int)) := hs.cell 1
  have s2 : W1.cell? ⟨W.heap.size + 1, 2, none⟩ = some (.int .i64 (S : Int)) := hs.cell 2
  have e1 : ∀ k : Nat, W1.heap[k]? = W1.heap[k]? := fun _ => rfl
  obtain ⟨bD, hbD⟩ : ∃ b, (st.regs.getD D none).isSome = b := ⟨_, rfl⟩
  obtain ⟨bS, hbS⟩ : ∃ b, (st.regs.getD S none).isSome = b := ⟨_, rfl⟩
  have HID := Lib.hid (fun (X : World) (e : ∀ k : Nat, X.heap[k]? = W1.heap[k]?) => inside_is X ga nr D lv st.regs ((e ga).trans hra) (hva.keep (fun g _ _ => e g)) h1.ok.lr _ hbD)
  have HIS := Lib.hid (fun (X : World) (e : ∀ k : Nat, X.heap[k]? = W1.heap[k]?) => inside_is X ga nr S lv st.regs ((e ga).trans hra) (hva.keep (fun g _ _ => e g)) h1.ok.lr _ hbS)
  have HBD := Lib.hid hbD
  have HBS := Lib.hid hbS
  clear hbD hbS
  have H1 := Lib.hid h1
  have HS := Lib.hid hs
  have HP := Lib.hid hp
  have HQ := Lib.hid q
  have HRA := Lib.hid hra
  have HVA := Lib.hid hva
  have HRZ := Lib.hid hrz
  have HVZ := Lib.hid hvz
  clear h1 hs hp q hra hva hrz hvz
  go_quiet (exact Calls.quiet_of_same (HID.out _ (fun _ => rfl)))
  obtain ⟨W2, hW2⟩ : ∃ W2, W2 = W1.drewN nq := ⟨_, rfl⟩
  have e2 : ∀ k : Nat, W2.heap[k]? = W1.heap[k]? := by rw [hW2]; exact e1
  rw [← hW2]
  have k0 : W2.cell? ⟨gt, 0, none⟩ = some (.slice (some ⟨ga, 0, none⟩) nr nr) := by rw [hW2]; exact k0
  have s0 : W2.cell? ⟨W.heap.size + 1, 0, none⟩ = some (.int .u8 4) := by rw [hW2]; exact s0
  have s1 : W2.cell? ⟨W.heap.size + 1, 1, none⟩ = some (.int .i64 (D : Int)) := by rw [hW2]; exact s1
  have s2 : W2.cell? ⟨W.heap.size + 1, 2, none⟩ = some (.int .i64 (S : Int)) := by rw [hW2]; exact s2
  have HW2 := Lib.hid hW2
  clear hW2
  go_wp2_with fail
  go_quiet (exact Calls.quiet_of_same (HIS.out _ e2))
  obtain ⟨W3, hW3⟩ : ∃ W3, W3 = W2.drewN nq := ⟨_, rfl⟩
  have e3 : ∀ k : Nat, W3.heap[k]? = W1.heap[k]? := by rw [hW3]; exact e2
  rw [← hW3]
  have k0 : W3.cell? ⟨gt, 0, none⟩ = some (.slice (some ⟨ga, 0, none⟩) nr nr) := by rw [hW3]; exact k0
  have s0 : W3.cell? ⟨W.heap.size + 1, 0, none⟩ = some (.int .u8 4) := by rw [hW3]; exact s0
  have s1 : W3.cell? ⟨W.heap.size + 1, 1, none⟩ = some (.int .i64 (D : Int)) := by rw [hW3]; exact s1
  have s2 : W3.cell? ⟨W.heap.size + 1, 2, none⟩ = some (.int .i64 (S : Int)) := by rw [hW3]; exact s2
  have p1 : W3.cell? ⟨W.heap.size, 1, none⟩ = some (.int .i64 (nr : Int)) := (HP.out.of_block (w' := W3) (e3 _)).cell 1
  have p2 : W3.cell? ⟨W.heap.size, 2, none⟩ = some (.int .i64 (no : Int)) := (HP.out.of_block (w' := W3) (e3 _)).cell 2
  have p3 : W3.cell? ⟨W.heap.size, 3, none⟩ = some (.int .u64 (reads : Int)) := (HP.out.of_block (w' := W3) (e3 _)).cell 3
  have q3 : Below W.heap.size W W3 := by rw [hW3, HW2.out]; exact below_drewN (below_drewN HQ.out _) _
  have HW3 := Lib.hid hW3
  clear hW3
  have D3 := Lib.hid (H1.out.below (W' := W3) (show Below W1.heap.size W1 W3 by rw [HW3.out, HW2.out]; exact below_drewN (below_drewN (Below.refl _ _) _) _))
  have k1 : W3.cell? ⟨gt, 1, none⟩ = some (.slice (some ⟨gz, 0, none⟩) no no) := D3.out.ht.cell 1
  cases hs : st.regs.getD S none with
  | none =>
    have hv : vStep nr no reads n st 4 D S C = none := by
      unfold vStep
      rw [if_neg (by decide), if_neg (by decide), if_neg (by decide), if_pos rfl, hs]
    obtain rfl : bS = false := by rw [← HBS.out, hs]; rfl
    go_wp2_with fail
    refine wp_region_held_drew (S := (fun x => x.cell? ⟨W.heap.size + 1, 1, none⟩ = some (.int .i64 (D : Int)) ∧ x.cell? ⟨W.heap.size, 2, none⟩ = some (.int .i64 (no : Int)) ∧ x.cell? ⟨gt, 1, none⟩ = some (.slice (some ⟨gz, 0, none⟩) no no))) (by kernel_rfl) ⟨s1, p2, k1⟩ (fun hHeld => ?_)
    refine wpAnyH_take (i := 0) (v := ?_) rfl (by kernel_rfl) (by kernel_rfl) (by kernel_rfl) (fun _ _ _ h => h) (Or.inl ⟨by kernel_rfl, ?_⟩) (by assumption) ?_
    rotate_left
    · (intro w hSw; (try dsimp only at hSw); go_simp; (try with_reducible rfl))
    try simp only [List.getElem_toArray, List.getElem_cons_succ, List.getElem_cons_zero, Act.put, List.setIfInBounds_toArray, List.set_cons_zero, List.set_cons_succ]
    refine wpAnyH_take (i := 1) (v := ?_) rfl (by kernel_rfl) (by kernel_rfl) (by kernel_rfl) (fun _ _ _ h => h) (Or.inl ⟨by kernel_rfl, ?_⟩) (by assumption) ?_
    rotate_left
    · (intro w hSw; (try dsimp only at hSw); go_simp; (try with_reducible rfl))
    try simp only [List.getElem_toArray, List.getElem_cons_succ, List.getElem_cons_zero, Act.put, List.setIfInBounds_toArray, List.set_cons_zero, List.set_cons_succ]
    refine wpAnyH_take (i := 2) (v := ?_) rfl (by kernel_rfl) (by kernel_rfl) (by kernel_rfl) (fun _ _ _ h => h) (Or.inl ⟨by kernel_rfl, ?_⟩) (by assumption) ?_
    rotate_left
    · (intro w hSw; (try dsimp only at hSw); go_simp; (try with_reducible rfl))
    try simp only [List.getElem_toArray, List.getElem_cons_succ, List.getElem_cons_zero, Act.put, List.setIfInBounds_toArray, List.set_cons_zero, List.set_cons_succ]
    refine wpAnyH_take (i := 3) rfl (by kernel_rfl) (by kernel_rfl) (by kernel_rfl) (fun _ _ _ h => h) (Or.inr ⟨by kernel_rfl, rfl⟩) (by assumption) ?_
    try simp only [List.getElem_toArray, List.getElem_cons_succ, List.getElem_cons_zero, Act.put, List.setIfInBounds_toArray, List.set_cons_zero, List.set_cons_succ]
    refine wpAnyH_take (i := 4) rfl (by kernel_rfl) (by kernel_rfl) (by kernel_rfl) (fun _ _ _ h => h) (Or.inr ⟨by kernel_rfl, rfl⟩) (by assumption) ?_
    try simp only [List.getElem_toArray, List.getElem_cons_succ, List.getElem_cons_zero, Act.put, List.setIfInBounds_toArray, List.set_cons_zero, List.set_cons_succ]
    refine wpAnyH_take (i := 5) rfl (by kernel_rfl) (by kernel_rfl) (by kernel_rfl) (fun _ _ _ h => h) (Or.inr ⟨by kernel_rfl, rfl⟩) (by assumption) ?_
    try simp only [List.getElem_toArray, List.getElem_cons_succ, List.getElem_cons_zero, Act.put, List.setIfInBounds_toArray, List.set_cons_zero, List.set_cons_succ]
    refine wpAnyH_take (i := 6) rfl (by kernel_rfl) (by kernel_rfl) (by kernel_rfl) (fun _ _ _ h => h) (Or.inr ⟨by kernel_rfl, rfl⟩) (by assumption) ?_
    try simp only [List.getElem_toArray, List.getElem_cons_succ, List.getElem_cons_zero, Act.put, List.setIfInBounds_toArray, List.set_cons_zero, List.set_cons_succ]
    refine wpAnyH_take (i := 7) rfl (by kernel_rfl) (by kernel_rfl) (by kernel_rfl) (fun _ _ _ h => h) (Or.inr ⟨by kernel_rfl, rfl⟩) (by assumption) ?_
    try simp only [List.getElem_toArray, List.getElem_cons_succ, List.getElem_cons_zero, Act.put, List.setIfInBounds_toArray, List.set_cons_zero, List.set_cons_succ]
    refine wpAnyH_take (i := 8) (v := ?_) rfl (by kernel_rfl) (by kernel_rfl) (by kernel_rfl) (fun _ _ _ h => h) (Or.inl ⟨by kernel_rfl, ?_⟩) (by assumption) ?_
    rotate_left
    · (intro w hSw; (try dsimp only at hSw); go_simp; (try with_reducible rfl))
    try simp only [List.getElem_toArray, List.getElem_cons_succ, List.getElem_cons_zero, Act.put, List.setIfInBounds_toArray, List.set_cons_zero, List.set_cons_succ]
    refine wpAnyH_take (i := 9) (v := ?_) rfl (by kernel_rfl) (by kernel_rfl) (by kernel_rfl) (fun _ _ _ h => h) (Or.inl ⟨by kernel_rfl, ?_⟩) (by assumption) ?_
    rotate_left
    · (intro w hSw; (try dsimp only at hSw); go_simp; (try with_reducible rfl))
    try simp only [List.getElem_toArray, List.getElem_cons_succ, List.getElem_cons_zero, Act.put, List.setIfInBounds_toArray, List.set_cons_zero, List.set_cons_succ]
    refine wpAnyH_take (i := 10) rfl (by kernel_rfl) (by kernel_rfl) (by kernel_rfl) (fun _ _ _ h => h) (Or.inr ⟨by kernel_rfl, rfl⟩) (by assumption) ?_
    try simp only [List.getElem_toArray, List.getElem_cons_succ, List.getElem_cons_zero, Act.put, List.setIfInBounds_toArray, List.set_cons_zero, List.set_cons_succ]
    refine wpAnyH_take (i := 11) rfl (by kernel_rfl) (by kernel_rfl) (by kernel_rfl) (fun _ _ _ h => h) (Or.inr ⟨by kernel_rfl, rfl⟩) (by assumption) ?_
    try simp only [List.getElem_toArray, List.getElem_cons_succ, List.getElem_cons_zero, Act.put, List.setIfInBounds_toArray, List.set_cons_zero, List.set_cons_succ]
    refine wpAnyH_take (i := 12) rfl (by kernel_rfl) (by kernel_rfl) (by kernel_rfl) (fun _ _ _ h => h) (Or.inr ⟨by kernel_rfl, rfl⟩) (by assumption) ?_
    try simp only [List.getElem_toArray, List.getElem_cons_succ, List.getElem_cons_zero, Act.put, List.setIfInBounds_toArray, List.set_cons_zero, List.set_cons_succ]
    refine wpAnyH_take (i := 13) rfl (by kernel_rfl) (by kernel_rfl) (by kernel_rfl) (fun _ _ _ h => h) (Or.inr ⟨by kernel_rfl, rfl⟩) (by assumption) ?_
    try simp only [List.getElem_toArray, List.getElem_cons_succ, List.getElem_cons_zero, Act.put, List.setIfInBounds_toArray, List.set_cons_zero, List.set_cons_succ]
    refine wpAnyH_take (i := 14) rfl (by kernel_rfl) (by kernel_rfl) (by kernel_rfl) (fun _ _ _ h => h) (Or.inr ⟨by kernel_rfl, rfl⟩) (by assumption) ?_
    try simp only [List.getElem_toArray, List.getElem_cons_succ, List.getElem_cons_zero, Act.put, List.setIfInBounds_toArray, List.set_cons_zero, List.set_cons_succ]
    refine wpAnyH_take (i := 15) rfl (by kernel_rfl) (by kernel_rfl) (by kernel_rfl) (fun _ _ _ h => h) (Or.inr ⟨by kernel_rfl, rfl⟩) (by assumption) ?_
    try simp only [List.getElem_toArray, List.getElem_cons_succ, List.getElem_cons_zero, Act.put, List.setIfInBounds_toArray, List.set_cons_zero, List.set_cons_succ]
    refine wpAnyH_take (i := 16) rfl (by kernel_rfl) (by kernel_rfl) (by kernel_rfl) (fun _ _ _ h => h) (Or.inr ⟨by kernel_rfl, rfl⟩) (by assumption) ?_
    try simp only [List.getElem_toArray, List.getElem_cons_succ, List.getElem_cons_zero, Act.put, List.setIfInBounds_toArray, List.set_cons_zero, List.set_cons_succ]
    refine wpAnyH_take (i := 17) rfl (by kernel_rfl) (by kernel_rfl) (by kernel_rfl) (fun _ _ _ h => h) (Or.inr ⟨by kernel_rfl, rfl⟩) (by assumption) ?_
    try simp only [List.getElem_toArray, List.getElem_cons_succ, List.getElem_cons_zero, Act.put, List.setIfInBounds_toArray, List.set_cons_zero, List.set_cons_succ]
    refine wpAnyH_take (i := 18) rfl (by kernel_rfl) (by kernel_rfl) (by kernel_rfl) (fun _ _ _ h => h) (Or.inr ⟨by kernel_rfl, rfl⟩) (by assumption) ?_
    try simp only [List.getElem_toArray, List.getElem_cons_succ, List.getElem_cons_zero, Act.put, List.setIfInBounds_toArray, List.set_cons_zero, List.set_cons_succ]
    refine wpAnyH_take (i := 19) (v := ?_) rfl (by kernel_rfl) (by kernel_rfl) (by kernel_rfl) (fun _ _ _ h => h) (Or.inl ⟨by kernel_rfl, ?_⟩) (by assumption) ?_
    rotate_left
    · (intro w hSw; (try dsimp only at hSw); go_simp; (try with_reducible rfl))
    try simp only [List.getElem_toArray, List.getElem_cons_succ, List.getElem_cons_zero, Act.put, List.setIfInBounds_toArray, List.set_cons_zero, List.set_cons_succ]
    refine wpAnyH_done (by kernel_rfl) ?_ _
    go_wp2_with fail
    go_ret
    exact ⟨(Chg3.of_below q3).drewN 1, fun st' h => some_none h hv, fun _ => rfl⟩
  | some s =>
    obtain rfl : bS = true := by rw [← HBS.out, hs]; rfl
    by_cases hD : D < no
    · have h1 : decide ((no : Int) ≤ (D : Int)) = false := decide_eq_false (by omega)
      have h1n : decide (no ≤ D) = false := decide_eq_false (by omega)
      have i1 : (D : Int) < (no : Int) := by omega
      obtain ⟨lw, hrw, hvw⟩ := D3.out.lz
      obtain ⟨vo, co, oo⟩ := hvw.cell hrw (i := D) (by rw [D3.out.ok.lo]; exact hD)
      cases ho : st.outs.getD D none with
      | some x =>
        have hv : vStep nr no reads n st 4 D S C = none := by
          unfold vStep
          rw [if_neg (by decide), if_neg (by decide), if_neg (by decide), if_pos rfl, hs]
          simp only [ho]
          rw [if_neg (fun h => by cases h.2)]
        rw [ho] at oo
        obtain ⟨go, ko, rfl, _, _⟩ := oo
        clear hrw hvw
        go_wp2_with fail
        refine wp_region_held_drew (S := (fun y => y.cell? ⟨W.heap.size + 1, 1, none⟩ = some (.int .i64 (D : Int)) ∧ y.cell? ⟨W.heap.size, 2, none⟩ = some (.int .i64 (no : Int)) ∧ y.cell? ⟨gt, 1, none⟩ = some (.slice (some ⟨gz, 0, none⟩) no no) ∧ y.cell? ⟨gz, D, none⟩ = some (.slice (some ⟨go, 0, none⟩) x.length ko))) (by kernel_rfl) ⟨s1, p2, k1, co⟩ (fun hHeld => ?_)
        refine wpAnyH_take (i := 0) (v := ?_) rfl (by kernel_rfl) (by kernel_rfl) (by kernel_rfl) (fun _ _ _ h => h) (Or.inl ⟨by kernel_rfl, ?_⟩) (by assumption) ?_
        rotate_left
        · (intro w hSw; (try dsimp only at hSw); go_simp; (try with_reducible rfl))
        try simp only [List.getElem_toArray, List.getElem_cons_succ, List.getElem_cons_zero, Act.put, List.setIfInBounds_toArray, List.set_cons_zero, List.set_cons_succ]
        refine wpAnyH_take (i := 1) (v := ?_) rfl (by kernel_rfl) (by kernel_rfl) (by kernel_rfl) (fun _ _ _ h => h) (Or.inl ⟨by kernel_rfl, ?_⟩) (by assumption) ?_
        rotate_left
        · (intro w hSw; (try dsimp only at hSw); go_simp; (try with_reducible rfl))
        try simp only [List.getElem_toArray, List.getElem_cons_succ, List.getElem_cons_zero, Act.put, List.setIfInBounds_toArray, List.set_cons_zero, List.set_cons_succ]
        refine wpAnyH_take (i := 2) (v := ?_) rfl (by kernel_rfl) (by kernel_rfl) (by kernel_rfl) (fun _ _ _ h => h) (Or.inl ⟨by kernel_rfl, ?_⟩) (by assumption) ?_
        rotate_left
        · (intro w hSw; (try dsimp only at hSw); go_simp; (try with_reducible rfl))
        try simp only [List.getElem_toArray, List.getElem_cons_succ, List.getElem_cons_zero, Act.put, List.setIfInBounds_toArray, List.set_cons_zero, List.set_cons_succ]
        refine wpAnyH_take (i := 3) (v := ?_) rfl (by kernel_rfl) (by kernel_rfl) (by kernel_rfl) (fun _ _ _ h => h) (Or.inl ⟨by kernel_rfl, ?_⟩) (by assumption) ?_
        rotate_left
        · (intro w hSw; (try dsimp only at hSw); go_simp; (try with_reducible rfl))
        try simp only [List.getElem_toArray, List.getElem_cons_succ, List.getElem_cons_zero, Act.put, List.setIfInBounds_toArray, List.set_cons_zero, List.set_cons_succ]
        refine wpAnyH_take (i := 4) (v := ?_) rfl (by kernel_rfl) (by kernel_rfl) (by kernel_rfl) (fun _ _ _ h => h) (Or.inl ⟨by kernel_rfl, ?_⟩) (by assumption) ?_
        rotate_left
        · (intro w hSw; (try dsimp only at hSw); go_simp; (try with_reducible rfl))
        try simp only [List.getElem_toArray, List.getElem_cons_succ, List.getElem_cons_zero, Act.put, List.setIfInBounds_toArray, List.set_cons_zero, List.set_cons_succ]
        refine wpAnyH_take (i := 5) (v := ?_) rfl (by kernel_rfl) (by kernel_rfl) (by kernel_rfl) (fun _ _ _ h => h) (Or.inl ⟨by kernel_rfl, ?_⟩) (by assumption) ?_
        rotate_left
        · (intro w hSw; (try dsimp only at hSw); go_simp; (try with_reducible rfl))
        try simp only [List.getElem_toArray, List.getElem_cons_succ, List.getElem_cons_zero, Act.put, List.setIfInBounds_toArray, List.set_cons_zero, List.set_cons_succ]
        refine wpAnyH_take (i := 6) (v := ?_) rfl (by kernel_rfl) (by kernel_rfl) (by kernel_rfl) (fun _ _ _ h => h) (Or.inl ⟨by kernel_rfl, ?_⟩) (by assumption) ?_
        rotate_left
        · (intro w hSw; (try dsimp only at hSw); go_simp; (try with_reducible rfl))
        try simp only [List.getElem_toArray, List.getElem_cons_succ, List.getElem_cons_zero, Act.put, List.setIfInBounds_toArray, List.set_cons_zero, List.set_cons_succ]
        refine wpAnyH_take (i := 7) (v := ?_) rfl (by kernel_rfl) (by kernel_rfl) (by kernel_rfl) (fun _ _ _ h => h) (Or.inl ⟨by kernel_rfl, ?_⟩) (by assumption) ?_
        rotate_left
        · (intro w hSw; (try dsimp only at hSw); go_simp; (try with_reducible rfl))
        try simp only [List.getElem_toArray, List.getElem_cons_succ, List.getElem_cons_zero, Act.put, List.setIfInBounds_toArray, List.set_cons_zero, List.set_cons_succ]
        refine wpAnyH_take (i := 8) (v := ?_) rfl (by kernel_rfl) (by kernel_rfl) (by kernel_rfl) (fun _ _ _ h => h) (Or.inl ⟨by kernel_rfl, ?_⟩) (by assumption) ?_
        rotate_left
        · (intro w hSw; (try dsimp only at hSw); go_simp; (try with_reducible rfl))
        try simp only [List.getElem_toArray, List.getElem_cons_succ, List.getElem_cons_zero, Act.put, List.setIfInBounds_toArray, List.set_cons_zero, List.set_cons_succ]
        refine wpAnyH_take (i := 9) (v := ?_) rfl (by kernel_rfl) (by kernel_rfl) (by kernel_rfl) (fun _ _ _ h => h) (Or.inl ⟨by kernel_rfl, ?_⟩) (by assumption) ?_
        rotate_left
        · (intro w hSw; (try dsimp only at hSw); go_simp; (try with_reducible rfl))
        try simp only [List.getElem_toArray, List.getElem_cons_succ, List.getElem_cons_zero, Act.put, List.setIfInBounds_toArray, List.set_cons_zero, List.set_cons_succ]
        refine wpAnyH_take (i := 10) (v := ?_) rfl (by kernel_rfl) (by kernel_rfl) (by kernel_rfl) (fun _ _ _ h => h) (Or.inl ⟨by kernel_rfl, ?_⟩) (by assumption) ?_
        rotate_left
        · (intro w hSw; (try dsimp only at hSw); go_simp; (try with_reducible rfl))
        try simp only [List.getElem_toArray, List.getElem_cons_succ, List.getElem_cons_zero, Act.put, List.setIfInBounds_toArray, List.set_cons_zero, List.set_cons_succ]
        refine wpAnyH_take (i := 11) (v := ?_) rfl (by kernel_rfl) (by kernel_rfl) (by kernel_rfl) (fun _ _ _ h => h) (Or.inl ⟨by kernel_rfl, ?_⟩) (by assumption) ?_
        rotate_left
        · (intro w hSw; (try dsimp only at hSw); go_simp; (try with_reducible rfl))
        try simp only [List.getElem_toArray, List.getElem_cons_succ, List.getElem_cons_zero, Act.put, List.setIfInBounds_toArray, List.set_cons_zero, List.set_cons_succ]
        refine wpAnyH_take (i := 12) (v := ?_) rfl (by kernel_rfl) (by kernel_rfl) (by kernel_rfl) (fun _ _ _ h => h) (Or.inl ⟨by kernel_rfl, ?_⟩) (by assumption) ?_
        rotate_left
        · (intro w hSw; (try dsimp only at hSw); go_simp; (try with_reducible rfl))
        try simp only [List.getElem_toArray, List.getElem_cons_succ, List.getElem_cons_zero, Act.put, List.setIfInBounds_toArray, List.set_cons_zero, List.set_cons_succ]
        refine wpAnyH_take (i := 13) (v := ?_) rfl (by kernel_rfl) (by kernel_rfl) (by kernel_rfl) (fun _ _ _ h => h) (Or.inl ⟨by kernel_rfl, ?_⟩) (by assumption) ?_
        rotate_left
        · (intro w hSw; (try dsimp only at hSw); go_simp; (try with_reducible rfl))
        try simp only [List.getElem_toArray, List.getElem_cons_succ, List.getElem_cons_zero, Act.put, List.setIfInBounds_toArray, List.set_cons_zero, List.set_cons_succ]
        refine wpAnyH_take (i := 14) (v := ?_) rfl (by kernel_rfl) (by kernel_rfl) (by kernel_rfl) (fun _ _ _ h => h) (Or.inl ⟨by kernel_rfl, ?_⟩) (by assumption) ?_
        rotate_left
        · (intro w hSw; (try dsimp only at hSw); go_simp; (try with_reducible rfl))
        try simp only [List.getElem_toArray, List.getElem_cons_succ, List.getElem_cons_zero, Act.put, List.setIfInBounds_toArray, List.set_cons_zero, List.set_cons_succ]
        refine wpAnyH_take (i := 15) (v := ?_) rfl (by kernel_rfl) (by kernel_rfl) (by kernel_rfl) (fun _ _ _ h => h) (Or.inl ⟨by kernel_rfl, ?_⟩) (by assumption) ?_
        rotate_left
        · (intro w hSw; (try dsimp only at hSw); go_simp; (try with_reducible rfl))
        try simp only [List.getElem_toArray, List.getElem_cons_succ, List.getElem_cons_zero, Act.put, List.setIfInBounds_toArray, List.set_cons_zero, List.set_cons_succ]
        refine wpAnyH_take (i := 16) (v := ?_) rfl (by kernel_rfl) (by kernel_rfl) (by kernel_rfl) (fun _ _ _ h => h) (Or.inl ⟨by kernel_rfl, ?_⟩) (by assumption) ?_
        rotate_left
        · (intro w hSw; (try dsimp only at hSw); go_simp; (try with_reducible rfl))
        try simp only [List.getElem_toArray, List.getElem_cons_succ, List.getElem_cons_zero, Act.put, List.setIfInBounds_toArray, List.set_cons_zero, List.set_cons_succ]
        refine wpAnyH_take (i := 17) (v := ?_) rfl (by kernel_rfl) (by kernel_rfl) (by kernel_rfl) (fun _ _ _ h => h) (Or.inl ⟨by kernel_rfl, ?_⟩) (by assumption) ?_
        rotate_left
        · (intro w hSw; (try dsimp only at hSw); go_simp; (try with_reducible rfl))
        try simp only [List.getElem_toArray, List.getElem_cons_succ, List.getElem_cons_zero, Act.put, List.setIfInBounds_toArray, List.set_cons_zero, List.set_cons_succ]
        refine wpAnyH_take (i := 18) (v := ?_) rfl (by kernel_rfl) (by kernel_rfl) (by kernel_rfl) (fun _ _ _ h => h) (Or.inl ⟨by kernel_rfl, ?_⟩) (by assumption) ?_
        rotate_left
        · (intro w hSw; (try dsimp only at hSw); go_simp; (try with_reducible rfl))
        try simp only [List.getElem_toArray, List.getElem_cons_succ, List.getElem_cons_zero, Act.put, List.setIfInBounds_toArray, List.set_cons_zero, List.set_cons_succ]
        refine wpAnyH_take (i := 19) (v := ?_) rfl (by kernel_rfl) (by kernel_rfl) (by kernel_rfl) (fun _ _ _ h => h) (Or.inl ⟨by kernel_rfl, ?_⟩) (by assumption) ?_
        rotate_left
        · (intro w hSw; (try dsimp only at hSw); go_simp; (try with_reducible rfl))
        try simp only [List.getElem_toArray, List.getElem_cons_succ, List.getElem_cons_zero, Act.put, List.setIfInBounds_toArray, List.set_cons_zero, List.set_cons_succ]
        refine wpAnyH_done (by kernel_rfl) ?_ _
        go_wp2_with fail
        go_ret
        exact ⟨(Chg3.of_below q3).drewN 1, fun st' h => some_none h hv, fun _ => rfl⟩
      | none =>
        have hv : vStep nr no reads n st 4 D S C = some { st with outs := st.outs.set D (some s) } := by
          unfold vStep
          rw [if_neg (by decide), if_neg (by decide), if_neg (by decide), if_pos rfl, hs]
          simp only [ho]
          rw [if_pos ⟨hD, trivial⟩]
        rw [ho] at oo
        obtain rfl : vo = .slice none 0 0 := oo
        have hS : S < nr := by have := (isReg_of hs).1; rw [D3.out.ok.lr] at this; exact this
        obtain ⟨la, hra, hva⟩ := D3.out.la
        obtain ⟨vs, cs, os⟩ := hva.cell hra (i := S) (by rw [D3.out.ok.lr]; exact hS)
        rw [hs] at os
        obtain ⟨gs, ks, rfl, _, rs⟩ := os
        have ls : s.length = n := D3.out.ok.wr _ _ hs
        rw [ls] at cs
        have hrs := rs.rd
        rw [ls] at hrs
        have j1 : (S : Int) < (nr : Int) := by omega
        have lgt3 : gt < W3.heap.size := D3.out.ht.lt
        have lgz3 : gz < W3.heap.size := hrw.lt
        have lt3 : W.heap.size + 1 < W3.heap.size := (HS.out.of_block (w' := W3) (e3 _)).lt
        have HLZ := Lib.hid (show lw.length = no by rw [hvw.1, D3.out.ok.lo])
        have HRW := Lib.hid hrw
        have HRS := Lib.hid hrs
        clear hrw hvw hra hva rs hrs
        go_wp2_with fail
        refine wp_region_held_drew (S := (fun x => x.cell? ⟨W.heap.size + 1, 1, none⟩ = some (.int .i64 (D : Int)) ∧ x.cell? ⟨W.heap.size, 2, none⟩ = some (.int .i64 (no : Int)) ∧ x.cell? ⟨gt, 1, none⟩ = some (.slice (some ⟨gz, 0, none⟩) no no) ∧ x.cell? ⟨gz, D, none⟩ = some (.slice none 0 0))) (by kernel_rfl) ⟨s1, p2, k1, co⟩ (fun hHeld => ?_)
        refine wpAnyH_take (i := 0) (v := ?_) rfl (by kernel_rfl) (by kernel_rfl) (by kernel_rfl) (fun _ _ _ h => h) (Or.inl ⟨by kernel_rfl, ?_⟩) (by assumption) ?_
        rotate_left
        · (intro w hSw; (try dsimp only at hSw); go_simp; (try with_reducible rfl))
        try simp only [List.getElem_toArray, List.getElem_cons_succ, List.getElem_cons_zero, Act.put, List.setIfInBounds_toArray, List.set_cons_zero, List.set_cons_succ]
        refine wpAnyH_take (i := 1) (v := ?_) rfl (by kernel_rfl) (by kernel_rfl) (by kernel_rfl) (fun _ _ _ h => h) (Or.inl ⟨by kernel_rfl, ?_⟩) (by assumption) ?_
        rotate_left
        · (intro w hSw; (try dsimp only at hSw); go_simp; (try with_reducible rfl))
        try simp only [List.getElem_toArray, List.getElem_cons_succ, List.getElem_cons_zero, Act.put, List.setIfInBounds_toArray, List.set_cons_zero, List.set_cons_succ]
        refine wpAnyH_take (i := 2) (v := ?_) rfl (by kernel_rfl) (by kernel_rfl) (by kernel_rfl) (fun _ _ _ h => h) (Or.inl ⟨by kernel_rfl, ?_⟩) (by assumption) ?_
        rotate_left
        · (intro w hSw; (try dsimp only at hSw); go_simp; (try with_reducible rfl))
        try simp only [List.getElem_toArray, List.getElem_cons_succ, List.getElem_cons_zero, Act.put, List.setIfInBounds_toArray, List.set_cons_zero, List.set_cons_succ]
        refine wpAnyH_take (i := 3) (v := ?_) rfl (by kernel_rfl) (by kernel_rfl) (by kernel_rfl) (fun _ _ _ h => h) (Or.inl ⟨by kernel_rfl, ?_⟩) (by assumption) ?_
        rotate_left
        · (intro w hSw; (try dsimp only at hSw); go_simp; (try with_reducible rfl))
        try simp only [List.getElem_toArray, List.getElem_cons_succ, List.getElem_cons_zero, Act.put, List.setIfInBounds_toArray, List.set_cons_zero, List.set_cons_succ]
        refine wpAnyH_take (i := 4) (v := ?_) rfl (by kernel_rfl) (by kernel_rfl) (by kernel_rfl) (fun _ _ _ h => h) (Or.inl ⟨by kernel_rfl, ?_⟩) (by assumption) ?_
        rotate_left
        · (intro w hSw; (try dsimp only at hSw); go_simp; (try with_reducible rfl))
        try simp only [List.getElem_toArray, List.getElem_cons_succ, List.getElem_cons_zero, Act.put, List.setIfInBounds_toArray, List.set_cons_zero, List.set_cons_succ]
        refine wpAnyH_take (i := 5) (v := ?_) rfl (by kernel_rfl) (by kernel_rfl) (by kernel_rfl) (fun _ _ _ h => h) (Or.inl ⟨by kernel_rfl, ?_⟩) (by assumption) ?_
        rotate_left
        · (intro w hSw; (try dsimp only at hSw); go_simp; (try with_reducible rfl))
        try simp only [List.getElem_toArray, List.getElem_cons_succ, List.getElem_cons_zero, Act.put, List.setIfInBounds_toArray, List.set_cons_zero, List.set_cons_succ]
        refine wpAnyH_take (i := 6) (v := ?_) rfl (by kernel_rfl) (by kernel_rfl) (by kernel_rfl) (fun _ _ _ h => h) (Or.inl ⟨by kernel_rfl, ?_⟩) (by assumption) ?_
        rotate_left
        · (intro w hSw; (try dsimp only at hSw); go_simp; (try with_reducible rfl))
        try simp only [List.getElem_toArray, List.getElem_cons_succ, List.getElem_cons_zero, Act.put, List.setIfInBounds_toArray, List.set_cons_zero, List.set_cons_succ]
        refine wpAnyH_take (i := 7) (v := ?_) rfl (by kernel_rfl) (by kernel_rfl) (by kernel_rfl) (fun _ _ _ h => h) (Or.inl ⟨by kernel_rfl, ?_⟩) (by assumption) ?_
        rotate_left
        · (intro w hSw; (try dsimp only at hSw); go_simp; (try with_reducible rfl))
        try simp only [List.getElem_toArray, List.getElem_cons_succ, List.getElem_cons_zero, Act.put, List.setIfInBounds_toArray, List.set_cons_zero, List.set_cons_succ]
        refine wpAnyH_take (i := 8) (v := ?_) rfl (by kernel_rfl) (by kernel_rfl) (by kernel_rfl) (fun _ _ _ h => h) (Or.inl ⟨by kernel_rfl, ?_⟩) (by assumption) ?_
        rotate_left
        · (intro w hSw; (try dsimp only at hSw); go_simp; (try with_reducible rfl))
        try simp only [List.getElem_toArray, List.getElem_cons_succ, List.getElem_cons_zero, Act.put, List.setIfInBounds_toArray, List.set_cons_zero, List.set_cons_succ]
        refine wpAnyH_take (i := 9) (v := ?_) rfl (by kernel_rfl) (by kernel_rfl) (by kernel_rfl) (fun _ _ _ h => h) (Or.inl ⟨by kernel_rfl, ?_⟩) (by assumption) ?_
        rotate_left
        · (intro w hSw; (try dsimp only at hSw); go_simp; (try with_reducible rfl))
        try simp only [List.getElem_toArray, List.getElem_cons_succ, List.getElem_cons_zero, Act.put, List.setIfInBounds_toArray, List.set_cons_zero, List.set_cons_succ]
        refine wpAnyH_take (i := 10) (v := ?_) rfl (by kernel_rfl) (by kernel_rfl) (by kernel_rfl) (fun _ _ _ h => h) (Or.inl ⟨by kernel_rfl, ?_⟩) (by assumption) ?_
        rotate_left
        · (intro w hSw; (try dsimp only at hSw); go_simp; (try with_reducible rfl))
        try simp only [List.getElem_toArray, List.getElem_cons_succ, List.getElem_cons_zero, Act.put, List.setIfInBounds_toArray, List.set_cons_zero, List.set_cons_succ]
        refine wpAnyH_take (i := 11) (v := ?_) rfl (by kernel_rfl) (by kernel_rfl) (by kernel_rfl) (fun _ _ _ h => h) (Or.inl ⟨by kernel_rfl, ?_⟩) (by assumption) ?_
        rotate_left
        · (intro w hSw; (try dsimp only at hSw); go_simp; (try with_reducible rfl))
        try simp only [List.getElem_toArray, List.getElem_cons_succ, List.getElem_cons_zero, Act.put, List.setIfInBounds_toArray, List.set_cons_zero, List.set_cons_succ]
        refine wpAnyH_take (i := 12) (v := ?_) rfl (by kernel_rfl) (by kernel_rfl) (by kernel_rfl) (fun _ _ _ h => h) (Or.inl ⟨by kernel_rfl, ?_⟩) (by assumption) ?_
        rotate_left
        · (intro w hSw; (try dsimp only at hSw); go_simp; (try with_reducible rfl))
        try simp only [List.getElem_toArray, List.getElem_cons_succ, List.getElem_cons_zero, Act.put, List.setIfInBounds_toArray, List.set_cons_zero, List.set_cons_succ]
        refine wpAnyH_take (i := 13) (v := ?_) rfl (by kernel_rfl) (by kernel_rfl) (by kernel_rfl) (fun _ _ _ h => h) (Or.inl ⟨by kernel_rfl, ?_⟩) (by assumption) ?_
        rotate_left
        · (intro w hSw; (try dsimp only at hSw); go_simp; (try with_reducible rfl))
        try simp only [List.getElem_toArray, List.getElem_cons_succ, List.getElem_cons_zero, Act.put, List.setIfInBounds_toArray, List.set_cons_zero, List.set_cons_succ]
        refine wpAnyH_take (i := 14) (v := ?_) rfl (by kernel_rfl) (by kernel_rfl) (by kernel_rfl) (fun _ _ _ h => h) (Or.inl ⟨by kernel_rfl, ?_⟩) (by assumption) ?_
        rotate_left
        · (intro w hSw; (try dsimp only at hSw); go_simp; (try with_reducible rfl))
        try simp only [List.getElem_toArray, List.getElem_cons_succ, List.getElem_cons_zero, Act.put, List.setIfInBounds_toArray, List.set_cons_zero, List.set_cons_succ]
        refine wpAnyH_take (i := 15) (v := ?_) rfl (by kernel_rfl) (by kernel_rfl) (by kernel_rfl) (fun _ _ _ h => h) (Or.inl ⟨by kernel_rfl, ?_⟩) (by assumption) ?_
        rotate_left
        · (intro w hSw; (try dsimp only at hSw); go_simp; (try with_reducible rfl))
        try simp only [List.getElem_toArray, List.getElem_cons_succ, List.getElem_cons_zero, Act.put, List.setIfInBounds_toArray, List.set_cons_zero, List.set_cons_succ]
        refine wpAnyH_take (i := 16) (v := ?_) rfl (by kernel_rfl) (by kernel_rfl) (by kernel_rfl) (fun _ _ _ h => h) (Or.inl ⟨by kernel_rfl, ?_⟩) (by assumption) ?_
        rotate_left
        · (intro w hSw; (try dsimp only at hSw); go_simp; (try with_reducible rfl))
        try simp only [List.getElem_toArray, List.getElem_cons_succ, List.getElem_cons_zero, Act.put, List.setIfInBounds_toArray, List.set_cons_zero, List.set_cons_succ]
        refine wpAnyH_take (i := 17) (v := ?_) rfl (by kernel_rfl) (by kernel_rfl) (by kernel_rfl) (fun _ _ _ h => h) (Or.inl ⟨by kernel_rfl, ?_⟩) (by assumption) ?_
        rotate_left
        · (intro w hSw; (try dsimp only at hSw); go_simp; (try with_reducible rfl))
        try simp only [List.getElem_toArray, List.getElem_cons_succ, List.getElem_cons_zero, Act.put, List.setIfInBounds_toArray, List.set_cons_zero, List.set_cons_succ]
        refine wpAnyH_take (i := 18) (v := ?_) rfl (by kernel_rfl) (by kernel_rfl) (by kernel_rfl) (fun _ _ _ h => h) (Or.inl ⟨by kernel_rfl, ?_⟩) (by assumption) ?_
        rotate_left
        · (intro w hSw; (try dsimp only at hSw); go_simp; (try with_reducible rfl))
        try simp only [List.getElem_toArray, List.getElem_cons_succ, List.getElem_cons_zero, Act.put, List.setIfInBounds_toArray, List.set_cons_zero, List.set_cons_succ]
        refine wpAnyH_take (i := 19) (v := ?_) rfl (by kernel_rfl) (by kernel_rfl) (by kernel_rfl) (fun _ _ _ h => h) (Or.inl ⟨by kernel_rfl, ?_⟩) (by assumption) ?_
        rotate_left
        · (intro w hSw; (try dsimp only at hSw); go_simp; (try with_reducible rfl))
        try simp only [List.getElem_toArray, List.getElem_cons_succ, List.getElem_cons_zero, Act.put, List.setIfInBounds_toArray, List.set_cons_zero, List.set_cons_succ]
        refine wpAnyH_done (by kernel_rfl) ?_ _
        obtain ⟨w4, hw4⟩ : ∃ w4, w4 = W3.drewN 1 := ⟨_, rfl⟩
        have hw4' : W3.drew = w4 := hw4.symm
        have e4 : ∀ k : Nat, w4.heap[k]? = W3.heap[k]? := by rw [hw4]; exact fun _ => rfl
        have hb34 : Below W3.heap.size W3 w4 := by rw [hw4]; exact below_drewN (Below.refl _ _) 1
        rw [hw4']
        have hs4 := (HS.out.of_block (w' := W3) (e3 _)).of_block (w' := w4) (e4 _)
        have ht4 := D3.out.ht.of_block (w' := w4) (e4 _)
        have hz4 := HRW.out.of_block (w' := w4) (e4 _)
        have k0 : w4.cell? ⟨gt, 0, none⟩ = some (.slice (some ⟨ga, 0, none⟩) nr nr) := ht4.cell 0
        have k1 : w4.cell? ⟨gt, 1, none⟩ = some (.slice (some ⟨gz, 0, none⟩) no no) := ht4.cell 1
        have s0 : w4.cell? ⟨W.heap.size + 1, 0, none⟩ = some (.int .u8 4) := hs4.cell 0
        have s1 : w4.cell? ⟨W.heap.size + 1, 1, none⟩ = some (.int .i64 (D : Int)) := hs4.cell 1
        have s2 : w4.cell? ⟨W.heap.size + 1, 2, none⟩ = some (.int .i64 (S : Int)) := hs4.cell 2
        have cs4 : w4.cell? ⟨ga, S, none⟩ = some (.slice (some ⟨gs, 0, none⟩) n ks) := by rw [hw4]; exact cs
        have HRD4 := Lib.hid (HRS.out.go hb34)
        have HB34 := Lib.hid hb34
        have HT4 := Lib.hid ht4
        have HS4 := Lib.hid hs4
        have HZ4 := Lib.hid hz4
        clear hw4 hw4' ht4 hs4 hz4 hb34 hHeld p1 p2 p3 cs co
        go_wp2_with fail
        refine wp_region_held_drew (S := (fun x => x.cell? ⟨gt, 0, none⟩ = some (.slice (some ⟨ga, 0, none⟩) nr nr) ∧ x.cell? ⟨gt, 1, none⟩ = some (.slice (some ⟨gz, 0, none⟩) no no) ∧ x.cell? ⟨W.heap.size + 1, 1, none⟩ = some (.int .i64 (D : Int)) ∧ x.cell? ⟨W.heap.size + 1, 2, none⟩ = some (.int .i64 (S : Int)) ∧ x.cell? ⟨ga, S, none⟩ = some (.slice (some ⟨gs, 0, none⟩) n ks))) (by kernel_rfl) ⟨k0, k1, s1, s2, cs4⟩ (fun hHeld => ?_)
        refine wpAnyH_take (i := 0) (v := ?_) rfl (by kernel_rfl) (by kernel_rfl) (by kernel_rfl) (fun _ _ _ h => h) (Or.inl ⟨by kernel_rfl, ?_⟩) (by assumption) ?_
        rotate_left
        · (intro w hSw; (try dsimp only at hSw); go_simp; (try with_reducible rfl))
        try simp only [List.getElem_toArray, List.getElem_cons_succ, List.getElem_cons_zero, Act.put, List.setIfInBounds_toArray, List.set_cons_zero, List.set_cons_succ]
        refine wpAnyH_take (i := 1) (v := ?_) rfl (by kernel_rfl) (by kernel_rfl) (by kernel_rfl) (fun _ _ _ h => h) (Or.inl ⟨by kernel_rfl, ?_⟩) (by assumption) ?_
        rotate_left
        · (intro w hSw; (try dsimp only at hSw); go_simp; (try with_reducible rfl))
        try simp only [List.getElem_toArray, List.getElem_cons_succ, List.getElem_cons_zero, Act.put, List.setIfInBounds_toArray, List.set_cons_zero, List.set_cons_succ]
        refine wpAnyH_take (i := 2) (v := ?_) rfl (by kernel_rfl) (by kernel_rfl) (by kernel_rfl) (fun _ _ _ h => h) (Or.inl ⟨by kernel_rfl, ?_⟩) (by assumption) ?_
        rotate_left
        · (intro w hSw; (try dsimp only at hSw); go_simp; (try with_reducible rfl))
        try simp only [List.getElem_toArray, List.getElem_cons_succ, List.getElem_cons_zero, Act.put, List.setIfInBounds_toArray, List.set_cons_zero, List.set_cons_succ]
        refine wpAnyH_take (i := 3) (v := ?_) rfl (by kernel_rfl) (by kernel_rfl) (by kernel_rfl) (fun _ _ _ h => h) (Or.inl ⟨by kernel_rfl, ?_⟩) (by assumption) ?_
        rotate_left
        · (intro w hSw; (try dsimp only at hSw); go_simp; (try with_reducible rfl))
        try simp only [List.getElem_toArray, List.getElem_cons_succ, List.getElem_cons_zero, Act.put, List.setIfInBounds_toArray, List.set_cons_zero, List.set_cons_succ]
        refine wpAnyH_take (i := 4) (v := ?_) rfl (by kernel_rfl) (by kernel_rfl) (by kernel_rfl) (fun _ _ _ h => h) (Or.inl ⟨by kernel_rfl, ?_⟩) (by assumption) ?_
        rotate_left
        · (intro w hSw; (try dsimp only at hSw); go_simp; (try with_reducible rfl))
        try simp only [List.getElem_toArray, List.getElem_cons_succ, List.getElem_cons_zero, Act.put, List.setIfInBounds_toArray, List.set_cons_zero, List.set_cons_succ]
        refine wpAnyH_take (i := 5) (v := ?_) rfl (by kernel_rfl) (by kernel_rfl) (by kernel_rfl) (fun _ _ _ h => h) (Or.inl ⟨by kernel_rfl, ?_⟩) (by assumption) ?_
        rotate_left
        · (intro w hSw; (try dsimp only at hSw); go_simp; (try with_reducible rfl))
        try simp only [List.getElem_toArray, List.getElem_cons_succ, List.getElem_cons_zero, Act.put, List.setIfInBounds_toArray, List.set_cons_zero, List.set_cons_succ]
        refine wpAnyH_take (i := 7) (v := ?_) rfl (by kernel_rfl) (by kernel_rfl) (by kernel_rfl) (fun _ _ _ h => h) (Or.inl ⟨by kernel_rfl, ?_⟩) (by assumption) ?_
        rotate_left
        · (intro w hSw; (try dsimp only at hSw); go_simp; (try with_reducible rfl))
        try simp only [List.getElem_toArray, List.getElem_cons_succ, List.getElem_cons_zero, Act.put, List.setIfInBounds_toArray, List.set_cons_zero, List.set_cons_succ]
        refine wpAnyH_take (i := 8) (v := ?_) rfl (by kernel_rfl) (by kernel_rfl) (by kernel_rfl) (fun _ _ _ h => h) (Or.inl ⟨by kernel_rfl, ?_⟩) (by assumption) ?_
        rotate_left
        · (intro w hSw; (try dsimp only at hSw); go_simp; (try with_reducible rfl))
        try simp only [List.getElem_toArray, List.getElem_cons_succ, List.getElem_cons_zero, Act.put, List.setIfInBounds_toArray, List.set_cons_zero, List.set_cons_succ]
        refine wpAnyH_take (i := 9) (v := ?_) rfl (by kernel_rfl) (by kernel_rfl) (by kernel_rfl) (fun _ _ _ h => h) (Or.inl ⟨by kernel_rfl, ?_⟩) (by assumption) ?_
        rotate_left
        · (intro w hSw; (try dsimp only at hSw); go_simp; (try with_reducible rfl))
        try simp only [List.getElem_toArray, List.getElem_cons_succ, List.getElem_cons_zero, Act.put, List.setIfInBounds_toArray, List.set_cons_zero, List.set_cons_succ]
        refine wpAnyH_take (i := 10) (v := ?_) rfl (by kernel_rfl) (by kernel_rfl) (by kernel_rfl) (fun _ _ _ h => h) (Or.inl ⟨by kernel_rfl, ?_⟩) (by assumption) ?_
        rotate_left
        · (intro w hSw; (try dsimp only at hSw); go_simp; (try with_reducible rfl))
        try simp only [List.getElem_toArray, List.getElem_cons_succ, List.getElem_cons_zero, Act.put, List.setIfInBounds_toArray, List.set_cons_zero, List.set_cons_succ]
        refine wpAnyH_take (i := 11) (v := ?_) rfl (by kernel_rfl) (by kernel_rfl) (by kernel_rfl) (fun _ _ _ h => h) (Or.inl ⟨by kernel_rfl, ?_⟩) (by assumption) ?_
        rotate_left
        · (intro w hSw; (try dsimp only at hSw); go_simp; (try with_reducible rfl))
        try simp only [List.getElem_toArray, List.getElem_cons_succ, List.getElem_cons_zero, Act.put, List.setIfInBounds_toArray, List.set_cons_zero, List.set_cons_succ]
        refine wpAnyH_take (i := 12) (v := ?_) rfl (by kernel_rfl) (by kernel_rfl) (by kernel_rfl) (fun _ _ _ h => h) (Or.inl ⟨by kernel_rfl, ?_⟩) (by assumption) ?_
        rotate_left
        · (intro w hSw; (try dsimp only at hSw); go_simp; (try with_reducible rfl))
        try simp only [List.getElem_toArray, List.getElem_cons_succ, List.getElem_cons_zero, Act.put, List.setIfInBounds_toArray, List.set_cons_zero, List.set_cons_succ]
        refine wpAnyH_take (i := 13) (v := ?_) rfl (by kernel_rfl) (by kernel_rfl) (by kernel_rfl) (fun _ _ _ h => h) (Or.inl ⟨by kernel_rfl, ?_⟩) (by assumption) ?_
        rotate_left
        · (intro w hSw; (try dsimp only at hSw); go_simp; (try with_reducible rfl))
        try simp only [List.getElem_toArray, List.getElem_cons_succ, List.getElem_cons_zero, Act.put, List.setIfInBounds_toArray, List.set_cons_zero, List.set_cons_succ]
        refine wpAnyH_take (i := 14) (v := ?_) rfl (by kernel_rfl) (by kernel_rfl) (by kernel_rfl) (fun _ _ _ h => h) (Or.inl ⟨by kernel_rfl, ?_⟩) (by assumption) ?_
        rotate_left
        · (intro w hSw; (try dsimp only at hSw); go_simp; (try with_reducible rfl))
        try simp only [List.getElem_toArray, List.getElem_cons_succ, List.getElem_cons_zero, Act.put, List.setIfInBounds_toArray, List.set_cons_zero, List.set_cons_succ]
        refine wpAnyH_ready (rs := [6]) (by kernel_rfl) (by simp) ?_
        refine AllReadyH.cons rfl (fun K hK => ?_) AllReadyH.nil
        go_simp
        obtain ⟨W5, hW5⟩ : ∃ W5, W5 = (w4.alloc (.cells #[] 5)).drewN 1 := ⟨_, rfl⟩
        have hw5 : (w4.alloc (.cells #[] 5)).drew = W5 := hW5.symm
        have b45 : Below w4.heap.size w4 W5 := by rw [hW5]; exact below_drewN ((Below.refl _ _).alloc (Nat.le_refl _) _) 1
        have own5 : OwnV W5 w4.heap.size (.slice (some ⟨w4.heap.size, 0, none⟩) 0 0) [] := by rw [hW5]; exact (own_empty w4 w4.heap.size (Nat.le_refl _) _ rfl).drewN 1
        have rd5 : Rd W5 W5.heap.size (some ⟨gs, 0, none⟩) n (bVs s) := HRD4.out.go b45
        rw [hw5]
        have ht5 := HT4.out.below b45 HT4.out.lt
        have hs5 := HS4.out.below b45 HS4.out.lt
        have cs5 : W5.cell? ⟨ga, S, none⟩ = some (.slice (some ⟨gs, 0, none⟩) n ks) := (b45.cell (p := ⟨ga, S, none⟩) (lt_of_cell cs4)).trans cs4
        have HB45 := Lib.hid b45
        have OWN5 := Lib.hid own5
        have RD5 := Lib.hid rd5
        clear hW5 hw5 own5 rd5
        refine hK.out _ _ ⟨ht5.cell 0, ht5.cell 1, hs5.cell 1, hs5.cell 2, cs5⟩ (fun hHeld => ?_)
        clear hK K
        try simp only [List.getElem_toArray, List.getElem_cons_succ, List.getElem_cons_zero, Act.put, List.setIfInBounds_toArray, List.set_cons_zero, List.set_cons_succ]
        refine wpAnyH_ready (rs := [15]) (by kernel_rfl) (by simp) ?_
        refine AllReadyH.cons rfl (fun K hK => ?_) AllReadyH.nil
        refine step_append_rd (.tmp 172) (.tmp 180) rfl rfl w4.heap.size (.slice (some ⟨w4.heap.size, 0, none⟩) 0 0) [] s rfl OWN5.out W5.heap.size (some ⟨gs, 0, none⟩) n ks rfl RD5.out (by simp; omega) HB45.out.size ?_
        intro v6 w6 ho6 hg6 hat6
        have hv6 : ValO w6 v6 (some s) := ValO.of_append (W := W5) (g := w4.heap.size) ho6 hat6
        have hb6 : Below w4.heap.size w4 w6 := HB45.out.trans (grown_below hg6 HB45.out.size (fun k hk => (World.ownsRow.lt OWN5.out k hk).1))
        obtain ⟨g6, c6, rfl, lc6, hr6⟩ := hv6
        have hr7 := HZ4.out.below hb6 HZ4.out.lt
        have c7 : w6.frozen? ⟨gz, D, none⟩ = false := hr7.frozen D
        obtain ⟨u7, cu7⟩ : ∃ u, w6.cell? ⟨gz, D, none⟩ = some u := hr7.has (by rw [HLZ.out]; exact hD)
        have ht6 := HT4.out.below hb6 HT4.out.lt
        have hs6 := HS4.out.below hb6 HS4.out.lt
        have cs6 : w6.cell? ⟨ga, S, none⟩ = some (.slice (some ⟨gs, 0, none⟩) n ks) := (hb6.cell (p := ⟨ga, S, none⟩) (lt_of_cell cs4)).trans cs4
        obtain ⟨d7, c8⟩ := D3.out.putOut (W' := w6) (HB34.out.trans (hb6.mono HB34.out.size)) D (l := s) ls (v := .slice (some ⟨g6, 0, none⟩) s.length c6) ⟨g6, c6, rfl, lc6, hr6⟩
        rw [ls] at d7 c8
        have hs7 := hs6.far (p := ⟨gz, D, none⟩) (by simp; omega) (.slice (some ⟨g6, 0, none⟩) n c6)
        have ht7 := ht6.far (p := ⟨gz, D, none⟩) (Ne.symm D3.out.ne.2.1) (.slice (some ⟨g6, 0, none⟩) n c6)
        have cs7 : (w6.setCell ⟨gz, D, none⟩ (.slice (some ⟨g6, 0, none⟩) n c6)).cell? ⟨ga, S, none⟩ = some (.slice (some ⟨gs, 0, none⟩) n ks) := (World.cell?_setCell_other w6 _ ⟨ga, S, none⟩ _ (by have := D3.out.ne.2.2; intro e; injection e with e; omega)).trans cs6
        have D7 := Lib.hid d7
        have C7 := Lib.hid c8
        clear hr6 ho6 hg6 hat6 hb6 d7 c8 hr7 b45
        refine hK.out _ _ ⟨ht6.cell 0, ht6.cell 1, hs6.cell 1, hs6.cell 2, cs6⟩ (fun hHeld => ?_)
        clear hK K
        try simp only [List.getElem_toArray, List.getElem_cons_succ, List.getElem_cons_zero, Act.put, List.setIfInBounds_toArray, List.set_cons_zero, List.set_cons_succ]
        refine wpAnyH_take (i := 16) (v := ?_) rfl (by kernel_rfl) (by kernel_rfl) (by kernel_rfl) (fun _ _ _ h => h) (Or.inl ⟨by kernel_rfl, ?_⟩) (by assumption) ?_
        rotate_left
        · (intro w hSw; (try dsimp only at hSw); go_simp; (try with_reducible rfl))
        try simp only [List.getElem_toArray, List.getElem_cons_succ, List.getElem_cons_zero, Act.put, List.setIfInBounds_toArray, List.set_cons_zero, List.set_cons_succ]
        refine wpAnyH_ready (rs := [17]) (by kernel_rfl) (by simp) ?_
        refine AllReadyH.cons rfl (fun K hK => ?_) AllReadyH.nil
        go_simp
        refine hK.out _ _ ⟨ht7.cell 0, ht7.cell 1, hs7.cell 1, hs7.cell 2, cs7⟩ (fun hHeld => ?_)
        clear hK K
        try simp only [List.getElem_toArray, List.getElem_cons_succ, List.getElem_cons_zero, Act.put, List.setIfInBounds_toArray, List.set_cons_zero, List.set_cons_succ]
        refine wpAnyH_done (by kernel_rfl) ?_ _
        obtain ⟨W8, hW8⟩ : ∃ W8, W8 = w6.setCell ⟨gz, D, none⟩ (.slice (some ⟨g6, 0, none⟩) n c6) := ⟨_, rfl⟩
        rw [← hW8] at D7 C7 hs7
        rw [← hW8]
        have s8 : W8.cell? ⟨W.heap.size + 1, 0, none⟩ = some (.int .u8 4) := hs7.cell 0
        clear hW8 hs7 ht7 ht6 hs5 ht5 s1 s0 k0 cu7 c7 cs7 cs6 cs5 cs4
        go_wp2_with fail
        go_ret
        refine ⟨(Chg3.of_below q3).trans (Chg3.low3 C7.out q3.size), fun st' h => ?_, fun h => some_none hv h⟩
        rw [hv] at h
        injection h with h
        rw [← h]
        exact ⟨rfl, D7.out⟩
    · have h1 : decide ((no : Int) ≤ (D : Int)) = true := decide_eq_true (by omega)
      have h1n : decide (no ≤ D) = true := decide_eq_true (by omega)
      have hv : vStep nr no reads n st 4 D S C = none := by
        unfold vStep
        rw [if_neg (by decide), if_neg (by decide), if_neg (by decide), if_pos rfl, hs]
        simp [hD]
      go_wp2_with fail
      refine wp_region_held_drew (S := (fun x => x.cell? ⟨W.heap.size + 1, 1, none⟩ = some (.int .i64 (D : Int)) ∧ x.cell? ⟨W.heap.size, 2, none⟩ = some (.int .i64 (no : Int)) ∧ x.cell? ⟨gt, 1, none⟩ = some (.slice (some ⟨gz, 0, none⟩) no no))) (by kernel_rfl) ⟨s1, p2, k1⟩ (fun hHeld => ?_)
      refine wpAnyH_take (i := 0) (v := ?_) rfl (by kernel_rfl) (by kernel_rfl) (by kernel_rfl) (fun _ _ _ h => h) (Or.inl ⟨by kernel_rfl, ?_⟩) (by assumption) ?_
      rotate_left
      · (intro w hSw; (try dsimp only at hSw); go_simp; (try with_reducible rfl))
      try simp only [List.getElem_toArray, List.getElem_cons_succ, List.getElem_cons_zero, Act.put, List.setIfInBounds_toArray, List.set_cons_zero, List.set_cons_succ]
      refine wpAnyH_take (i := 1) (v := ?_) rfl (by kernel_rfl) (by kernel_rfl) (by kernel_rfl) (fun _ _ _ h => h) (Or.inl ⟨by kernel_rfl, ?_⟩) (by assumption) ?_
      rotate_left
      · (intro w hSw; (try dsimp only at hSw); go_simp; (try with_reducible rfl))
      try simp only [List.getElem_toArray, List.getElem_cons_succ, List.getElem_cons_zero, Act.put, List.setIfInBounds_toArray, List.set_cons_zero, List.set_cons_succ]
      refine wpAnyH_take (i := 2) (v := ?_) rfl (by kernel_rfl) (by kernel_rfl) (by kernel_rfl) (fun _ _ _ h => h) (Or.inl ⟨by kernel_rfl, ?_⟩) (by assumption) ?_
      rotate_left
      · (intro w hSw; (try dsimp only at hSw); go_simp; (try with_reducible rfl))
      try simp only [List.getElem_toArray, List.getElem_cons_succ, List.getElem_cons_zero, Act.put, List.setIfInBounds_toArray, List.set_cons_zero, List.set_cons_succ]
      refine wpAnyH_take (i := 3) (v := ?_) rfl (by kernel_rfl) (by kernel_rfl) (by kernel_rfl) (fun _ _ _ h => h) (Or.inl ⟨by kernel_rfl, ?_⟩) (by assumption) ?_
      rotate_left
      · (intro w hSw; (try dsimp only at hSw); go_simp; (try with_reducible rfl))
      try simp only [List.getElem_toArray, List.getElem_cons_succ, List.getElem_cons_zero, Act.put, List.setIfInBounds_toArray, List.set_cons_zero, List.set_cons_succ]
      refine wpAnyH_take (i := 4) (v := ?_) rfl (by kernel_rfl) (by kernel_rfl) (by kernel_rfl) (fun _ _ _ h => h) (Or.inl ⟨by kernel_rfl, ?_⟩) (by assumption) ?_
      rotate_left
      · (intro w hSw; (try dsimp only at hSw); go_simp; (try with_reducible rfl))
      try simp only [List.getElem_toArray, List.getElem_cons_succ, List.getElem_cons_zero, Act.put, List.setIfInBounds_toArray, List.set_cons_zero, List.set_cons_succ]
      refine wpAnyH_take (i := 5) (v := ?_) rfl (by kernel_rfl) (by kernel_rfl) (by kernel_rfl) (fun _ _ _ h => h) (Or.inl ⟨by kernel_rfl, ?_⟩) (by assumption) ?_
      rotate_left
      · (intro w hSw; (try dsimp only at hSw); go_simp; (try with_reducible rfl))
      try simp only [List.getElem_toArray, List.getElem_cons_succ, List.getElem_cons_zero, Act.put, List.setIfInBounds_toArray, List.set_cons_zero, List.set_cons_succ]
      refine wpAnyH_take (i := 6) (v := ?_) rfl (by kernel_rfl) (by kernel_rfl) (by kernel_rfl) (fun _ _ _ h => h) (Or.inl ⟨by kernel_rfl, ?_⟩) (by assumption) ?_
      rotate_left
      · (intro w hSw; (try dsimp only at hSw); go_simp; (try with_reducible rfl))
      try simp only [List.getElem_toArray, List.getElem_cons_succ, List.getElem_cons_zero, Act.put, List.setIfInBounds_toArray, List.set_cons_zero, List.set_cons_succ]
      refine wpAnyH_take (i := 7) (v := ?_) rfl (by kernel_rfl) (by kernel_rfl) (by kernel_rfl) (fun _ _ _ h => h) (Or.inl ⟨by kernel_rfl, ?_⟩) (by assumption) ?_
      rotate_left
      · (intro w hSw; (try dsimp only at hSw); go_simp; (try with_reducible rfl))
      try simp only [List.getElem_toArray, List.getElem_cons_succ, List.getElem_cons_zero, Act.put, List.setIfInBounds_toArray, List.set_cons_zero, List.set_cons_succ]
      refine wpAnyH_take (i := 8) (v := ?_) rfl (by kernel_rfl) (by kernel_rfl) (by kernel_rfl) (fun _ _ _ h => h) (Or.inl ⟨by kernel_rfl, ?_⟩) (by assumption) ?_
      rotate_left
      · (intro w hSw; (try dsimp only at hSw); go_simp; (try with_reducible rfl))
      try simp only [List.getElem_toArray, List.getElem_cons_succ, List.getElem_cons_zero, Act.put, List.setIfInBounds_toArray, List.set_cons_zero, List.set_cons_succ]
      refine wpAnyH_take (i := 9) (v := ?_) rfl (by kernel_rfl) (by kernel_rfl) (by kernel_rfl) (fun _ _ _ h => h) (Or.inl ⟨by kernel_rfl, ?_⟩) (by assumption) ?_
      rotate_left
      · (intro w hSw; (try dsimp only at hSw); go_simp; (try with_reducible rfl))
      try simp only [List.getElem_toArray, List.getElem_cons_succ, List.getElem_cons_zero, Act.put, List.setIfInBounds_toArray, List.set_cons_zero, List.set_cons_succ]
      refine wpAnyH_take (i := 10) rfl (by kernel_rfl) (by kernel_rfl) (by kernel_rfl) (fun _ _ _ h => h) (Or.inr ⟨by kernel_rfl, rfl⟩) (by assumption) ?_
      try simp only [List.getElem_toArray, List.getElem_cons_succ, List.getElem_cons_zero, Act.put, List.setIfInBounds_toArray, List.set_cons_zero, List.set_cons_succ]
      refine wpAnyH_take (i := 11) rfl (by kernel_rfl) (by kernel_rfl) (by kernel_rfl) (fun _ _ _ h => h) (Or.inr ⟨by kernel_rfl, rfl⟩) (by assumption) ?_
      try simp only [List.getElem_toArray, List.getElem_cons_succ, List.getElem_cons_zero, Act.put, List.setIfInBounds_toArray, List.set_cons_zero, List.set_cons_succ]
      refine wpAnyH_take (i := 12) rfl (by kernel_rfl) (by kernel_rfl) (by kernel_rfl) (fun _ _ _ h => h) (Or.inr ⟨by kernel_rfl, rfl⟩) (by assumption) ?_
      try simp only [List.getElem_toArray, List.getElem_cons_succ, List.getElem_cons_zero, Act.put, List.setIfInBounds_toArray, List.set_cons_zero, List.set_cons_succ]
      refine wpAnyH_take (i := 13) rfl (by kernel_rfl) (by kernel_rfl) (by kernel_rfl) (fun _ _ _ h => h) (Or.inr ⟨by kernel_rfl, rfl⟩) (by assumption) ?_
      try simp only [List.getElem_toArray, List.getElem_cons_succ, List.getElem_cons_zero, Act.put, List.setIfInBounds_toArray, List.set_cons_zero, List.set_cons_succ]
      refine wpAnyH_take (i := 14) rfl (by kernel_rfl) (by kernel_rfl) (by kernel_rfl) (fun _ _ _ h => h) (Or.inr ⟨by kernel_rfl, rfl⟩) (by assumption) ?_
      try simp only [List.getElem_toArray, List.getElem_cons_succ, List.getElem_cons_zero, Act.put, List.setIfInBounds_toArray, List.set_cons_zero, List.set_cons_succ]
      refine wpAnyH_take (i := 15) rfl (by kernel_rfl) (by kernel_rfl) (by kernel_rfl) (fun _ _ _ h => h) (Or.inr ⟨by kernel_rfl, rfl⟩) (by assumption) ?_
      try simp only [List.getElem_toArray, List.getElem_cons_succ, List.getElem_cons_zero, Act.put, List.setIfInBounds_toArray, List.set_cons_zero, List.set_cons_succ]
      refine wpAnyH_take (i := 16) rfl (by kernel_rfl) (by kernel_rfl) (by kernel_rfl) (fun _ _ _ h => h) (Or.inr ⟨by kernel_rfl, rfl⟩) (by assumption) ?_
      try simp only [List.getElem_toArray, List.getElem_cons_succ, List.getElem_cons_zero, Act.put, List.setIfInBounds_toArray, List.set_cons_zero, List.set_cons_succ]
      refine wpAnyH_take (i := 17) rfl (by kernel_rfl) (by kernel_rfl) (by kernel_rfl) (fun _ _ _ h => h) (Or.inr ⟨by kernel_rfl, rfl⟩) (by assumption) ?_
      try simp only [List.getElem_toArray, List.getElem_cons_succ, List.getElem_cons_zero, Act.put, List.setIfInBounds_toArray, List.set_cons_zero, List.set_cons_succ]
      refine wpAnyH_take (i := 18) rfl (by kernel_rfl) (by kernel_rfl) (by kernel_rfl) (fun _ _ _ h => h) (Or.inr ⟨by kernel_rfl, rfl⟩) (by assumption) ?_
      try simp only [List.getElem_toArray, List.getElem_cons_succ, List.getElem_cons_zero, Act.put, List.setIfInBounds_toArray, List.set_cons_zero, List.set_cons_succ]
      refine wpAnyH_take (i := 19) (v := ?_) rfl (by kernel_rfl) (by kernel_rfl) (by kernel_rfl) (fun _ _ _ h => h) (Or.inl ⟨by kernel_rfl, ?_⟩) (by assumption) ?_
      rotate_left
      · (intro w hSw; (try dsimp only at hSw); go_simp; (try with_reducible rfl))
      try simp only [List.getElem_toArray, List.getElem_cons_succ, List.getElem_cons_zero, Act.put, List.setIfInBounds_toArray, List.set_cons_zero, List.set_cons_succ]
      refine wpAnyH_done (by kernel_rfl) ?_ _
      go_wp2_with fail
      go_ret
      exact ⟨(Chg3.of_below q3).drewN 1, fun st' h => some_none h hv, fun _ => rfl⟩
end Go.Proofs.Ythbjcafldbocpaa
namespace Go.Proofs.Ythbjcafldbocpaa
open Go.RowKit
set_option linter.unusedVariables false
set_option linter.unusedSimpArgs false
set_option maxRecDepth 100000 in
theorem rhas_is (reads s : Nat) (hs : s < 64) (hr : reads < 2 ^ 64) (b : Bool) (h : reads.testBit s = b) (w : World) :
    Calls Try.prog 69 #[.int .u64 (reads : Int), .int .i64 (s : Int)] w fun e w' => e = .returned (.bool b) ∧ w' = w := by
  subst h
  have h1 : decide ((s : Int) < 64) = true := decide_eq_true (by omega)
  have h0 : decide ((0 : Int) ≤ (s : Int)) = true := decide_eq_true (by omega)
  go_enter Try.func69, Try.ntmps69
  go_wp2_with fail
  go_ret
  exact ⟨ret_b (testb_u64 reads s hr), rfl⟩
theorem DW.load {W W' : World} {gt ga gz nr no n ld D : Nat} {st : VS} (h : DW W gt ga gz nr no n st) (hk : ∀ (k : Nat) (cells : Array Value), W.heap[k]? = some (Obj.cells cells 5 (0, 0)) → W'.heap[k]? = W.heap[k]?)
    {v : Value} (ha : ∀ lv, Row W ga 35 lv → Row W' ga 35 (lv.set D v)) (hz : ∀ lz, Row W gz 35 lz → Row W' gz 35 lz) (ht : Row W' gt 113 [.slice (some ⟨ga, 0, none⟩) nr nr, .slice (some ⟨gz, 0, none⟩) no no, .int .u64 (ld : Int)]) {l : List UInt8} (hl : l.length = n) (hv : ValO W' v (some l)) (hld : ld < 2 ^ 64) :
    DW W' gt ga gz nr no n { st with regs := st.regs.set D (some l), loads := ld } := by
  obtain ⟨h1, ⟨lv, hr, hv2⟩, ⟨lz, hz2, hw⟩, h4, h5, n1, n2, n3⟩ := h
  exact ⟨ht, ⟨_, ha lv hr, (hv2.keep hk).set D hv⟩, ⟨lz, hz lz hz2, hw.keep hk⟩, h4.set D l hl ld, hld, n1, n2, n3⟩
theorem row_inj {W : World} {g : Nat} {t : TypeId} {a b : List Value} (h : Row W g t a) (h' : Row W g t b) : a = b := by
  unfold Row at h h'
  rw [h] at h'
  injection h' with h'
  injection h' with e _
  have := congrArg Array.toList e
  simpa using this
set_option maxHeartbeats 4000000 in
set_option maxRecDepth 100000 in
theorem do_load (gt ga gz nr no n reads nS cS : Nat) (AS : Option Addr) (D S : Nat) (C : UInt8) (st : VS) (W : World) (h : DW W gt ga gz nr no n st) (hn : n ≤ 64) (hnr : nr ≤ 256) (hrd : reads < 2 ^ 64) :
    Calls Try.prog 51 #[.pointer (some ⟨gt, 0, none⟩), .agg #[.slice AS nS cS, .int .i64 (nr : Int), .int .i64 (no : Int), .int .u64 (reads : Int)], .agg #[.int .u8 2, .int .i64 (D : Int), .int .i64 (S : Int), .int .u8 (C.toNat : Int)], .int .i64 (n : Int)] W fun e W' =>
      Chg3 W.heap.size gt ga gz W W' ∧ (∀ st', vStep nr no reads n st 2 D S C = some st' → e = .returned (.bool true) ∧ DW W' gt ga gz nr no n st') ∧ (vStep nr no reads n st 2 D S C = none → e = .returned (.bool false)) := by
  have i0 : (0 : Int) ≤ (D : Int) := by omega
  have j0 : (0 : Int) ≤ (S : Int) := by omega
  go_enter Try.func51, Try.ntmps51
  go_wp2_with fail
  obtain ⟨W1, hW1⟩ : ∃ W1, W1 = (W.alloc (.cells #[.slice AS nS cS, .int .i64 (nr : Int), .int .i64 (no : Int), .int .u64 (reads : Int)] 26)).alloc (.cells #[.int .u8 2, .int .i64 (D : Int), .int .i64 (S : Int), .int .u8 (C.toNat : Int)] 59) := ⟨_, rfl⟩
  have q : Below W.heap.size W W1 := by rw [hW1]; exact ((Below.refl _ _).alloc (Nat.le_refl _) _).alloc (by simp) _
  have hp : Row W1 W.heap.size 26 [.slice AS nS cS, .int .i64 (nr : Int), .int .i64 (no : Int), .int .u64 (reads : Int)] := by rw [hW1]; exact (Row.new W _ _).alloc _
  have hs : Row W1 (W.heap.size + 1) 59 [.int .u8 2, .int .i64 (D : Int), .int .i64 (S : Int), .int .u8 (C.toNat : Int)] := by
    rw [hW1]
    have := Row.new (W.alloc (.cells #[.slice AS nS cS, .int .i64 (nr : Int), .int .i64 (no : Int), .int .u64 (reads : Int)] 26)) [.int .u8 2, .int .i64 (D : Int), .int .i64 (S : Int), .int .u8 (C.toNat : Int)] 59
    simpa using this
  have h1 := h.below q
  have ltt := h.ht.lt
  have lta : ga < W.heap.size := by obtain ⟨lv, hr, _⟩ := h.la; exact hr.lt
  have ltz : gz < W.heap.size := by obtain ⟨lv, hr, _⟩ := h.lz; exact hr.lt
  rw [← hW1]
  clear hW1 h
  obtain ⟨lv, hra, hva⟩ := h1.la
  obtain ⟨lz, hrz, hvz⟩ := h1.lz
  have k0 : W1.cell? ⟨gt, 0, none⟩ = some (.slice (some ⟨ga, 0, none⟩) nr nr) := h1.ht.cell 0
  have s0 : W1.cell? ⟨W.heap.size + 1, 0, none⟩ = some (.int .u8 2) := hs.cell 0
  have s1 : W1.cell? ⟨W.heap.size + 1, 1, none⟩ = some (.int .i64 (D : Int)) := hs.cell 1
  have s2 : W1.cell? ⟨W.heap.size + 1, 2, none⟩ = some (.int .i64 (S : Int)) := hs.cell 2
  have e1 : ∀ k : Nat, W1.heap[k]? = W1.heap[k]? := fun _ => rfl
  obtain ⟨bD, hbD⟩ : ∃ b, (st.regs.getD D none).isSome = b := ⟨_, rfl⟩
  obtain ⟨bS, hbS⟩ : ∃ b, (st.regs.getD S none).isSome = b := ⟨_, rfl⟩
  have HID := Lib.hid (fun (X : World) (e : ∀ k : Nat, X.heap[k]? = W1.heap[k]?) => inside_is X ga nr D lv st.regs ((e ga).trans hra) (hva.keep (fun g _ _ => e g)) h1.ok.lr _ hbD)
  have HIS := Lib.hid (fun (X : World) (e : ∀ k : Nat, X.heap[k]? = W1.heap[k]?) => inside_is X ga nr S lv st.regs ((e ga).trans hra) (hva.keep (fun g _ _ => e g)) h1.ok.lr _ hbS)
  have HBD := Lib.hid hbD
  have HBS := Lib.hid hbS
  clear hbD hbS
  have H1 := Lib.hid h1
  have HS := Lib.hid hs
  have HP := Lib.hid hp
  have HQ := Lib.hid q
  have HRA := Lib.hid hra
  have HVA := Lib.hid hva
  have HRZ := Lib.hid hrz
  have HVZ := Lib.hid hvz
  clear h1 hs hp q hra hva hrz hvz
  go_quiet (exact Calls.quiet_of_same (HID.out _ (fun _ => rfl)))
  obtain ⟨W2, hW2⟩ : ∃ W2, W2 = W1.drewN nq := ⟨_, rfl⟩
  have e2 : ∀ k : Nat, W2.heap[k]? = W1.heap[k]? := by rw [hW2]; exact e1
  rw [← hW2]
  have k0 : W2.cell? ⟨gt, 0, none⟩ = some (.slice (some ⟨ga, 0, none⟩) nr nr) := by rw [hW2]; exact k0
  have s0 : W2.cell? ⟨W.heap.size + 1, 0, none⟩ = some (.int .u8 2) := by rw [hW2]; exact s0
  have s1 : W2.cell? ⟨W.heap.size + 1, 1, none⟩ = some (.int .i64 (D : Int)) := by rw [hW2]; exact s1
  have s2 : W2.cell? ⟨W.heap.size + 1, 2, none⟩ = some (.int .i64 (S : Int)) := by rw [hW2]; exact s2
  have HW2 := Lib.hid hW2
  clear hW2
  go_wp2_with fail
  go_quiet (exact Calls.quiet_of_same (HIS.out _ e2))
  obtain ⟨W3, hW3⟩ : ∃ W3, W3 = W2.drewN nq := ⟨_, rfl⟩
  have e3 : ∀ k : Nat, W3.heap[k]? = W1.heap[k]? := by rw [hW3]; exact e2
  rw [← hW3]
  have k0 : W3.cell? ⟨gt, 0, none⟩ = some (.slice (some ⟨ga, 0, none⟩) nr nr) := by rw [hW3]; exact k0
  have s0 : W3.cell? ⟨W.heap.size + 1, 0, none⟩ = some (.int .u8 2) := by rw [hW3]; exact s0
  have s1 : W3.cell? ⟨W.heap.size + 1, 1, none⟩ = some (.int .i64 (D : Int)) := by rw [hW3]; exact s1
  have s2 : W3.cell? ⟨W.heap.size + 1, 2, none⟩ = some (.int .i64 (S : Int)) := by rw [hW3]; exact s2
  have p1 : W3.cell? ⟨W.heap.size, 1, none⟩ = some (.int .i64 (nr : Int)) := (HP.out.of_block (w' := W3) (e3 _)).cell 1
  have p2 : W3.cell? ⟨W.heap.size, 2, none⟩ = some (.int .i64 (no : Int)) := (HP.out.of_block (w' := W3) (e3 _)).cell 2
  have p3 : W3.cell? ⟨W.heap.size, 3, none⟩ = some (.int .u64 (reads : Int)) := (HP.out.of_block (w' := W3) (e3 _)).cell 3
  have q3 : Below W.heap.size W W3 := by rw [hW3, HW2.out]; exact below_drewN (below_drewN HQ.out _) _
  have HW3 := Lib.hid hW3
  clear hW3
  have D3 := Lib.hid (H1.out.below (W' := W3) (show Below W1.heap.size W1 W3 by rw [HW3.out, HW2.out]; exact below_drewN (below_drewN (Below.refl _ _) _) _))
  by_cases hD : D < nr
  · have h1 : decide ((nr : Int) ≤ (D : Int)) = false := decide_eq_false (by omega)
    have h1n : decide (nr ≤ D) = false := decide_eq_false (by omega)
    by_cases hSn : S < n
    · have h2 : decide ((n : Int) ≤ (S : Int)) = false := decide_eq_false (by omega)
      have h2n : decide (n ≤ S) = false := decide_eq_false (by omega)
      by_cases hb : reads.testBit S = true
      · have i1 : (D : Int) < (nr : Int) := by omega
        have hmk := make_bytes n (by omega)
        obtain ⟨lw, hrw, hvw⟩ := D3.out.la
        have c1 : ∃ u, W3.cell? ⟨ga, D, none⟩ = some u := hrw.has (by rw [hvw.1, D3.out.ok.lr]; exact hD)
        obtain ⟨u, c1⟩ := c1
        have f1 : W3.frozen? ⟨ga, D, none⟩ = false := hrw.frozen D
        have c2 : (W3.alloc (.cells (madeCells #[.int .u8 0] n) 5)).cell? ⟨ga, D, none⟩ = some u := ((hrw.alloc _).cell D).trans ((hrw.cell D).symm.trans c1)
        have f2 : (W3.alloc (.cells (madeCells #[.int .u8 0] n) 5)).frozen? ⟨ga, D, none⟩ = false := (hrw.alloc _).frozen D
        have ng : ga ≠ gt := D3.out.ne.1
        have lgt3 : gt < W3.heap.size := D3.out.ht.lt
        have lga3 : ga < W3.heap.size := hrw.lt
        have HRW := Lib.hid hrw
        have HVW := Lib.hid hvw
        clear hrw hvw
        have nb : ga ≠ W.heap.size + 1 := by omega
        have lt3 : W.heap.size + 1 < W3.heap.size := (HS.out.of_block (w' := W3) (e3 _)).lt
        go_wp2_with (first | (refine (rhas_is reads S (by omega) hrd true hb _).mono ?_; rintro e w' ⟨rfl, hw'⟩; rw [hw']; clear hw' w'))
        go_region_held3 (fun x => x.cell? ⟨gt, 0, none⟩ = some (.slice (some ⟨ga, 0, none⟩) nr nr) ∧ x.cell? ⟨W.heap.size + 1, 1, none⟩ = some (.int .i64 (D : Int))) (go_keep) (fail)
        have hr0 := row_made_bytes W3 n
        obtain ⟨W4, hW4⟩ : ∃ W4, W4 = ((W3.setCell ⟨ga, D, none⟩ (.slice (some ⟨W3.heap.size, 0, none⟩) n n)).alloc (.cells (madeCells #[.int .u8 0] n) 5)).drew := ⟨_, rfl⟩
        have hg4 : Row W4 W3.heap.size 5 (bVs (List.replicate n 0)) := by
          rw [hW4]
          have h9 := row_made_bytes (W3.setCell ⟨ga, D, none⟩ (.slice (some ⟨W3.heap.size, 0, none⟩) n n)) n
          have h8 : (W3.setCell ⟨ga, D, none⟩ (.slice (some ⟨W3.heap.size, 0, none⟩) n n)).heap.size = W3.heap.size := by simp [World.setCell]
          rw [h8] at h9
          exact h9
        have sz4 : W4.heap.size = W3.heap.size + 1 := by rw [hW4]; simp [World.setCell]
        have ha4 : Row W4 ga 35 (lw.set D (.slice (some ⟨W3.heap.size, 0, none⟩) n n)) := by rw [hW4]; exact (HRW.out.set D _).alloc _
        have e4 : ∀ k, k < W3.heap.size → k ≠ ga → W4.heap[k]? = W3.heap[k]? := by
          intro k hk hne
          rw [hW4]
          exact (Below.heap_alloc _ _ k (by simpa [World.setCell] using hk)).trans (Below.heap_setCell W3 ⟨ga, D, none⟩ _ k (by simp; omega))
        have o4 : W4.os = W3.os ∧ W4.tape = W3.tape ∧ W4.output = W3.output := by rw [hW4]; exact ⟨rfl, rfl, rfl⟩
        rw [← hW4]
        have HW4 := Lib.hid hW4
        clear hW4 c1 c2 f1 f2 k0 s0 s1 s2 hr0 hmk
        have hs4 : Row W4 (W.heap.size + 1) 59 [.int .u8 2, .int .i64 (D : Int), .int .i64 (S : Int), .int .u8 (C.toNat : Int)] := HS.out.of_block ((e4 _ lt3 (by omega)).trans (e3 _))
        have ht4 : Row W4 gt 113 _ := D3.out.ht.of_block (e4 gt lgt3 (Ne.symm ng))
        have k0 : W4.cell? ⟨gt, 0, none⟩ = some (.slice (some ⟨ga, 0, none⟩) nr nr) := ht4.cell 0
        have s0 : W4.cell? ⟨W.heap.size + 1, 0, none⟩ = some (.int .u8 2) := hs4.cell 0
        have s1 : W4.cell? ⟨W.heap.size + 1, 1, none⟩ = some (.int .i64 (D : Int)) := hs4.cell 1
        have s2 : W4.cell? ⟨W.heap.size + 1, 2, none⟩ = some (.int .i64 (S : Int)) := hs4.cell 2
        have cD : W4.cell? ⟨ga, D, none⟩ = some (.slice (some ⟨W3.heap.size, 0, none⟩) n n) := by
          rw [ha4.cell, List.getElem?_set_self (by rw [HVW.out.1, D3.out.ok.lr]; exact hD)]
        have cg : W4.cell? ⟨W3.heap.size, S, none⟩ = some (.int .u8 0) := by
          rw [hg4.cell, bVs_zeros, List.getElem?_replicate, if_pos hSn]
        have fg : W4.frozen? ⟨W3.heap.size, S, none⟩ = false := hg4.frozen S
        have m1 : W3.heap.size ≠ gt := by omega
        have m2 : W3.heap.size ≠ W.heap.size + 1 := by omega
        have m3 : W3.heap.size ≠ ga := by omega
        obtain ⟨g3, hg3⟩ : ∃ g3, g3 = W3.heap.size := ⟨_, rfl⟩
        rw [← hg3] at cD cg fg m1 m2 m3 hg4
        have HG3 := Lib.hid hg3
        have HG4 := Lib.hid hg4
        have HA4 := Lib.hid ha4
        have HE4 := Lib.hid e4
        have HT4 := Lib.hid ht4
        have i2 : (S : Int) < (n : Int) := by omega
        clear hg3 hg4 ha4 e4 ht4 hs4
        go_wp2_with fail
        go_region_held3 (fun x => x.cell? ⟨gt, 0, none⟩ = some (.slice (some ⟨ga, 0, none⟩) nr nr) ∧ x.cell? ⟨W.heap.size + 1, 1, none⟩ = some (.int .i64 (D : Int)) ∧ x.cell? ⟨W.heap.size + 1, 2, none⟩ = some (.int .i64 (S : Int)) ∧ x.cell? ⟨ga, D, none⟩ = some (.slice (some ⟨g3, 0, none⟩) n n)) (go_keep) (fail)
        have hs5 := (HS.out.of_block (w' := W4) ((HE4.out _ lt3 (by omega)).trans (e3 _))).far (p := ⟨g3, S, none⟩) (Ne.symm m2) (.int .u8 1)
        have ht5 := HT4.out.far (p := ⟨g3, S, none⟩) (Ne.symm m1) (.int .u8 1)
        have ha5 := HA4.out.far (p := ⟨g3, S, none⟩) (Ne.symm m3) (.int .u8 1)
        have hg5 := HG4.out.set S (.int .u8 1)
        have hs5' := hs5.drewN 1
        have ht5' := ht5.drewN 1
        have ha5' := ha5.drewN 1
        have hg5' := hg5.drewN 1
        obtain ⟨W5, hW5⟩ : ∃ W5, W5 = (W4.setCell ⟨g3, S, none⟩ (.int .u8 1)).drewN 1 := ⟨_, rfl⟩
        rw [← hW5] at hs5' ht5' ha5' hg5'
        have hW5' : (W4.setCell ⟨g3, S, none⟩ (.int .u8 1)).drew = W5 := hW5.symm
        have e5 : ∀ k, k < W3.heap.size → k ≠ ga → W5.heap[k]? = W3.heap[k]? := by
          intro k hk hne
          rw [hW5]
          exact (Below.heap_setCell W4 ⟨g3, S, none⟩ _ k (by have := HG3.out; simp; omega)).trans (HE4.out k hk hne)
        have o5 : W5.os = W3.os ∧ W5.tape = W3.tape ∧ W5.output = W3.output ∧ W3.heap.size ≤ W5.heap.size := by
          rw [hW5]
          exact ⟨o4.1, o4.2.1, o4.2.2, by have := sz4; simp [World.setCell]; omega⟩
        rw [hW5']
        clear hW5 hW5' hs5 ht5 ha5 hg5 cg fg cD k0 s0 s1 s2
        have k2 : W5.cell? ⟨gt, 2, none⟩ = some (.int .u64 (st.loads : Int)) := ht5'.cell 2
        have fk2 : W5.frozen? ⟨gt, 2, none⟩ = false := ht5'.frozen 2
        have s2 : W5.cell? ⟨W.heap.size + 1, 2, none⟩ = some (.int .i64 (S : Int)) := hs5'.cell 2
        have s0 : W5.cell? ⟨W.heap.size + 1, 0, none⟩ = some (.int .u8 2) := hs5'.cell 0
        have lS : (S : Int) < 64 := by omega
        go_wp2_with fail
        go_region
        have hv : vStep nr no reads n st 2 D S C = some { st with regs := st.regs.set D (some (unitR n S)), loads := st.loads ||| 1 <<< S } := by simp [vStep, hD, hSn, hb]
        rw [or_bit st.loads S (by omega) D3.out.hl]
        have ht6 := (ht5'.set 2 (.int .u64 ((st.loads ||| 1 <<< S : Nat) : Int))).drewN 1
        have hg6 := (hg5'.far (p := ⟨gt, 2, none⟩) m1 (.int .u64 ((st.loads ||| 1 <<< S : Nat) : Int))).drewN 1
        have ha6 := (ha5'.far (p := ⟨gt, 2, none⟩) ng (.int .u64 ((st.loads ||| 1 <<< S : Nat) : Int))).drewN 1
        have e6 : ∀ k, k < W3.heap.size → k ≠ ga → k ≠ gt → ((W5.setCell ⟨gt, 2, none⟩ (.int .u64 ((st.loads ||| 1 <<< S : Nat) : Int))).drewN 1).heap[k]? = W3.heap[k]? := fun k hk h1 h2 => (Below.heap_setCell W5 ⟨gt, 2, none⟩ _ k h2).trans (e5 k hk h1)
        have hso : W3.heap.size ≤ ((W5.setCell ⟨gt, 2, none⟩ (.int .u64 ((st.loads ||| 1 <<< S : Nat) : Int))).drewN 1).heap.size := by have := o5.2.2.2; simp [World.setCell]; omega
        have C6 := Lib.hid (show Chg3 W3.heap.size gt ga gz W3 ((W5.setCell ⟨gt, 2, none⟩ (.int .u64 ((st.loads ||| 1 <<< S : Nat) : Int))).drewN 1) from ⟨o5.1, o5.2.1, o5.2.2.1, hso, fun k hk a b _ => e6 k hk b a⟩)
        have hg7 : bVs (unitR n S) = (bVs (List.replicate n 0)).set S (.int .u8 1) := by unfold unitR; rw [← bVs_set]; rfl
        rw [← hg7] at hg6
        have D6 := Lib.hid (D3.out.load (W' := (W5.setCell ⟨gt, 2, none⟩ (.int .u64 ((st.loads ||| 1 <<< S : Nat) : Int))).drewN 1) (D := D) (ld := st.loads ||| 1 <<< S) (v := .slice (some ⟨W3.heap.size, 0, none⟩) n n)
          (fun k cells hk => e6 k (heap_lt hk) (by rintro rfl; exact absurd (row_type HRW.out hk) (by decide)) (by rintro rfl; exact absurd (row_type D3.out.ht hk) (by decide)))
          (fun lv hlv => by rw [row_inj hlv HRW.out]; exact ha6)
          (fun lz hlz => hlz.of_block (e6 gz hlz.lt D3.out.ne.2.2 D3.out.ne.2.1))
          ht6 (unitR_length n S) (by rw [← HG3.out]; exact ValO.of_row hg6 (unitR_length n S)) (or_lt _ _ D3.out.hl (by omega)))
        obtain ⟨W6, hW6⟩ : ∃ W6, W6 = (W5.setCell ⟨gt, 2, none⟩ (.int .u64 ((st.loads ||| 1 <<< S : Nat) : Int))).drewN 1 := ⟨_, rfl⟩
        rw [← hW6] at C6 D6
        have hW6' : (W5.setCell ⟨gt, 2, none⟩ (.int .u64 ((st.loads ||| 1 <<< S : Nat) : Int))).drew = W6 := hW6.symm
        have s6 : ((W5.setCell ⟨gt, 2, none⟩ (.int .u64 ((st.loads ||| 1 <<< S : Nat) : Int))).drewN 1).cell? ⟨W.heap.size + 1, 0, none⟩ = some (.int .u8 2) := ((hs5'.far (p := ⟨gt, 2, none⟩) (by simp; omega) (.int .u64 ((st.loads ||| 1 <<< S : Nat) : Int))).drewN 1).cell 0
        rw [← hW6] at s6
        rw [hW6']
        clear hW6 hW6' ht6 hg6 ha6 e6 hso hs5' ht5' ha5' hg5' e5 k2 fk2 s2 s0 p1 p2 p3
        go_wp2_with fail
        go_ret
        refine ⟨(Chg3.of_below q3).trans (Chg3.low3 C6.out q3.size), fun st' h => ?_, fun h => some_none hv h⟩
        rw [hv] at h
        injection h with h
        rw [← h]
        exact ⟨rfl, D6.out⟩
      · have hb' : reads.testBit S = false := by simpa using hb
        have hv : vStep nr no reads n st 2 D S C = none := by simp [vStep, hb']
        go_wp2_with (first | (refine (rhas_is reads S (by omega) hrd false hb' _).mono ?_; rintro e w' ⟨rfl, rfl⟩))
        go_ret
        exact ⟨Chg3.of_below q3, fun st' h => some_none h hv, fun _ => rfl⟩
    · have h2 : decide ((n : Int) ≤ (S : Int)) = true := decide_eq_true (by omega)
      have h2n : decide (n ≤ S) = true := decide_eq_true (by omega)
      have hv : vStep nr no reads n st 2 D S C = none := by simp [vStep, hSn]
      go_wp2_with fail
      go_ret
      exact ⟨Chg3.of_below q3, fun st' h => some_none h hv, fun _ => rfl⟩
  · have h1 : decide ((nr : Int) ≤ (D : Int)) = true := decide_eq_true (by omega)
    have h1n : decide (nr ≤ D) = true := decide_eq_true (by omega)
    have hv : vStep nr no reads n st 2 D S C = none := by simp [vStep, hD]
    go_wp2_with fail
    go_ret
    exact ⟨Chg3.of_below q3, fun st' h => some_none h hv, fun _ => rfl⟩
end Go.Proofs.Ythbjcafldbocpaa
namespace Go.Proofs.Ythbjcafldbocpaa
open Go.ChangeShapes Go.WideShapes Go.ChangeAt Go.RowKit

theorem own_knob : ownKnob Try.prog.godebug = none := by kernel_rfl
theorem laid_out : laidOutB Try.prog = true := by kernel_rfl
theorem u8_of {n : Int} (h : (Lit.int .u8 n).wf = true) : ∃ u : UInt8, n = (u.toNat : Int) := by
  have hb := bounds_u8 h
  refine ⟨UInt8.ofNat n.toNat, ?_⟩
  rw [UInt8.toNat_ofNat']
  omega
theorem u8s_of : ∀ {zs : List Int}, (∀ n ∈ zs, (Lit.int .u8 n).wf = true) → ∃ xs : List UInt8, zs = xs.map fun x => (x.toNat : Int)
  | [], _ => ⟨[], rfl⟩
  | z :: zs, h => by
    obtain ⟨u, hu⟩ := u8_of (h z (by simp))
    obtain ⟨xs, hx⟩ := u8s_of (zs := zs) (fun n hn => h n (by simp [hn]))
    exact ⟨u :: xs, by simp [hu, hx]⟩
theorem open_bytes {H : Type} {enc : TypeId × Value → H} {W : World} {d : DataW H} {p : List MemPlace} {a : Option Addr} {len cap : Nat}
    (h : DataW.Trod enc Try.prog W 0 (fun _ => true) true 35 (.slice a len cap) d p) :
    ∃ (xs : List UInt8), Rd W W.heap.size a len (bVs xs) ∧ len ≤ cap ∧ cap ≤ maxLen ∧ ((d = .nil ∧ cap = 0) ∨ ∃ es rs : List (DataW H), d = .slice es rs ∧ es.length + rs.length = cap) := by
  obtain ⟨fuel, hf⟩ := h
  have hlt := DataW.trod_lt fuel _ _ _ hf
  rcases open_ints Try.underlying35 Try.underlying5 (by kernel_rfl) hf with ⟨hcs, hx⟩ | ⟨x, l, c, zs, hcs, _, hl, hm, hz, hx, hcell, hwz⟩
  · simp [Value.cells] at hcs
    obtain ⟨rfl, rfl, rfl⟩ := hcs
    exact ⟨[], Rd.nil, Nat.le_refl _, Nat.zero_le _, .inl ⟨by simpa using congrArg Prod.fst hx, rfl⟩⟩
  · simp [Value.cells] at hcs
    obtain ⟨rfl, rfl, rfl⟩ := hcs
    simp only [if_true] at hz
    obtain ⟨xs, rfl⟩ := u8s_of hwz
    rw [List.length_map] at hz
    refine ⟨xs.take len, ⟨by simp [bVs]; omega, fun hn => ?_⟩, hl, hm, .inr ⟨_, _, by simpa using congrArg Prod.fst hx, by simp [lits]; omega⟩⟩
    obtain ⟨g, o, rfl, hc⟩ := ints_at hcell (by rw [List.length_map]; omega)
    refine ⟨g, o, rfl, ?_, fun j u hu => ?_⟩
    · have hp : p = MemPlace.row ⟨g, o, none⟩ ((xs.map fun x => (x.toNat : Int)).length) := by simpa using congrArg Prod.snd hx
      have := hlt (.cell g o) (by rw [hp]; simp [MemPlace.row]; omega)
      exact this
    · have hj : j < (bVs (xs.take len)).length := by
        rcases Nat.lt_or_ge j (bVs (xs.take len)).length with hlt | hge
        · exact hlt
        · rw [List.getElem?_eq_none hge] at hu; cases hu
      rw [bVs_length, List.length_take] at hj
      rw [hc j (by rw [List.length_map]; omega)]
      rw [← hu]
      have hx : (xs.map fun x => (x.toNat : Int)).getD j 0 = ((xs[j]'(by omega)).toNat : Int) := by simp [List.getD]; rw [List.getElem?_eq_getElem (by omega)]; rfl
      rw [hx, bVs_get _ _ (by rw [List.length_take]; omega), List.getElem_take]
theorem bytes_of_u8 : Try.prog.bytesOf 5 = 1 := by kernel_rfl
end Go.Proofs.Ythbjcafldbocpaa
namespace Go.Proofs.Ythbjcafldbocpaa
open Go.ChangeShapes Go.WideShapes Go.ChangeAt Go.RowKit Go.Joins
set_option linter.unusedVariables false
set_option linter.unusedSimpArgs false

theorem cells_matrix : Try.prog.cellsOf 37 = 3 := by kernel_rfl
theorem bytes_field {H : Type} {enc : TypeId × Value → H} {W : World} {fuel : Nat} {v : Value} {y : DataW H × List MemPlace}
    (hf : DataW.trod enc Try.prog W 0 (fun _ => true) true fuel 35 [v] = some y) :
    ∃ (a : Option Addr) (len cap : Nat) (xs : List UInt8), v = .slice a len cap ∧ Rd W W.heap.size a len (bVs xs) ∧ len ≤ cap ∧ cap ≤ maxLen ∧ ((y.1 = .nil ∧ cap = 0) ∨ ∃ es rs : List (DataW H), y.1 = .slice es rs ∧ es.length + rs.length = cap) := by
  have hv : ∃ a len cap, v = .slice a len cap := by
    rcases open_ints Try.underlying35 Try.underlying5 (by kernel_rfl) hf with ⟨hcs, _⟩ | ⟨x, l, c, zs, hcs, _⟩
    · simp at hcs; exact ⟨_, _, _, hcs⟩
    · simp at hcs; exact ⟨_, _, _, hcs⟩
  obtain ⟨a, len, cap, rfl⟩ := hv
  have h : DataW.Trod enc Try.prog W 0 (fun _ => true) true 35 (.slice a len cap) y.1 y.2 := ⟨fuel, hf⟩
  obtain ⟨xs, h1, h2, h3, h4⟩ := open_bytes h
  exact ⟨a, len, cap, xs, rfl, h1, h2, h3, h4⟩
set_option maxRecDepth 100000 in
theorem open_matrix {H : Type} {enc : TypeId × Value → H} {W : World} {r : Reach} {b0 : Nat} {v : Value} {d : DataW H} {p : List MemPlace}
    (hv : Value.okWide Try.prog W r b0 37 v) (h : DataW.Trod enc Try.prog W 0 (fun _ => true) true 37 v d p) :
    ∃ (rr cc : Int) (a : Option Addr) (n cap : Nat) (xs : List UInt8) (d2 : DataW H), v = mV rr cc a n cap ∧ (Lit.int .i64 rr).wf = true ∧ (Lit.int .i64 cc).wf = true ∧ Rd W W.heap.size a n (bVs xs) ∧ n ≤ cap ∧ cap ≤ maxLen ∧
      d = .agg [.lit (.int .i64 rr), .lit (.int .i64 cc), d2] ∧ ((d2 = .nil ∧ cap = 0) ∨ ∃ es rs : List (DataW H), d2 = .slice es rs ∧ es.length + rs.length = cap) := by
  obtain ⟨v0, v1, v2, y0, y1, y2, m, rfl, rfl, rfl, t0, t1, t2⟩ := open_agg3 Try.underlying37 (by kernel_rfl) cells_matrix hv h
  obtain ⟨rr, e0, rfl, w0⟩ := DataW.trod_int Try.underlying3 t0
  obtain ⟨cc, e1, rfl, w1⟩ := DataW.trod_int Try.underlying3 t1
  obtain ⟨a, n, cap, xs, rfl, h1, h2, h3, h4⟩ := bytes_field t2
  simp at e0 e1
  subst e0; subst e1
  exact ⟨rr, cc, a, n, cap, xs, y2.1, rfl, w0, w1, h1, h2, h3, rfl, h4⟩
theorem sized_matrix {H : Type} {ts : List TypeId} {ds : List (DataW H)} {j : Nat} {a b : DataW H} {d2 : DataW H} {cap : Nat} (h : (DataW.weightsEach Try.prog ts ds).all (· ≤ reachBytes) = true)
    (ht : ts[j]? = some 37) (hd : ds[j]? = some (.agg [a, b, d2])) (hs : (d2 = .nil ∧ cap = 0) ∨ ∃ es rs : List (DataW H), d2 = .slice es rs ∧ es.length + rs.length = cap) : cap ≤ 140737488351232 := by
  rcases hs with ⟨_, h0⟩ | ⟨es, rs, rfl, hl⟩
  · omega
  · have := List.all_eq_true.1 h _ (DataW.weights_mem_each ht hd ((es.length + rs.length) * Try.prog.bytesOf 5) (by
      simp only [DataW.weights, Try.underlying37, DataW.weightsEach, List.map, Array.toList, Try.underlying35]
      simp))
    rw [bytes_of_u8] at this
    simp only [reachBytes] at this
    have h2 := of_decide_eq_true this
    omega
end Go.Proofs.Ythbjcafldbocpaa
