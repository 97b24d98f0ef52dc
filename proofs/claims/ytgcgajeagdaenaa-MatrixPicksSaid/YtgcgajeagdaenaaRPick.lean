/- The walk of the document's Pick. -/
import Derived.Test.YtgcgajeagdaenaaPickW2
import Derived.Test.YtgcgajeagdaenaaRRow
import Derived.Deep.RegionHeld3
import Derived.Deep.QuietTactic
import Derived.BigQuiet
namespace Go.Proofs.Ytgcgajeagdaenaa
open Go.RowKit
set_option linter.unusedVariables false
set_option linter.unusedSimpArgs false

set_option maxRecDepth 100000 in
set_option maxHeartbeats 3200000 in
theorem refPick_calls (r c : Int) (A : Option Addr) (n cap : Nat) (xs : List UInt8) (Az : Option Addr) (nz capz : Nat) (zs : List Int) (w : World) (hr : Rd w w.heap.size A n (bVs xs)) (hz : Rd w w.heap.size Az nz (iVs zs)) (hnz : nz ≤ 140737488355328) :
    Calls Try.prog 21 #[mV r c A n cap, .slice Az nz capz] w (PickPost r c n xs zs w) := by
  have hlz : zs.length = nz := by have := hz.len; rw [iVs_length] at this; exact this
  have HLZ := Lib.hid hlz
  clear hlz
  have b2 := (Row.new w [.int .i64 r, .int .i64 c, .slice A n cap] 24).alloc (.cells #[.int .i64 0, .int .i64 0, .slice none 0 0] 24)
  have b4 := Row.new (w.alloc (.cells #[.int .i64 r, .int .i64 c, .slice A n cap] 24)) [.int .i64 0, .int .i64 0, .slice none 0 0] 24
  rw [World.size_alloc] at b4
  have hB : Below w.heap.size w ((w.alloc (.cells #[.int .i64 r, .int .i64 c, .slice A n cap] 24)).alloc (.cells #[.int .i64 0, .int .i64 0, .slice none 0 0] 24)) := ((Below.refl _ _).alloc (Nat.le_refl _) _).alloc (by simp) _
  have HB2 := Lib.hid b2
  have HB4 := Lib.hid b4
  have HB := Lib.hid hB
  clear b2 b4 hB
  by_cases hrt : rightB r c n = true
  · obtain ⟨rr, cc, rfl, rfl, hr64, hc64, hnrc⟩ : ∃ a b : Nat, r = a ∧ c = b ∧ a ≤ 64 ∧ b ≤ 64 ∧ n = a * b := by
      simp [rightB] at hrt
      refine ⟨r.toNat, c.toNat, by omega, by omega, by omega, by omega, ?_⟩
      apply Int.ofNat_inj.1
      rw [Int.natCast_mul, Int.toNat_of_nonneg hrt.1.1, Int.toNat_of_nonneg hrt.2.1.1]
      exact hrt.2.2
    have HN := Lib.hid hnrc
    have HRT := Lib.hid hrt
    have HR1 := Lib.hid (fun w => refRight_calls rr cc A n cap w)
    rw [hrt] at HR1
    clear hnrc hrt
    go_enter Try.func21, Try.ntmps21
    go_wp2_with (go_at_call 18; refine (HR1.out _).mono ?_; rintro e w1 ⟨rfl, hb1⟩; have b2 := HB2.out.below hb1 (by simp; omega); have b4 := HB4.out.below hb1 (by simp); have hB := HB.out.trans (hb1.mono HB.out.size); have HB2' := Lib.hid b2; have HB4' := Lib.hid b4; have HB' := Lib.hid hB; clear b2 b4 hB)
    clear HB2 HB4 HB HR1 hb1
    go_loopw [6] (fun v17 wr => ∃ i : Nat, i ≤ nz ∧ v17 = .int .i64 (i : Int) ∧ Hid (∀ k, k < i → 0 ≤ zs.getD k 0 ∧ zs.getD k 0 < (rr : Int)) ∧ Row wr w.heap.size 24 [.int .i64 (rr : Int), .int .i64 (cc : Int), .slice A n cap] ∧ Row wr (w.heap.size + 1) 24 [.int .i64 0, .int .i64 0, .slice none 0 0] ∧ Below w.heap.size w wr) (fun v17 _ => nz - (intOf v17).toNat)
    case atStart => exact ⟨0, by omega, rfl, fun k hk => by omega, HB2'.out, HB4'.out, HB'.out⟩
    case round =>
      obtain ⟨i, hi, rfl, HG, b2, b4, hB⟩ := hrel
      clear HB2' HB4' HB'
      obtain ⟨c20, c21, c22, f20, f21, f22⟩ := b2.three
      obtain ⟨c40, c41, c42, f40, f41, f42⟩ := b4.three
      by_cases hlt : i < nz
      · obtain ⟨g, o, rfl, hg, hcell⟩ := rd_int (hz.below hB (Nat.le_refl _)) hlt
        obtain ⟨z, hzi⟩ : ∃ z, z = zs.getD i 0 := ⟨_, rfl⟩
        rw [← hzi] at hcell
        have HZI := Lib.hid hzi
        clear hzi
        by_cases h1 : z < 0
        · have HE := Lib.hid (show pickE (rightB rr cc n) rr zs = 2 by
            have hn : rowsB rr zs = false := by
              by_cases h : rowsB rr zs = true
              · have := rowsB_get h (k := i) (by rw [HLZ.out]; exact hlt); rw [← HZI.out] at this; omega
              · simpa using h
            simp [pickE, HRT.out, hn])
          have d1 : decide (z < 0) = true := by simpa using h1
          go_wp2_with fail
          go_quiet (fail)
          go_wp2_with fail
          exact bodyPost_ret (v := .tuple #[mV 0 0 none 0 0, .int .i64 2]) (by simp [results, Try.results21, go_sem, c40, c41, c42, f40, f41, f42]) rfl (pickPost_err HE.out (by omega) (below_set3 (below_drewN hB _) (by omega) _ _ _))
        · have d1 : decide (z < 0) = false := by simpa using h1
          by_cases h2 : (rr : Int) ≤ z
          · have HE := Lib.hid (show pickE (rightB rr cc n) rr zs = 2 by
              have hn : rowsB rr zs = false := by
                by_cases h : rowsB rr zs = true
                · have := rowsB_get h (k := i) (by rw [HLZ.out]; exact hlt); rw [← HZI.out] at this; omega
                · simpa using h
              simp [pickE, HRT.out, hn])
            have d2 : decide ((rr : Int) ≤ z) = true := by simpa using h2
            go_wp2_with fail
            go_quiet (fail)
            go_wp2_with fail
            exact bodyPost_ret (v := .tuple #[mV 0 0 none 0 0, .int .i64 2]) (by simp [results, Try.results21, go_sem, c40, c41, c42, f40, f41, f42]) rfl (pickPost_err HE.out (by omega) (below_set3 (below_drewN hB _) (by omega) _ _ _))
          · have d2 : decide ((rr : Int) ≤ z) = false := by simpa using h2
            have HZ := Lib.hid (show 0 ≤ z ∧ z < (rr : Int) by omega)
            go_wp2_with fail
            go_quiet (fail)
            go_wp2_with fail
            go_roundw
            case rel => exact ⟨i + 1, by omega, by go_num, fun k hk => by
              by_cases e : k = i
              · rw [e, ← HZI.out]; exact HZ.out
              · exact HG.out k (by omega), b2.drewN _, b4.drewN _, below_drewN hB _⟩
            case measure => simp [intOf]; omega
      · obtain rfl : i = nz := by omega
        have HROWS := Lib.hid (rowsB_no (r := (rr : Int)) (zs := zs) (by rw [HLZ.out]; exact HG.out))
        clear HG
        have l2 := b2.lt
        have l4 := b4.lt
        by_cases h64 : 64 < i
        · have HE := Lib.hid (show pickE (rightB rr cc n) rr zs = 4 by
            simp [pickE, HRT.out, HROWS.out, HLZ.out]; omega)
          go_wp2_with fail
          exact bodyPost_ret (v := .tuple #[mV 0 0 none 0 0, .int .i64 4]) (by simp [results, Try.results21, go_sem, c40, c41, c42, f40, f41, f42]) rfl (pickPost_err HE.out (by omega) (below_set3 hB (by omega) _ _ _))
        · have HE := Lib.hid (show pickE (rightB rr cc n) rr zs = 0 by
            simp [pickE, HRT.out, HROWS.out, HLZ.out]; omega)
          obtain ⟨wo, rfl⟩ : ∃ wo : World, wo = wr := ⟨_, rfl⟩
          have HB8 := Lib.hid (Row.new wo [.int .i64 (i : Int), .int .i64 (cc : Int), .slice none 0 0] 24)
          have HB2 := Lib.hid (b2.alloc (.cells #[.int .i64 (i : Int), .int .i64 (cc : Int), .slice none 0 0] 24))
          have HB4 := Lib.hid (b4.alloc (.cells #[.int .i64 (i : Int), .int .i64 (cc : Int), .slice none 0 0] 24))
          have HB := Lib.hid (hB.alloc hB.size (.cells #[.int .i64 (i : Int), .int .i64 (cc : Int), .slice none 0 0] 24))
          have hsB : w.heap.size ≤ wo.heap.size := hB.size
          clear b2 b4 hB
          go_wp2_with fail
          go_loopw [8, 9] (fun v8 v9 wr => ∃ (j : Nat) (v : Value), j ≤ i ∧ v8 = .int .i64 (j : Int) ∧ OwnV wr (wo.heap.size + 1) v (pickD cc xs (zs.take j)) ∧ Row wr w.heap.size 24 [.int .i64 (rr : Int), .int .i64 (cc : Int), .slice A n cap] ∧ Row wr wo.heap.size 24 [.int .i64 (i : Int), .int .i64 (cc : Int), v] ∧ Row wr (w.heap.size + 1) 24 [.int .i64 0, .int .i64 0, .slice none 0 0] ∧ Below w.heap.size w wr) (fun v8 _ _ => i - (intOf v8).toNat)
          case atStart => exact ⟨0, .slice none 0 0, by omega, rfl, OwnV.nil _ _, HB2.out, HB8.out, HB4.out, HB.out⟩
          case round =>
            obtain ⟨j, v, hj, rfl, ho, b2, b8, b4, hB⟩ := hrel
            clear HB2 HB8 HB4 HB
            by_cases hlj : j < i
            · obtain ⟨g, o, rfl, hg, hcell⟩ := rd_int hz hlj
              have hzb := rowsB_get HROWS.out (k := j) (by rw [HLZ.out]; exact hlj)
              obtain ⟨z, hzi⟩ : ∃ z : Nat, zs.getD j 0 = z := ⟨(zs.getD j 0).toNat, by omega⟩
              rw [hzi] at hcell hzb
              have hzr : z < rr := by omega
              have HSN := Lib.hid (pick_snoc (c := cc) (xs := xs) (zs := zs) (i := j) (by rw [HLZ.out]; exact hlj))
              rw [hzi, Int.toNat_natCast] at HSN
              have HROWD := Lib.hid (show rowD (rightB rr cc n) rr cc (z : Int) xs = (xs.drop (z * cc)).take cc by
                have h : rowE (rightB rr cc n) rr (z : Int) = 0 := by simp [rowE, HRT.out]; omega
                unfold rowD
                rw [h, if_pos rfl, Int.toNat_natCast, Int.toNat_natCast])
              have HLEN := Lib.hid (show (pickD cc xs (zs.take j)).length + n ≤ 140737488355328 ∧ ((xs.drop (z * cc)).take cc).length ≤ n by
                have h1 : rowsB (rr : Int) (zs.take j) = true := by
                  have h0 := HROWS.out
                  unfold rowsB at h0 ⊢
                  rw [List.all_eq_true] at h0 ⊢
                  exact fun z hz => h0 z (List.mem_of_mem_take hz)
                have hx : xs.length = rr * cc := by have := hr.len; rw [bVs_length] at this; rw [this, HN.out]
                rw [pick_len hx h1, List.length_take, HLZ.out, Nat.min_eq_left (by omega)]
                have h2 : j * cc ≤ 64 * 64 := Nat.mul_le_mul (by omega) hc64
                have h3 : n ≤ 64 * 64 := by rw [HN.out]; exact Nat.mul_le_mul hr64 hc64
                exact ⟨by omega, by rw [List.length_take, List.length_drop, hx, HN.out]; omega⟩)
              generalize pickD cc xs (zs.take j) = D at *
              generalize (xs.drop (z * cc)).take cc = row at *
              obtain ⟨P, hP⟩ : ∃ P : World → Prop, P = fun x => Below w.heap.size w x ∧ Row x w.heap.size 24 [.int .i64 (rr : Int), .int .i64 (cc : Int), .slice A n cap] ∧ Row x wo.heap.size 24 [.int .i64 (i : Int), .int .i64 (cc : Int), v] ∧ Row x (w.heap.size + 1) 24 [.int .i64 0, .int .i64 0, .slice none 0 0] ∧ OwnV x (wo.heap.size + 1) v D := ⟨_, rfl⟩
              have hp0 : P wr := by rw [hP]; exact ⟨hB, b2, b8, b4, ho⟩
              have HG := Lib.hid (show ∀ x y : World, P x → Below x.heap.size x y → P y by
                rw [hP]
                rintro x y ⟨q1, q2, q3, q4, q5⟩ hb
                exact ⟨q1.trans (hb.mono q1.size), q2.below hb q2.lt, q3.below hb q3.lt, q4.below hb q4.lt, q5.below hb⟩)
              have HD := Lib.hid (show ∀ x : World, P x → P x.drew by rw [hP]; exact fun x q => ⟨q.1.drew, q.2⟩)
              have HC := Lib.hid (show ∀ w' : World, P w' → w'.cell? ⟨w.heap.size, 0, none⟩ = some (.int .i64 (rr : Int)) ∧ w'.cell? ⟨w.heap.size, 1, none⟩ = some (.int .i64 (cc : Int)) ∧ w'.cell? ⟨w.heap.size, 2, none⟩ = some (.slice A n cap) ∧ w'.cell? ⟨g, o + j, none⟩ = some (.int .i64 (z : Int)) by
                rw [hP]
                rintro x ⟨q1, q2, q3, q4, _⟩
                exact ⟨q2.cell 0, q2.cell 1, q2.cell 2, (q1.cell (p := ⟨g, o + j, none⟩) hg).trans hcell⟩)
              have HBEL := Lib.hid (show ∀ x : World, P x → Below w.heap.size w x by rw [hP]; exact fun x q => q.1)
              have HALL := Lib.hid (show ∀ x : World, P x → Below w.heap.size w x ∧ Row x w.heap.size 24 [.int .i64 (rr : Int), .int .i64 (cc : Int), .slice A n cap] ∧ Row x wo.heap.size 24 [.int .i64 (i : Int), .int .i64 (cc : Int), v] ∧ Row x (w.heap.size + 1) 24 [.int .i64 0, .int .i64 0, .slice none 0 0] ∧ OwnV x (wo.heap.size + 1) v D by rw [hP]; exact fun x q => q)
              clear hP b2 b8 b4 hB ho hcell hzi
              go_wp2_with fail
              have hc := HC.out _ hp0
              go_region_held3 (fun w' => P w' ∧ w'.cell? ⟨w.heap.size, 0, none⟩ = some (.int .i64 (rr : Int)) ∧ w'.cell? ⟨w.heap.size, 1, none⟩ = some (.int .i64 (cc : Int)) ∧ w'.cell? ⟨w.heap.size, 2, none⟩ = some (.slice A n cap) ∧ w'.cell? ⟨g, o + j, none⟩ = some (.int .i64 (z : Int)))
                (first | (go_split_ands; have q := HG.out _ _ (by assumption) hbk; exact ⟨q, HC.out _ q⟩) | (go_split_ands; have q := HD.out _ (by assumption); exact ⟨q, HC.out _ q⟩))
                (first | (go_at_call 25; (try go_split_ands); refine (refRow_calls (rr : Int) (cc : Int) (z : Int) A n cap xs _ ?_).mono ?_; exact (hr.below (HBEL.out _ (by assumption)) (Nat.le_refl _)).more (HBEL.out _ (by assumption)).size; rintro e wk ⟨A1, n1, c1, rfl, hro, hbk⟩))
              go_split_ands
              obtain ⟨hB, b2, b8, b4, ho⟩ := HALL.out wk (by assumption)
              rw [HROWD.out] at hro
              have hrol := hro.1
              obtain ⟨q80, q81, q82, p80, p81, p82⟩ := b8.three
              have l8 := b8.lt
              have hn1 : n1 ≤ n := by have := HLEN.out.2; omega
              go_wp2_with (at_builtin; refine wpList_append_rd (.tmp 61) (.tmp 62) rfl rfl (wo.heap.size + 1) v D row rfl ho wk.heap.size A1 n1 c1 rfl hro.rd (by have := HLEN.out.1; omega) l8 ?_; intro v1 w3 ho3 hg3 hat3; obtain ⟨A3, c3, rfl, hob3⟩ := ho3.slice; have b83 := b8.of_block (hg3.block _ b8.lt (fun e => by have := ho.base_le _ e.symm; omega)); obtain ⟨r80, r81, r82, s80, s81, s82⟩ := b83.three)
              go_roundw
              case rel =>
                refine ⟨j + 1, .slice A3 (D ++ row).length c3, by omega, by go_num, ?_, ?_, ?_, ?_, ?_⟩
                · rw [HSN.out]; exact (hob3.far (p := ⟨wo.heap.size, 2, none⟩) (by simp) _).2
                · exact (b2.of_block (hg3.block _ b2.lt (fun e => by have := ho.base_le _ e.symm; omega))).far (by simp; omega) _
                · rw [List.length_append, hrol]; exact b83.set 2 _
                · exact (b4.of_block (hg3.block _ b4.lt (fun e => by have := ho.base_le _ e.symm; omega))).far (by simp; omega) _
                · exact (hB.trans (grown_below hg3 hB.size (fun k e => by have := ho.base_le _ e; omega))).setCell (by simp; omega) _
              case measure => simp [intOf]; omega
            · obtain rfl : j = i := by omega
              obtain ⟨c40, c41, c42, f40, f41, f42⟩ := b4.three
              obtain ⟨c80, c81, c82, _, _, _⟩ := b8.three
              rw [List.take_of_length_le (by rw [HLZ.out]; omega)] at ho
              obtain ⟨A1, c1, rfl, ho1⟩ := ho.slice
              go_wp2_with fail
              refine bodyPost_ret (v := .tuple #[mV j cc A1 (pickD cc xs zs).length c1, .int .i64 0]) (by simp [results, Try.results21, go_sem, c40, c41, c42, f40, f41, f42]) rfl ?_
              refine ⟨A1, (pickD cc xs zs).length, c1, ?_, ?_, below_set3 hB (by omega) _ _ _⟩
              · unfold pkR pkC
                rw [HE.out, if_pos rfl, if_pos rfl, HLZ.out]
              · unfold pkD
                rw [HE.out, if_pos rfl, Int.toNat_natCast]
                exact (ho1.far3 (by omega) _ _ _).mono (by omega)
  · have hrt : rightB r c n = false := by simpa using hrt
    have HE := Lib.hid (show pickE (rightB r c n) r zs = 3 by simp [pickE, hrt])
    have HR1 := Lib.hid (fun w => refRight_calls r c A n cap w)
    rw [hrt] at HR1
    clear hrt
    go_enter Try.func21, Try.ntmps21
    go_wp2_with (go_at_call 18; refine (HR1.out _).mono ?_; rintro e w1 ⟨rfl, hb1⟩; have b4 := HB4.out.below hb1 (by simp); have hB := HB.out.trans (hb1.mono HB.out.size); obtain ⟨c40, c41, c42, f40, f41, f42⟩ := b4.three)
    exact bodyPost_ret (v := .tuple #[mV 0 0 none 0 0, .int .i64 3]) (by simp [results, Try.results21, go_sem, c40, c41, c42, f40, f41, f42]) rfl (pickPost_err HE.out (by omega) (below_set3 hB (by omega) _ _ _))
end Go.Proofs.Ytgcgajeagdaenaa
