/- The walk of Pick. -/
import Derived.Test.YtgcgajeagdaenaaPickW2
import Derived.Test.YtgcgajeagdaenaaCopyB
import Derived.Test.YtgcgajeagdaenaaMatB
import Derived.Test.YtgcgajeagdaenaaMatR
import Derived.Test.YtgcgajeagdaenaaMatRow
import Derived.Deep.RegionHeld3
namespace Go.Proofs.Ytgcgajeagdaenaa
open Go.RowKit
set_option linter.unusedVariables false
set_option linter.unusedSimpArgs false

/-- block g holds a list of which row, laid over it at k, makes new -/
def CurB (w : World) (g k : Nat) (row new : List UInt8) : Prop := ∃ l, k + row.length ≤ l.length ∧ over l k row = new ∧ Row w g 5 (bVs l)
theorem pick_step {c r : Nat} {xs : List UInt8} {zs : List Int} {j m : Nat} (hx : xs.length = r * c) (hrows : rowsB r zs = true) (hm : zs.length = m) (hj : j < m) :
    over (pickD c xs (zs.take j) ++ List.replicate ((m - j) * c) 0) (j * c) ((xs.drop ((zs.getD j 0).toNat * c)).take c) = pickD c xs (zs.take (j + 1)) ++ List.replicate ((m - (j + 1)) * c) 0 := by
  have hr' : rowsB r (zs.take j) = true := by
    unfold rowsB at hrows ⊢
    rw [List.all_eq_true] at hrows ⊢
    exact fun z hz => hrows z (List.mem_of_mem_take hz)
  have hl := pick_len (c := c) hx hr'
  rw [List.length_take, Nat.min_eq_left (by omega)] at hl
  rw [over_end _ _ _ _ hl, pick_snoc (by omega)]
  congr 1
  have hg := rowsB_get hrows (k := j) (by omega)
  have hrow : ((xs.drop ((zs.getD j 0).toNat * c)).take c).length = c := by
    rw [List.length_take, List.length_drop, hx]
    have h1 : ((zs.getD j 0).toNat + 1) * c ≤ r * c := Nat.mul_le_mul_right c (by omega)
    rw [Nat.add_mul] at h1
    omega
  rw [hrow, List.drop_replicate]
  congr 1
  obtain ⟨q, hq⟩ : ∃ q, m - j = q + 1 := ⟨m - j - 1, by omega⟩
  rw [hq, show m - (j + 1) = q by omega, Nat.add_mul]
  omega
set_option maxRecDepth 100000 in
set_option maxHeartbeats 3200000 in
theorem pick_calls (r c : Int) (A : Option Addr) (n cap : Nat) (xs : List UInt8) (Az : Option Addr) (nz capz : Nat) (zs : List Int) (w : World) (hr : Rd w w.heap.size A n (bVs xs)) (hz : Rd w w.heap.size Az nz (iVs zs)) (hnz : nz ≤ 140737488355328) (hnc : n ≤ cap) :
    Calls Try.prog 20 #[mV r c A n cap, .slice Az nz capz] w (PickPost r c n xs zs w) := by
  have hlz : zs.length = nz := by have := hz.len; rw [iVs_length] at this; exact this
  have HLZ := Lib.hid hlz
  clear hlz
  have b2 := (Row.new w [.int .i64 r, .int .i64 c, .slice A n cap] 24).alloc (.cells #[.int .i64 0, .int .i64 0, .slice none 0 0] 24)
  have b4 := Row.new (w.alloc (.cells #[.int .i64 r, .int .i64 c, .slice A n cap] 24)) [.int .i64 0, .int .i64 0, .slice none 0 0] 24
  rw [World.size_alloc] at b4
  have hB : Below w.heap.size w ((w.alloc (.cells #[.int .i64 r, .int .i64 c, .slice A n cap] 24)).alloc (.cells #[.int .i64 0, .int .i64 0, .slice none 0 0] 24)) := ((Below.refl _ _).alloc (Nat.le_refl _) _).alloc (by simp) _
  have HB2 := Lib.hid b2
  have HB4 := Lib.hid b4
  have HB := Lib.hid hB
  clear b2 b4 hB
  by_cases hrt : rightB r c n = true
  · obtain ⟨rr, cc, rfl, rfl, hr64, hc64, hnrc⟩ : ∃ a b : Nat, r = a ∧ c = b ∧ a ≤ 64 ∧ b ≤ 64 ∧ n = a * b := by
      simp [rightB] at hrt
      refine ⟨r.toNat, c.toNat, by omega, by omega, by omega, by omega, ?_⟩
      apply Int.ofNat_inj.1
      rw [Int.natCast_mul, Int.toNat_of_nonneg hrt.1.1, Int.toNat_of_nonneg hrt.2.1.1]
      exact hrt.2.2
    have HN := Lib.hid hnrc
    have HRT := Lib.hid hrt
    have HR1 := Lib.hid (fun w => right_calls rr cc A n cap w)
    rw [hrt] at HR1
    clear hnrc hrt
    go_enter Try.func20, Try.ntmps20
    go_wp2_with (go_at_call 17; refine (HR1.out _).mono ?_; rintro e w1 ⟨rfl, hb1⟩; have b2 := HB2.out.below hb1 (by simp; omega); have b4 := HB4.out.below hb1 (by simp); have hB := HB.out.trans (hb1.mono HB.out.size); obtain ⟨c20, c21, c22, f20, f21, f22⟩ := b2.three; obtain ⟨c40, c41, c42, f40, f41, f42⟩ := b4.three)
    clear HB2 HB4 HB HR1 hb1
    go_loop [17] (fun v17 => ∃ i : Nat, i ≤ nz ∧ v17 = .int .i64 (i : Int) ∧ Hid (∀ k, k < i → 0 ≤ zs.getD k 0 ∧ zs.getD k 0 < (rr : Int))) (fun v17 => nz - (intOf v17).toNat)
    case atStart => exact ⟨0, by omega, rfl, fun k hk => by omega⟩
    case round =>
      obtain ⟨i, hi, rfl, HG⟩ := hrel
      by_cases hlt : i < nz
      · obtain ⟨g, o, rfl, hg, hcell⟩ := rd_int (hz.below hB (Nat.le_refl _)) hlt
        obtain ⟨z, hzi⟩ : ∃ z, z = zs.getD i 0 := ⟨_, rfl⟩
        rw [← hzi] at hcell
        have HZI := Lib.hid hzi
        clear hzi
        by_cases h1 : z < 0
        · have HE := Lib.hid (show pickE (rightB rr cc n) rr zs = 2 by
            have hn : rowsB rr zs = false := by
              by_cases h : rowsB rr zs = true
              · have := rowsB_get h (k := i) (by rw [HLZ.out]; exact hlt); rw [← HZI.out] at this; omega
              · simpa using h
            simp [pickE, HRT.out, hn])
          have d1 : decide (z < 0) = true := by simpa using h1
          go_wp2_with fail
          exact bodyPost_ret (v := .tuple #[mV 0 0 none 0 0, .int .i64 2]) (by simp [results, Try.results20, go_sem, c40, c41, c42, f40, f41, f42]) rfl (pickPost_err HE.out (by omega) (below_set3 hB (by omega) _ _ _))
        · have d1 : decide (z < 0) = false := by simpa using h1
          by_cases h2 : (rr : Int) ≤ z
          · have HE := Lib.hid (show pickE (rightB rr cc n) rr zs = 2 by
              have hn : rowsB rr zs = false := by
                by_cases h : rowsB rr zs = true
                · have := rowsB_get h (k := i) (by rw [HLZ.out]; exact hlt); rw [← HZI.out] at this; omega
                · simpa using h
              simp [pickE, HRT.out, hn])
            have d2 : decide ((rr : Int) ≤ z) = true := by simpa using h2
            go_wp2_with fail
            exact bodyPost_ret (v := .tuple #[mV 0 0 none 0 0, .int .i64 2]) (by simp [results, Try.results20, go_sem, c40, c41, c42, f40, f41, f42]) rfl (pickPost_err HE.out (by omega) (below_set3 hB (by omega) _ _ _))
          · have d2 : decide ((rr : Int) ≤ z) = false := by simpa using h2
            have HZ := Lib.hid (show 0 ≤ z ∧ z < (rr : Int) by omega)
            go_wp2_with fail
            go_round
            case rel => exact ⟨i + 1, by omega, by go_num, fun k hk => by
              by_cases e : k = i
              · rw [e, ← HZI.out]; exact HZ.out
              · exact HG.out k (by omega)⟩
            case measure => simp [intOf]; omega
      · obtain rfl : i = nz := by omega
        have HROWS := Lib.hid (rowsB_no (r := (rr : Int)) (zs := zs) (by rw [HLZ.out]; exact HG.out))
        clear HG
        by_cases h64 : i ≤ 64
        · have hsd := sideB_nat h64
          go_wp2_with (go_at_call 43; refine (side_calls _ _).mono ?_; rintro e w' ⟨rfl, rfl⟩)
          have HE := Lib.hid (show pickE (rightB rr cc n) rr zs = 0 by
            simp [pickE, HRT.out, HROWS.out, HLZ.out]; omega)
          obtain ⟨p, hp⟩ : ∃ p, p = i * cc := ⟨_, rfl⟩
          have HP := Lib.hid hp
          clear hp
          refine (blank_row i cc p _ h64 hc64 HP).mono ?_
          rintro e w2 ⟨go, rfl, hrow, hgo, hb2⟩
          have hs12 := hb2.size
          have hgl := hrow.lt
          have hb8 : Below w2.heap.size w2 (w2.alloc (.cells #[.int .i64 (i : Int), .int .i64 (cc : Int), .slice (some ⟨go, 0, none⟩) p p] 24)) := (Below.refl _ _).alloc (Nat.le_refl _) _
          have HB8 := Lib.hid (Row.new w2 [.int .i64 (i : Int), .int .i64 (cc : Int), .slice (some ⟨go, 0, none⟩) p p] 24)
          have HB2 := Lib.hid ((b2.below hb2 b2.lt).alloc (.cells #[.int .i64 (i : Int), .int .i64 (cc : Int), .slice (some ⟨go, 0, none⟩) p p] 24))
          have HB4 := Lib.hid ((b4.below hb2 b4.lt).alloc (.cells #[.int .i64 (i : Int), .int .i64 (cc : Int), .slice (some ⟨go, 0, none⟩) p p] 24))
          have HB := Lib.hid ((hB.trans (hb2.mono hB.size)).alloc (by have := hB.size; omega) (.cells #[.int .i64 (i : Int), .int .i64 (cc : Int), .slice (some ⟨go, 0, none⟩) p p] 24))
          have HROW := Lib.hid (hrow.alloc (.cells #[.int .i64 (i : Int), .int .i64 (cc : Int), .slice (some ⟨go, 0, none⟩) p p] 24))
          have l2 := b2.lt
          have l4 := b4.lt
          obtain ⟨q40, q41, q42, p40, p41, p42⟩ := HB4.out.three
          have hsB := hB.size
          clear b2 b4 hB hb2 hrow hb8
          clear c20 c21 c22 c40 c41 c42 f20 f21 f22 f40 f41 f42
          go_wp2_with fail
          go_loopw [43] (fun v43 wr => ∃ j : Nat, j ≤ i ∧ v43 = .int .i64 (j : Int) ∧ Row wr go 5 (bVs (pickD cc xs (zs.take j) ++ List.replicate ((i - j) * cc) 0)) ∧ Row wr w.heap.size 24 [.int .i64 (rr : Int), .int .i64 (cc : Int), .slice A n cap] ∧ Row wr w2.heap.size 24 [.int .i64 (i : Int), .int .i64 (cc : Int), .slice (some ⟨go, 0, none⟩) p p] ∧ Row wr (w.heap.size + 1) 24 [.int .i64 0, .int .i64 0, .slice none 0 0] ∧ Below w.heap.size w wr) (fun v43 _ => i - (intOf v43).toNat)
          case atStart => exact ⟨0, by omega, rfl, by
            have e : pickD cc xs (zs.take 0) ++ List.replicate ((i - 0) * cc) 0 = List.replicate p 0 := by rw [HP.out]; simp [pickD]
            rw [e]; exact HROW.out, HB2.out, HB8.out, HB4.out, HB.out⟩
          case round =>
            obtain ⟨j, hj, rfl, hcur, b2, b8, b4, hB⟩ := hrel
            clear HROW HB2 HB8 HB4 HB q40 q41 q42 p40 p41 p42
            by_cases hlj : j < i
            · obtain ⟨g, o, rfl, hg, hcell⟩ := rd_int (hz.below hB (Nat.le_refl _)) hlj
              have hzb := rowsB_get HROWS.out (k := j) (by rw [HLZ.out]; exact hlj)
              obtain ⟨z, hzi⟩ : ∃ z : Nat, zs.getD j 0 = z := ⟨(zs.getD j 0).toNat, by omega⟩
              rw [hzi] at hcell hzb
              have hzr : z < rr := by omega
              have hx : xs.length = rr * cc := by have := hr.len; rw [bVs_length] at this; rw [this, HN.out]
              have HST := Lib.hid (pick_step (c := cc) (r := rr) (xs := xs) (zs := zs) (j := j) (m := i) hx HROWS.out HLZ.out hlj)
              rw [hzi, Int.toNat_natCast] at HST
              obtain ⟨k, hk⟩ : ∃ k, k = j * cc := ⟨_, rfl⟩
              obtain ⟨kz, hkz⟩ : ∃ kz, kz = z * cc := ⟨_, rfl⟩
              have hk1 : k + cc = (j + 1) * cc := by rw [hk, Nat.add_mul]; omega
              have hkz1 : kz + cc = (z + 1) * cc := by rw [hkz, Nat.add_mul]; omega
              have hkp : k + cc ≤ p := by rw [hk1, HP.out]; exact Nat.mul_le_mul_right cc hlj
              have hkn : kz + cc ≤ n := by rw [hkz1, HN.out]; exact Nat.mul_le_mul_right cc hzr
              rw [← hk, ← hkz] at HST
              obtain ⟨row, hrow⟩ : ∃ row, row = (xs.drop kz).take cc := ⟨_, rfl⟩
              rw [← hrow] at HST
              have hrl : row.length = cc := by rw [hrow, List.length_take, List.length_drop, hx]; have := HN.out; omega
              have hcl : (pickD cc xs (zs.take j) ++ List.replicate ((i - j) * cc) 0).length = p := by
                have h1 : rowsB (rr : Int) (zs.take j) = true := by
                  have h0 := HROWS.out
                  unfold rowsB at h0 ⊢
                  rw [List.all_eq_true] at h0 ⊢
                  exact fun z hz => h0 z (List.mem_of_mem_take hz)
                rw [List.length_append, pick_len hx h1, List.length_replicate, List.length_take, HLZ.out, Nat.min_eq_left (by omega), ← Nat.add_mul, HP.out]
                congr 1
                omega
              generalize pickD cc xs (zs.take j) ++ List.replicate ((i - j) * cc) 0 = cur at *
              obtain ⟨new, hnew⟩ : ∃ new, new = pickD cc xs (zs.take (j + 1)) ++ List.replicate ((i - (j + 1)) * cc) 0 := ⟨_, rfl⟩
              rw [← hnew] at HST
              have HR1 := Lib.hid (fun w => row_calls i cc j (some ⟨go, 0, none⟩) p p k (k + cc) w h64 hc64 hlj hk hk1 hkp (Nat.le_refl _))
              have HR2 := Lib.hid (fun w => row_calls rr cc z A n cap kz (kz + cc) w hr64 hc64 hzr hkz hkz1 hkn hnc)
              have HSRC := Lib.hid (fun (x : World) (hb : Below w.heap.size w x) => rd_row (k := kz) (c := cc) (hr.below hb (Nat.le_refl _)) hkn)
              rw [← hrow] at HSRC
              have HDST := Lib.hid (show 0 < (row.take cc).length → rowA (some ⟨go, 0, none⟩) cc k = some ⟨go, k, none⟩ by
                intro h; rw [List.length_take, hrl] at h; rw [rowA_plain (by omega), Nat.zero_add])
              have htk : row.take cc = row := List.take_of_length_le (by omega)
              obtain ⟨P, hP⟩ : ∃ P : World → Prop, P = fun x => Below w.heap.size w x ∧ Row x w.heap.size 24 [.int .i64 (rr : Int), .int .i64 (cc : Int), .slice A n cap] ∧ Row x w2.heap.size 24 [.int .i64 (i : Int), .int .i64 (cc : Int), .slice (some ⟨go, 0, none⟩) p p] ∧ Row x (w.heap.size + 1) 24 [.int .i64 0, .int .i64 0, .slice none 0 0] ∧ CurB x go k row new := ⟨_, rfl⟩
              have hp0 : P wr := by rw [hP]; exact ⟨hB, b2, b8, b4, cur, by omega, HST.out, hcur⟩
              have HG := Lib.hid (show ∀ x y : World, P x → Below x.heap.size x y → P y by
                rw [hP]
                rintro x y ⟨q1, q2, q3, q4, l, h1, h2, h3⟩ hb
                exact ⟨q1.trans (hb.mono q1.size), q2.below hb q2.lt, q3.below hb q3.lt, q4.below hb q4.lt, l, h1, h2, h3.below hb h3.lt⟩)
              have HD := Lib.hid (show ∀ x : World, P x → P x.drew by rw [hP]; exact fun x q => ⟨q.1.drew, q.2⟩)
              have HC := Lib.hid (show ∀ w' : World, P w' → w'.cell? ⟨w2.heap.size, 0, none⟩ = some (.int .i64 (i : Int)) ∧ w'.cell? ⟨w2.heap.size, 1, none⟩ = some (.int .i64 (cc : Int)) ∧ w'.cell? ⟨w2.heap.size, 2, none⟩ = some (.slice (some ⟨go, 0, none⟩) p p) ∧ w'.cell? ⟨w.heap.size, 0, none⟩ = some (.int .i64 (rr : Int)) ∧ w'.cell? ⟨w.heap.size, 1, none⟩ = some (.int .i64 (cc : Int)) ∧ w'.cell? ⟨w.heap.size, 2, none⟩ = some (.slice A n cap) by
                rw [hP]
                rintro x ⟨q1, q2, q3, q4, _⟩
                exact ⟨q3.cell 0, q3.cell 1, q3.cell 2, q2.cell 0, q2.cell 1, q2.cell 2⟩)
              have HCUR := Lib.hid (show ∀ x : World, P x → CurB x go k row new by rw [hP]; exact fun x q => q.2.2.2.2)
              have HBEL := Lib.hid (show ∀ x : World, P x → Below w.heap.size w x by rw [hP]; exact fun x q => q.1)
              have HGG := Lib.hid (show ∀ x y : World, P x → Row y go 5 (bVs new) → x.grownBy y (some go) → P y by
                rw [hP]
                rintro x y ⟨q1, q2, q3, q4, l, h1, h2, h3⟩ hy hg
                refine ⟨q1.trans (grown_below hg q1.size (fun k hk => by injection hk with hk; omega)), q2.of_block (hg.block _ q2.lt (fun e => by injection e with e; omega)), q3.of_block (hg.block _ q3.lt (fun e => by injection e with e; omega)), q4.of_block (hg.block _ q4.lt (fun e => by injection e with e; omega)), new, ?_, ?_, hy⟩
                · rw [← h2, over_length h1]; exact h1
                · rw [← h2, over_twice _ _ _ h1])
              have HALL := Lib.hid (show ∀ x : World, P x → Below w.heap.size w x ∧ Row x w.heap.size 24 [.int .i64 (rr : Int), .int .i64 (cc : Int), .slice A n cap] ∧ Row x w2.heap.size 24 [.int .i64 (i : Int), .int .i64 (cc : Int), .slice (some ⟨go, 0, none⟩) p p] ∧ Row x (w.heap.size + 1) 24 [.int .i64 0, .int .i64 0, .slice none 0 0] by rw [hP]; exact fun x q => ⟨q.1, q.2.1, q.2.2.1, q.2.2.2.1⟩)
              have HNEW := Lib.hid hnew
              have HRL := Lib.hid hrl
              have HTK := Lib.hid htk
              clear hP hk hkz hk1 hkz1 hrow hnew hcur b2 b8 b4 hB hx hcl hzi htk hrl
              go_wp2_with fail
              have hc := HC.out _ hp0
              go_region_held3 (fun w' => P w' ∧ w'.cell? ⟨w2.heap.size, 0, none⟩ = some (.int .i64 (i : Int)) ∧ w'.cell? ⟨w2.heap.size, 1, none⟩ = some (.int .i64 (cc : Int)) ∧ w'.cell? ⟨w2.heap.size, 2, none⟩ = some (.slice (some ⟨go, 0, none⟩) p p) ∧ w'.cell? ⟨w.heap.size, 0, none⟩ = some (.int .i64 (rr : Int)) ∧ w'.cell? ⟨w.heap.size, 1, none⟩ = some (.int .i64 (cc : Int)) ∧ w'.cell? ⟨w.heap.size, 2, none⟩ = some (.slice A n cap))
                (first | (go_split_ands; have q := HG.out _ _ (by assumption) hbk; exact ⟨q, HC.out _ q⟩) | (go_split_ands; have q := HGG.out _ _ (by assumption) hrow9 hg9; exact ⟨q, HC.out _ q⟩) | (go_split_ands; have q := HD.out _ (by assumption); exact ⟨q, HC.out _ q⟩))
                (first | (go_at_call 46; (first | (with_reducible refine (HR1.out _).mono ?_) | (with_reducible refine (HR2.out _).mono ?_)); rintro e wk ⟨rfl, hbk⟩) | (go_split_ands; obtain ⟨l, hl1, hl2, hl3⟩ := HCUR.out _ (by assumption); refine step_copy_bytes _ _ (by rfl) (by rfl) (rowA (some ⟨go, 0, none⟩) cc k) (rowA A cc kz) cc cc cc cc (by rfl) (by rfl) go k l row hl3 w.heap.size (HSRC.out _ (HBEL.out _ (by assumption))) HDST.out (by rw [HTK.out]; exact hl1) ?_; rw [HTK.out, hl2]; intro w9 hrow9 hg9))
              go_wp2_with fail
              go_split_ands
              have hfin := HALL.out w9 (by assumption)
              go_roundw
              case rel => exact ⟨j + 1, by omega, by go_num, by rw [← HNEW.out]; exact hrow9, hfin.2.1, hfin.2.2.1, hfin.2.2.2, hfin.1⟩
              case measure => simp [intOf]; omega
            · obtain rfl : j = i := by omega
              obtain ⟨c40, c41, c42, f40, f41, f42⟩ := b4.three
              obtain ⟨c80, c81, c82, _, _, _⟩ := b8.three
              go_wp2_with fail
              refine bodyPost_ret (v := .tuple #[mV j cc (some ⟨go, 0, none⟩) p p, .int .i64 0]) (by simp [results, Try.results20, go_sem, c40, c41, c42, f40, f41, f42]) rfl ?_
              have hfin : pickD cc xs (zs.take j) ++ List.replicate ((j - j) * cc) 0 = pkD (rightB rr cc n) rr cc xs zs := by
                unfold pkD
                rw [HE.out, if_pos rfl, Int.toNat_natCast, List.take_of_length_le (by rw [HLZ.out]; omega)]
                simp
              rw [hfin] at hcur
              have hpl : (pkD (rightB rr cc n) rr cc xs zs).length = p := by
                have hx : xs.length = rr * cc := by have := hr.len; rw [bVs_length] at this; rw [this, HN.out]
                unfold pkD
                rw [HE.out, if_pos rfl, Int.toNat_natCast, pick_len hx HROWS.out, HLZ.out, HP.out]
              refine ⟨some ⟨go, 0, none⟩, p, p, ?_, (hcur.far3 (by omega) _ _ _).ownB (by omega) hpl ?_, below_set3 hB (by omega) _ _ _⟩
              · unfold pkR pkC
                rw [HE.out, if_pos rfl, if_pos rfl, HLZ.out]
              · have : p ≤ 64 * 64 := by rw [HP.out]; exact Nat.mul_le_mul h64 hc64
                simp only [maxLen]; omega
        · have hsd : sideB (i : Int) = false := by simp [sideB]; omega
          have HE := Lib.hid (show pickE (rightB rr cc n) rr zs = 4 by
            simp [pickE, HRT.out, HROWS.out, HLZ.out]; omega)
          go_wp2_with (go_at_call 43; refine (side_calls _ _).mono ?_; rintro e w' ⟨rfl, rfl⟩)
          exact bodyPost_ret (v := .tuple #[mV 0 0 none 0 0, .int .i64 4]) (by simp [results, Try.results20, go_sem, c40, c41, c42, f40, f41, f42]) rfl (pickPost_err HE.out (by omega) (below_set3 hB (by omega) _ _ _))
  · have hrt : rightB r c n = false := by simpa using hrt
    have HE := Lib.hid (show pickE (rightB r c n) r zs = 3 by simp [pickE, hrt])
    have HR1 := Lib.hid (fun w => right_calls r c A n cap w)
    rw [hrt] at HR1
    clear hrt
    go_enter Try.func20, Try.ntmps20
    go_wp2_with (go_at_call 17; refine (HR1.out _).mono ?_; rintro e w1 ⟨rfl, hb1⟩; have b4 := HB4.out.below hb1 (by simp); have hB := HB.out.trans (hb1.mono HB.out.size); obtain ⟨c40, c41, c42, f40, f41, f42⟩ := b4.three)
    exact bodyPost_ret (v := .tuple #[mV 0 0 none 0 0, .int .i64 3]) (by simp [results, Try.results20, go_sem, c40, c41, c42, f40, f41, f42]) rfl (pickPost_err HE.out (by omega) (below_set3 hB (by omega) _ _ _))
end Go.Proofs.Ytgcgajeagdaenaa
