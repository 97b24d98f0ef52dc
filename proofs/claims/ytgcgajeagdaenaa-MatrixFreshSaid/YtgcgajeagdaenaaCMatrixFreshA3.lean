/- What the functions compute that the law MatrixFresh reaches, proved by walking them; conditions stand at each theorem. -/
import Derived.Deep.RegionHeld3
import Derived.Test.YtgcgajeagdaenaaCMatrixFreshA1
import Derived.Test.YtgcgajeagdaenaaCMatrixFreshA2
namespace Go.Proofs.Ytgcgajeagdaenaa
open Go.RowKit
set_option linter.unusedVariables false
set_option linter.unusedSimpArgs false

/-- block g holds a list of which row, laid over it at k, makes new -/
def CurK (w : World) (g k : Nat) (row new : List UInt8) : Prop := ∃ l, k + row.length ≤ l.length ∧ over l k row = new ∧ Row w g 5 (bVs l)
theorem rowA_cut {g c k s : Nat} (hc : c ≠ 0) (hs : s < c) : (if c = s then rowA (some ⟨g, 0, none⟩) c k else (rowA (some ⟨g, 0, none⟩) c k).map (·.add s)) = some ⟨g, k + s, none⟩ := by
  rw [if_neg (by omega), rowA_plain hc]
  simp [Addr.add]
set_option maxRecDepth 100000 in
set_option maxHeartbeats 6400000 in
theorem kron_yes (ra ca rb cb na nb R C p : Nat) (A B : Option Addr) (cap capb : Nat) (xs ys : List UInt8) (w : World) (hra : ra ≤ 64) (hca : ca ≤ 64) (hrb : rb ≤ 64) (hcb : cb ≤ 64) (hR : R ≤ 64) (hC : C ≤ 64) (eR : Hid (R = ra * rb)) (eC : Hid (C = ca * cb)) (hna : Hid (na = ra * ca)) (hnb : Hid (nb = rb * cb)) (hp : Hid (p = R * C))
    (hx : Rd w w.heap.size A na (bVs xs)) (hy : Rd w w.heap.size B nb (bVs ys)) (hcap : na ≤ cap) (hcapb : nb ≤ capb) :
    Calls Try.prog 39 #[mV ra ca A na cap, mV rb cb B nb capb] w fun e w' => ∃ g, e = .returned (.tuple #[mV R C (some ⟨g, 0, none⟩) p p, .int .i64 0]) ∧ Row w' g 5 (bVs (kronD ra ca rb cb xs ys)) ∧ w.heap.size ≤ g ∧ Below w.heap.size w w' := by
  have HR1 := Lib.hid (fun w => right_calls ra ca A na cap w)
  have HR2 := Lib.hid (fun w => right_calls rb cb B nb capb w)
  rw [show rightB ra ca na = true by simp [rightB, hna.out]; omega] at HR1
  rw [show rightB rb cb nb = true by simp [rightB, hnb.out]; omega] at HR2
  have hsd := sideB_nat hR
  have hsd2 := sideB_nat hC
  have hpb : p ≤ 4096 := by rw [hp.out]; exact Nat.le_trans (Nat.mul_le_mul hR hC) (by omega)
  have e1 : IntKind.i64.wrap ((ra : Int) * (rb : Int)) = (R : Int) := by rw [← Int.natCast_mul, ← eR.out, IntKind.wrap_i64]; omega
  have e2 : IntKind.i64.wrap ((ca : Int) * (cb : Int)) = (C : Int) := by rw [← Int.natCast_mul, ← eC.out, IntKind.wrap_i64]; omega
  have hxl : xs.length = na := by have := hx.len; rw [bVs_length] at this; exact this
  have hyl : ys.length = nb := by have := hy.len; rw [bVs_length] at this; exact this
  have HXL := Lib.hid hxl
  have HYL := Lib.hid hyl
  clear hxl hyl
  have S := (((Ctx.start w).box [.int .i64 ra, .int .i64 ca, .slice A na cap]).box [.int .i64 rb, .int .i64 cb, .slice B nb capb]).box [.int .i64 0, .int .i64 0, .slice none 0 0]
  simp only [World.size_alloc] at S
  obtain ⟨c0, c1, c2⟩ := S.cells 2 rfl
  obtain ⟨d0, d1, d2⟩ := S.cells 1 rfl
  have hsz := S.lt 0 rfl
  go_enter Try.func39, Try.ntmps39
  go_wp2_with (first | (go_at_call 17; (first | (with_reducible refine (HR1.out _).mono ?_) | (with_reducible refine (HR2.out _).mono ?_)); rintro e w1 ⟨rfl, hb⟩; replace S := S.go hb; clear hb c0 c1 c2 d0 d1 d2 hsz; have hsz := S.lt 0 rfl; obtain ⟨c0, c1, c2⟩ := S.cells 2 rfl; obtain ⟨d0, d1, d2⟩ := S.cells 1 rfl) | (go_at_call 43; refine (side_calls _ _).mono ?_; rintro e w' ⟨rfl, rfl⟩))
  refine (blank_row R C p _ hR hC hp).mono ?_
  rintro e w2 ⟨gm, rfl, hrow, hgm, hb⟩
  have hgl := hrow.lt
  replace S := S.go hb
  clear hb c0 c1 c2 d0 d1 d2 HR1 HR2 e1 e2 hsd hsd2
  replace S := S.box [.int .i64 (R : Int), .int .i64 (C : Int), .slice (some ⟨gm, 0, none⟩) p p]
  replace hrow := hrow.alloc (.cells #[.int .i64 (R : Int), .int .i64 (C : Int), .slice (some ⟨gm, 0, none⟩) p p] 24)
  obtain ⟨BS, hBS⟩ : ∃ BS : List (Nat × List Value), BS = [(w2.heap.size, [.int .i64 (R : Int), .int .i64 (C : Int), .slice (some ⟨gm, 0, none⟩) p p]), (w.heap.size + 1 + 1, [.int .i64 0, .int .i64 0, .slice none 0 0]), (w.heap.size + 1, [.int .i64 rb, .int .i64 cb, .slice B nb capb]), (w.heap.size, [.int .i64 ra, .int .i64 ca, .slice A na cap])] := ⟨_, rfl⟩
  rw [← hBS] at S
  have HC := Lib.hid (show ∀ x : World, Ctx w x BS [] → x.cell? ⟨w2.heap.size, 0, none⟩ = some (.int .i64 R) ∧ x.cell? ⟨w2.heap.size, 1, none⟩ = some (.int .i64 C) ∧ x.cell? ⟨w2.heap.size, 2, none⟩ = some (.slice (some ⟨gm, 0, none⟩) p p) ∧ x.cell? ⟨w.heap.size, 0, none⟩ = some (.int .i64 ra) ∧ x.cell? ⟨w.heap.size, 1, none⟩ = some (.int .i64 ca) ∧ x.cell? ⟨w.heap.size, 2, none⟩ = some (.slice A na cap) ∧ x.cell? ⟨w.heap.size + 1, 0, none⟩ = some (.int .i64 rb) ∧ x.cell? ⟨w.heap.size + 1, 1, none⟩ = some (.int .i64 cb) ∧ x.cell? ⟨w.heap.size + 1, 2, none⟩ = some (.slice B nb capb) by
    rw [hBS]
    exact fun x q => ⟨(q.cells 0 rfl).1, (q.cells 0 rfl).2.1, (q.cells 0 rfl).2.2, (q.cells 3 rfl).1, (q.cells 3 rfl).2.1, (q.cells 3 rfl).2.2, (q.cells 2 rfl).1, (q.cells 2 rfl).2.1, (q.cells 2 rfl).2.2⟩)
  have HE := Lib.hid (show ∀ x : World, Ctx w x BS [] → Row x (w.heap.size + 1 + 1) 24 [.int .i64 0, .int .i64 0, .slice none 0 0] by rw [hBS]; exact fun x q => q.row 1 rfl)
  have HGR := Lib.hid (show ∀ x y : World, Ctx w x BS [] → x.grownBy y (some gm) → Ctx w y BS [] by
    refine fun x y q hg => q.grown hg (by omega) ?_
    rw [hBS]
    simp
    omega)
  have HF0 := fillK_start ra ca rb cb (kronF rb cb ca xs ys)
  rw [← eR.out, ← eC.out, ← hp.out] at HF0
  rw [HF0] at hrow
  have HS := Lib.hid S
  have HROW := Lib.hid hrow
  obtain ⟨c0, c1, c2, d0, d1, d2, b0, b1, b2⟩ := HC.out _ S
  clear S hrow HF0 hBS
  go_wp2_with fail
  go_loopw [51] (fun v wr => ∃ i : Nat, i ≤ ra ∧ v = .int .i64 (i : Int) ∧ Row wr gm 5 (bVs (fillK ra ca rb cb (kronF rb cb ca xs ys) i 0 0)) ∧ Ctx w wr BS []) (fun v _ => ra - (intOf v).toNat)
  case atStart => exact ⟨0, by omega, rfl, HROW.out, HS.out⟩
  case round =>
    obtain ⟨i, hi, rfl, hrow, S⟩ := hrel
    clear HROW HS c0 c1 c2 d0 d1 d2 b0 b1 b2
    obtain ⟨wo, rfl⟩ : ∃ wo : World, wo = wr := ⟨_, rfl⟩
    obtain ⟨c0, c1, c2, d0, d1, d2, b0, b1, b2⟩ := HC.out _ S
    have HS := Lib.hid S
    have HROW := Lib.hid hrow
    clear S hrow
    by_cases hlt : i < ra
    · go_wp2_with fail
      clear c0 c1 c2 d0 d1 d2 b0 b1 b2
      go_loopw [56] (fun v wr => ∃ j : Nat, j ≤ ca ∧ v = .int .i64 (j : Int) ∧ Row wr gm 5 (bVs (fillK ra ca rb cb (kronF rb cb ca xs ys) i j 0)) ∧ Ctx w wr BS []) (fun v _ => ca - (intOf v).toNat)
      case atStart => exact ⟨0, by omega, rfl, HROW.out, HS.out⟩
      case round =>
        obtain ⟨j, hj, rfl, hrow, S⟩ := hrel
        clear HROW HS
        obtain ⟨wp, rfl⟩ : ∃ wp : World, wp = wr := ⟨_, rfl⟩
        obtain ⟨c0, c1, c2, d0, d1, d2, b0, b1, b2⟩ := HC.out _ S
        have HS := Lib.hid S
        have HROW := Lib.hid hrow
        clear S hrow
        by_cases hlj : j < ca
        · go_wp2_with fail
          clear c0 c1 c2 d0 d1 d2 b0 b1 b2
          go_loopw [61] (fun v wr => ∃ k : Nat, k ≤ rb ∧ v = .int .i64 (k : Int) ∧ Row wr gm 5 (bVs (fillK ra ca rb cb (kronF rb cb ca xs ys) i j k)) ∧ Ctx w wr BS []) (fun v _ => rb - (intOf v).toNat)
          case atStart => exact ⟨0, by omega, rfl, HROW.out, HS.out⟩
          case round =>
            obtain ⟨k, hk, rfl, hrow, S⟩ := hrel
            clear HROW HS
            obtain ⟨c0, c1, c2, d0, d1, d2, b0, b1, b2⟩ := HC.out _ S
            by_cases hlk : k < rb
            · have HF := Lib.hid (fillK_set (ra := ra) (ca := ca) (xs := xs) (j := j) (by rw [HYL.out, hnb.out]) hlt hlj hlk)
              obtain ⟨v, hv⟩ : ∃ v, v = xs.getD (i * ca + j) 0 := ⟨_, rfl⟩
              obtain ⟨ki, hki⟩ : ∃ q, q = i * rb := ⟨_, rfl⟩
              obtain ⟨P0, hP0⟩ : ∃ q, q = ki + k := ⟨_, rfl⟩
              obtain ⟨s, hs⟩ : ∃ q, q = j * cb := ⟨_, rfl⟩
              obtain ⟨kr, hkr⟩ : ∃ q, q = P0 * C := ⟨_, rfl⟩
              obtain ⟨ka, hka⟩ : ∃ q, q = i * ca := ⟨_, rfl⟩
              obtain ⟨kb, hkb⟩ : ∃ q, q = k * cb := ⟨_, rfl⟩
              have hPR : P0 < R := by rw [hP0, hki, eR.out]; exact place_lt hlt hlk
              have hsC : s + cb ≤ C := by have := Nat.mul_le_mul_right cb (show j + 1 ≤ ca from hlj); rw [Nat.add_mul] at this; rw [hs, eC.out]; omega
              have hka1 : ka + ca ≤ na := by have := Nat.mul_le_mul_right ca (show i + 1 ≤ ra from hlt); rw [Nat.add_mul] at this; rw [hka, hna.out]; omega
              have hkb1 : kb + cb ≤ nb := by have := Nat.mul_le_mul_right cb (show k + 1 ≤ rb from hlk); rw [Nat.add_mul] at this; rw [hkb, hnb.out]; omega
              have hkr1 : kr + C ≤ p := by have := Nat.mul_le_mul_right C (show P0 + 1 ≤ R from hPR); rw [Nat.add_mul] at this; rw [hkr, hp.out]; omega
              have ea : (P0 + 1) * C = kr + C := by rw [hkr, Nat.add_mul]; omega
              have eb : (i + 1) * ca = ka + ca := by rw [hka, Nat.add_mul]; omega
              have ec : (k + 1) * cb = kb + cb := by rw [hkb, Nat.add_mul]; omega
              have HR1 := Lib.hid (fun w => row_calls R C P0 (some ⟨gm, 0, none⟩) p p kr (kr + C) w hR hC hPR (Lib.hid hkr) (Lib.hid ea.symm) hkr1 (Nat.le_refl _))
              have HR2 := Lib.hid (fun w => row_calls ra ca i A na cap ka (ka + ca) w hra hca hlt (Lib.hid hka) (Lib.hid eb.symm) hka1 hcap)
              have HR3 := Lib.hid (fun w => row_calls rb cb k B nb capb kb (kb + cb) w hrb hcb hlk (Lib.hid hkb) (Lib.hid ec.symm) hkb1 hcapb)
              rw [← hki, ← hP0, ← hkb, ← hka, ← hs, ← eC.out, ← hkr] at HF
              rw [← hka] at hv
              rw [← hv] at HF
              have HV := Lib.hid hv
              obtain ⟨g, o, rfl, hg, hcell⟩ := rd_get hx (k := ka + j) (by omega)
              rw [← hv, ← Nat.add_assoc] at hcell
              rw [rowA_plain (by omega)] at HR2
              obtain ⟨row, hrw⟩ : ∃ row, row = ((ys.drop kb).take cb).map (Gf.mul v) := ⟨_, rfl⟩
              rw [← hrw] at HF
              have hrl : row.length = cb := by rw [hrw, List.length_map, List.length_take, List.length_drop, HYL.out]; omega
              have HSRC := Lib.hid (rd_row hy hkb1)
              have HROWV := Lib.hid hrw
              obtain ⟨new, hnew⟩ : ∃ new, new = fillK ra ca rb cb (kronF rb cb ca xs ys) i j (k + 1) := ⟨_, rfl⟩
              rw [← hnew] at HF
              have hcl := fillK_length ra ca rb cb i j k (kronF rb cb ca xs ys)
              rw [← eR.out, ← eC.out, ← hp.out] at hcl
              have HNEW := Lib.hid hnew
              have HTK := Lib.hid (show row.take (C - s) = row from List.take_of_length_le (by omega))
              have f1 : IntKind.i64.wrap ((i : Int) * (rb : Int)) = (ki : Int) := by rw [← Int.natCast_mul, ← hki, IntKind.wrap_i64]; have := Nat.le_trans (show ki ≤ P0 by omega) (Nat.le_of_lt hPR); omega
              have f2 : IntKind.i64.wrap ((ki : Int) + (k : Int)) = (P0 : Int) := by rw [IntKind.wrap_i64, hP0]; omega
              have f3 : IntKind.i64.wrap ((j : Int) * (cb : Int)) = (s : Int) := by rw [← Int.natCast_mul, ← hs, IntKind.wrap_i64]; omega
              have q0 : (0 : Int) ≤ (s : Int) := by omega
              have q1 : (s : Int) ≤ (C : Int) := by omega
              have q2 : (0 : Int) ≤ (j : Int) := by omega
              have q3 : (j : Int) < (ca : Int) := by omega
              have HDST := Lib.hid (show 0 < (row.take (C - s)).length → C ≠ 0 ∧ s < C by intro h; rw [HTK.out, hrl] at h; omega)
              have hfit : kr + s + row.length ≤ (fillK ra ca rb cb (kronF rb cb ca xs ys) i j k).length := by rw [hcl, hrl]; omega
              have HFIT := Lib.hid hfit
              have HRL := Lib.hid hrl
              clear hki hP0 hs hkr hka hkb ea eb ec hv hrw hnew hfit
              obtain ⟨P, hP⟩ : ∃ P : World → Prop, P = fun x => Ctx w x BS [] ∧ CurK x gm (kr + s) row new := ⟨_, rfl⟩
              have hp0 : P wr := by rw [hP]; exact ⟨S, _, HFIT.out, HF.out, hrow⟩
              have HG := Lib.hid (show ∀ x y : World, P x → Below x.heap.size x y → P y by
                rw [hP]
                rintro x y ⟨q, l, h1, h2, h3⟩ hb
                exact ⟨q.go hb, l, h1, h2, h3.below hb h3.lt⟩)
              have HD := Lib.hid (show ∀ x : World, P x → P x.drew by rw [hP]; exact fun x q => ⟨q.1.drew, q.2⟩)
              have HGG := Lib.hid (show ∀ x y : World, P x → Row y gm 5 (bVs new) → x.grownBy y (some gm) → P y by
                rw [hP]
                rintro x y ⟨q, l, h1, h2, h3⟩ hy hg
                refine ⟨HGR.out _ _ q hg, new, ?_, ?_, hy⟩
                · rw [← h2, over_length h1]; exact h1
                · rw [← h2, over_twice _ _ _ h1])
              have HCC := Lib.hid (show ∀ x : World, P x → x.cell? ⟨w2.heap.size, 0, none⟩ = some (.int .i64 R) ∧ x.cell? ⟨w2.heap.size, 1, none⟩ = some (.int .i64 C) ∧ x.cell? ⟨w2.heap.size, 2, none⟩ = some (.slice (some ⟨gm, 0, none⟩) p p) ∧ x.cell? ⟨w.heap.size, 0, none⟩ = some (.int .i64 ra) ∧ x.cell? ⟨w.heap.size, 1, none⟩ = some (.int .i64 ca) ∧ x.cell? ⟨w.heap.size, 2, none⟩ = some (.slice (some ⟨g, o, none⟩) na cap) ∧ x.cell? ⟨w.heap.size + 1, 0, none⟩ = some (.int .i64 rb) ∧ x.cell? ⟨w.heap.size + 1, 1, none⟩ = some (.int .i64 cb) ∧ x.cell? ⟨w.heap.size + 1, 2, none⟩ = some (.slice B nb capb) ∧ x.cell? ⟨g, o + ka + j, none⟩ = some (.int .u8 (v.toNat : Int)) by
                intro x q
                rw [hP] at q
                obtain ⟨q1, q2, q3, q4, q5, q6, q7, q8, q9⟩ := HC.out x q.1
                exact ⟨q1, q2, q3, q4, q5, q6, q7, q8, q9, (q.1.below.cell (p := ⟨g, o + ka + j, none⟩) hg).trans hcell⟩)
              have HSC := Lib.hid (show ∀ x : World, P x → Calls Try.prog 54 #[.int .u8 (v.toNat : Int), .slice (rowA B cb kb) cb cb] x fun e w' => ∃ A' cap', e = .returned (.slice A' cb cap') ∧ OwnB w' x.heap.size A' cb cap' row ∧ Below x.heap.size x w' by
                rw [hP, HROWV.out]
                exact fun x q => scale_calls v _ _ _ _ _ (HSRC.out.go q.1.below) (by omega))
              have HCUR := Lib.hid (show ∀ x : World, P x → CurK x gm (kr + s) row new by rw [hP]; exact fun x q => q.2)
              have HALL := Lib.hid (show ∀ x : World, P x → Ctx w x BS [] by rw [hP]; exact fun x q => q.1)
              clear hP S hrow hcell hrl hcl
              have hcs : (¬ C = s) ∨ C = s := by omega
              go_wp2_with fail
              have hc := HCC.out _ hp0
              have HT0 := Lib.hid (show C = s → row.take 0 = row by intro h; rw [List.take_zero]; exact (List.eq_nil_of_length_eq_zero (by rw [HRL.out]; omega)).symm)
              rcases hcs with hcs | rfl
              · go_region_held3 (fun x => P x ∧ x.cell? ⟨w2.heap.size, 0, none⟩ = some (.int .i64 R) ∧ x.cell? ⟨w2.heap.size, 1, none⟩ = some (.int .i64 C) ∧ x.cell? ⟨w2.heap.size, 2, none⟩ = some (.slice (some ⟨gm, 0, none⟩) p p) ∧ x.cell? ⟨w.heap.size, 0, none⟩ = some (.int .i64 ra) ∧ x.cell? ⟨w.heap.size, 1, none⟩ = some (.int .i64 ca) ∧ x.cell? ⟨w.heap.size, 2, none⟩ = some (.slice (some ⟨g, o, none⟩) na cap) ∧ x.cell? ⟨w.heap.size + 1, 0, none⟩ = some (.int .i64 rb) ∧ x.cell? ⟨w.heap.size + 1, 1, none⟩ = some (.int .i64 cb) ∧ x.cell? ⟨w.heap.size + 1, 2, none⟩ = some (.slice B nb capb) ∧ x.cell? ⟨g, o + ka + j, none⟩ = some (.int .u8 (v.toNat : Int)))
                  (first | (go_split_ands; have q := HG.out _ _ (by assumption) hbk; exact ⟨q, HCC.out _ q⟩) | (go_split_ands; have q := HGG.out _ _ (by assumption) hrow9 hg9; exact ⟨q, HCC.out _ q⟩) | (go_split_ands; have q := HD.out _ (by assumption); exact ⟨q, HCC.out _ q⟩))
                  (first | (go_at_call 46; (first | (with_reducible refine (HR1.out _).mono ?_) | (with_reducible refine (HR2.out _).mono ?_) | (with_reducible refine (HR3.out _).mono ?_)); rintro e wk ⟨rfl, hbk⟩; (try replace hsc := hsc.go hbk)) | (go_at_call 54; (try go_split_ands); refine (HSC.out _ (by assumption)).mono ?_; rintro e wk ⟨As, cs, rfl, hos, hbk⟩; have hsc := hos.rd) | (go_split_ands; obtain ⟨l, hl1, hl2, hl3⟩ := HCUR.out _ (by assumption); refine step_copy_bytes _ _ (by rfl) (by rfl) _ As (C - s) (C - s) cb cs (by rfl) (by rfl) gm (kr + s) l row hl3 _ hsc (by intro hh; obtain ⟨h1, h2⟩ := HDST.out hh; first | exact rowA_cut h1 h2 | (rw [rowA_plain h1]; simp [Addr.add]; done) | (exfalso; omega)) (by rw [HTK.out]; exact hl1) ?_; rw [HTK.out, hl2]; intro w9 hrow9 hg9))
                go_wp2_with fail
                go_split_ands
                go_roundw
                case rel => exact ⟨k + 1, by omega, by go_num, by rw [← HNEW.out]; exact hrow9, HALL.out _ (by assumption)⟩
                case measure => simp [intOf]; omega
              · replace HT0 := Lib.hid (HT0.out rfl)
                go_region_held3 (fun x => P x ∧ x.cell? ⟨w2.heap.size, 0, none⟩ = some (.int .i64 R) ∧ x.cell? ⟨w2.heap.size, 1, none⟩ = some (.int .i64 C) ∧ x.cell? ⟨w2.heap.size, 2, none⟩ = some (.slice (some ⟨gm, 0, none⟩) p p) ∧ x.cell? ⟨w.heap.size, 0, none⟩ = some (.int .i64 ra) ∧ x.cell? ⟨w.heap.size, 1, none⟩ = some (.int .i64 ca) ∧ x.cell? ⟨w.heap.size, 2, none⟩ = some (.slice (some ⟨g, o, none⟩) na cap) ∧ x.cell? ⟨w.heap.size + 1, 0, none⟩ = some (.int .i64 rb) ∧ x.cell? ⟨w.heap.size + 1, 1, none⟩ = some (.int .i64 cb) ∧ x.cell? ⟨w.heap.size + 1, 2, none⟩ = some (.slice B nb capb) ∧ x.cell? ⟨g, o + ka + j, none⟩ = some (.int .u8 (v.toNat : Int)))
                  (first | (go_split_ands; have q := HG.out _ _ (by assumption) hbk; exact ⟨q, HCC.out _ q⟩) | (go_split_ands; have q := HGG.out _ _ (by assumption) hrow9 hg9; exact ⟨q, HCC.out _ q⟩) | (go_split_ands; have q := HD.out _ (by assumption); exact ⟨q, HCC.out _ q⟩))
                  (first | (go_at_call 46; (first | (with_reducible refine (HR1.out _).mono ?_) | (with_reducible refine (HR2.out _).mono ?_) | (with_reducible refine (HR3.out _).mono ?_)); rintro e wk ⟨rfl, hbk⟩; (try replace hsc := hsc.go hbk)) | (go_at_call 54; (try go_split_ands); refine (HSC.out _ (by assumption)).mono ?_; rintro e wk ⟨As, cs, rfl, hos, hbk⟩; have hsc := hos.rd) | (go_split_ands; obtain ⟨l, hl1, hl2, hl3⟩ := HCUR.out _ (by assumption); refine step_copy_bytes _ _ (by rfl) (by rfl) _ As 0 0 cb cs (by rfl) (by rfl) gm (kr + C) l row hl3 _ hsc (by intro hh; rw [List.take_zero] at hh; exact absurd hh (by simp)) (by rw [HT0.out]; exact hl1) ?_; rw [HT0.out, hl2]; intro w9 hrow9 hg9))
                go_wp2_with fail
                go_split_ands
                go_roundw
                case rel => exact ⟨k + 1, by omega, by go_num, by rw [← HNEW.out]; exact hrow9, HALL.out _ (by assumption)⟩
                case measure => simp [intOf]; omega
            · obtain rfl : k = rb := by omega
              have HN := Lib.hid (fillK_next1 ra ca k cb i j (kronF k cb ca xs ys))
              go_wp2_with fail
              go_roundw
              case rel => exact ⟨j + 1, by omega, by go_num, by rw [← HN.out]; exact hrow, S⟩
              case measure => simp [intOf]; omega
        · obtain rfl : j = ca := by omega
          have HN := Lib.hid (fillK_next2 ra j rb cb i (kronF rb cb j xs ys))
          go_wp2_with fail
          go_roundw
          case rel => exact ⟨i + 1, by omega, by go_num, by rw [← HN.out]; exact HROW.out, HS.out⟩
          case measure => simp [intOf]; omega
    · obtain rfl : i = ra := by omega
      obtain ⟨z0, z1, z2, f0, f1, f2⟩ := (HE.out _ HS.out).three
      have HN := Lib.hid (fillK_end i ca rb cb (kronF rb cb ca xs ys))
      go_wp2_with fail
      refine bodyPost_ret (v := .tuple #[mV R C (some ⟨gm, 0, none⟩) p p, .int .i64 0]) (by simp [results, Try.results39, go_sem, z0, z1, z2, f0, f1, f2]) rfl ⟨gm, rfl, ?_, by omega, below_set3 HS.out.below (by omega) _ _ _⟩
      have h := HROW.out
      rw [HN.out] at h
      exact h.far3 (by omega) _ _ _
end Go.Proofs.Ytgcgajeagdaenaa
namespace Go.Proofs.Ytgcgajeagdaenaa
open Go.RowKit Go.Proofs.YtgcgajeagdaenaaW.PrintWords
set_option linter.unusedVariables false
set_option linter.unusedSimpArgs false

set_option maxRecDepth 100000 in
set_option maxHeartbeats 3200000 in
theorem kron_no (ra ca rb cb : Int) (A B : Option Addr) (na nb cap capb : Nat) (E : Int) (w : World) (h : kronE ra ca na rb cb nb = E) (hE : E ≠ 0) :
    Calls Try.prog 39 #[mV ra ca A na cap, mV rb cb B nb capb] w fun e w' => e = .returned (.tuple #[mV 0 0 none 0 0, .int .i64 E]) ∧ Below w.heap.size w w' := by
  have HR1 := Lib.hid (fun w => right_calls ra ca A na cap w)
  have HR2 := Lib.hid (fun w => right_calls rb cb B nb capb w)
  have S := (((Ctx.start w).box [.int .i64 ra, .int .i64 ca, .slice A na cap]).box [.int .i64 rb, .int .i64 cb, .slice B nb capb]).box [.int .i64 0, .int .i64 0, .slice none 0 0]
  simp only [World.size_alloc] at S
  obtain ⟨c0, c1, c2⟩ := S.cells 2 rfl
  obtain ⟨d0, d1, d2⟩ := S.cells 1 rfl
  obtain ⟨e0, e1, e2, f0, f1, f2⟩ := (S.row 0 rfl).three
  have hsz := S.lt 0 rfl
  obtain ⟨p, hp⟩ : ∃ p, p = ra * rb := ⟨_, rfl⟩
  obtain ⟨q, hq⟩ : ∃ q, q = ca * cb := ⟨_, rfl⟩
  have hc : (rightB ra ca na = false ∧ E = 3) ∨ (rightB ra ca na = true ∧ rightB rb cb nb = false ∧ E = 3) ∨ (rightB ra ca na = true ∧ rightB rb cb nb = true ∧ sideB p = false ∧ IntKind.i64.wrap (ra * rb) = p ∧ E = 4) ∨ (rightB ra ca na = true ∧ rightB rb cb nb = true ∧ sideB p = true ∧ sideB q = false ∧ IntKind.i64.wrap (ra * rb) = p ∧ IntKind.i64.wrap (ca * cb) = q ∧ E = 4) := by
    unfold kronE at h
    cases h1 : rightB ra ca na
    · rw [h1] at h; simp at h; exact .inl ⟨rfl, h.symm⟩
    · cases h2 : rightB rb cb nb
      · rw [h1, h2] at h; simp at h; exact .inr (.inl ⟨rfl, rfl, h.symm⟩)
      · rw [h1, h2] at h
        simp only [Bool.and_self, if_true] at h
        simp [rightB] at h1 h2
        have b1 := prod_bd h1.1.1 h1.1.2 h2.1.1 h2.1.2
        have b2 := prod_bd h1.2.1.1 h1.2.1.2 h2.2.1.1 h2.2.1.2
        rw [← hp] at h b1
        rw [← hq] at h b2
        have w1 : IntKind.i64.wrap (ra * rb) = p := by rw [← hp, IntKind.wrap_i64]; omega
        have w2 : IntKind.i64.wrap (ca * cb) = q := by rw [← hq, IntKind.wrap_i64]; omega
        by_cases h3 : p ≤ 64
        · by_cases h4 : q ≤ 64
          · rw [if_pos ⟨h3, h4⟩] at h; omega
          · rw [if_neg (by omega)] at h
            exact .inr (.inr (.inr ⟨rfl, rfl, by simp [sideB]; omega, by simp [sideB]; omega, w1, w2, h.symm⟩))
        · rw [if_neg (by omega)] at h
          exact .inr (.inr (.inl ⟨rfl, rfl, by simp [sideB]; omega, w1, h.symm⟩))
  clear h hE hp hq
  rcases hc with ⟨h1, rfl⟩ | ⟨h1, h2, rfl⟩ | ⟨h1, h2, h3, h4, rfl⟩ | ⟨h1, h2, h3, h4, h5, h6, rfl⟩
  · rw [h1] at HR1
    clear h1
    go_enter Try.func39, Try.ntmps39
    go_wp2_with (go_at_call 17; refine (HR1.out _).mono ?_; rintro e w1 ⟨rfl, hb⟩; replace S := S.go hb; clear hb c0 c1 c2 d0 d1 d2 e0 e1 e2 f0 f1 f2 hsz; have hsz := S.lt 0 rfl; obtain ⟨c0, c1, c2⟩ := S.cells 2 rfl; obtain ⟨d0, d1, d2⟩ := S.cells 1 rfl; obtain ⟨e0, e1, e2, f0, f1, f2⟩ := (S.row 0 rfl).three)
    exact bodyPost_ret (v := .tuple #[mV 0 0 none 0 0, .int .i64 3]) (by simp [results, Try.results39, go_sem, e0, e1, e2, f0, f1, f2]) rfl ⟨rfl, below_set3 S.below (by omega) _ _ _⟩
  · rw [h1] at HR1
    rw [h2] at HR2
    clear h1 h2
    go_enter Try.func39, Try.ntmps39
    go_wp2_with (go_at_call 17; (first | (with_reducible refine (HR1.out _).mono ?_) | (with_reducible refine (HR2.out _).mono ?_)); rintro e w1 ⟨rfl, hb⟩; replace S := S.go hb; clear hb c0 c1 c2 d0 d1 d2 e0 e1 e2 f0 f1 f2 hsz; have hsz := S.lt 0 rfl; obtain ⟨c0, c1, c2⟩ := S.cells 2 rfl; obtain ⟨d0, d1, d2⟩ := S.cells 1 rfl; obtain ⟨e0, e1, e2, f0, f1, f2⟩ := (S.row 0 rfl).three)
    exact bodyPost_ret (v := .tuple #[mV 0 0 none 0 0, .int .i64 3]) (by simp [results, Try.results39, go_sem, e0, e1, e2, f0, f1, f2]) rfl ⟨rfl, below_set3 S.below (by omega) _ _ _⟩
  · rw [h1] at HR1
    rw [h2] at HR2
    clear h1 h2
    go_enter Try.func39, Try.ntmps39
    go_wp2_with (first | (go_at_call 17; (first | (with_reducible refine (HR1.out _).mono ?_) | (with_reducible refine (HR2.out _).mono ?_)); rintro e w1 ⟨rfl, hb⟩; replace S := S.go hb; clear hb c0 c1 c2 d0 d1 d2 e0 e1 e2 f0 f1 f2 hsz; have hsz := S.lt 0 rfl; obtain ⟨c0, c1, c2⟩ := S.cells 2 rfl; obtain ⟨d0, d1, d2⟩ := S.cells 1 rfl; obtain ⟨e0, e1, e2, f0, f1, f2⟩ := (S.row 0 rfl).three) | (go_at_call 43; refine (side_calls _ _).mono ?_; rintro e w' ⟨rfl, rfl⟩))
    exact bodyPost_ret (v := .tuple #[mV 0 0 none 0 0, .int .i64 4]) (by simp [results, Try.results39, go_sem, e0, e1, e2, f0, f1, f2]) rfl ⟨rfl, below_set3 S.below (by omega) _ _ _⟩
  · rw [h1] at HR1
    rw [h2] at HR2
    clear h1 h2
    go_enter Try.func39, Try.ntmps39
    go_wp2_with (first | (go_at_call 17; (first | (with_reducible refine (HR1.out _).mono ?_) | (with_reducible refine (HR2.out _).mono ?_)); rintro e w1 ⟨rfl, hb⟩; replace S := S.go hb; clear hb c0 c1 c2 d0 d1 d2 e0 e1 e2 f0 f1 f2 hsz; have hsz := S.lt 0 rfl; obtain ⟨c0, c1, c2⟩ := S.cells 2 rfl; obtain ⟨d0, d1, d2⟩ := S.cells 1 rfl; obtain ⟨e0, e1, e2, f0, f1, f2⟩ := (S.row 0 rfl).three) | (go_at_call 43; refine (side_calls _ _).mono ?_; rintro e w' ⟨rfl, rfl⟩))
    exact bodyPost_ret (v := .tuple #[mV 0 0 none 0 0, .int .i64 4]) (by simp [results, Try.results39, go_sem, e0, e1, e2, f0, f1, f2]) rfl ⟨rfl, below_set3 S.below (by omega) _ _ _⟩

def matrix_Kron.f (a0 a1 : Int) (l : List Int) (b0 b1 : Int) (m : List Int) : Option (Int × Int × List Int × Int) :=
  if (inU l && inU m) = true then (if kronE a0 a1 l.length b0 b1 m.length = 0 then some (a0 * b0, a1 * b1, nI (kronD a0.toNat a1.toNat b0.toNat b1.toNat (l.map toU) (m.map toU)), 0) else some (0, 0, [], kronE a0 a1 l.length b0 b1 m.length)) else none
theorem matrix_Kron.calls (a0_0 : Int) (a0_1 : Int) (A0_2 : Option Addr) (c0_2 : Nat) (l0_2 : List Int) (a1_0 : Int) (a1_1 : Int) (A1_2 : Option Addr) (c1_2 : Nat) (l1_2 : List Int) (r1 : Int) (r2 : Int) (r3 : List Int) (r4 : Int) (w : World) (hr0_2 : Kd.C (Kd.int .u8) w A0_2 l0_2.length l0_2) (hc0_2 : l0_2.length ≤ c0_2) (hr1_2 : Kd.C (Kd.int .u8) w A1_2 l1_2.length l1_2) (hc1_2 : l1_2.length ≤ c1_2) (h : matrix_Kron.f a0_0 a0_1 l0_2 a1_0 a1_1 l1_2 = some (r1, r2, r3, r4)) :
    Calls Try.prog 39 #[.agg #[.int .i64 a0_0, .int .i64 a0_1, .slice A0_2 l0_2.length c0_2], .agg #[.int .i64 a1_0, .int .i64 a1_1, .slice A1_2 l1_2.length c1_2]] w fun e w' => ∃ v2_ : Value, e = .returned (.tuple #[.agg #[.int .i64 r1, .int .i64 r2, v2_], .int .i64 r4]) ∧ Kd.R (Kd.int .u8) 5 w' w.heap.size (fun _ => True) v2_ r3 ∧ Below w.heap.size w w' := by
  unfold matrix_Kron.f at h
  split at h
  · rename_i hi
    simp only [Bool.and_eq_true] at hi
    obtain ⟨xs, rfl⟩ := ints_of hi.1
    obtain ⟨ys, rfl⟩ := ints_of hi.2
    simp only [nI_length, nI_toU] at h hc0_2 hc1_2 ⊢
    split at h
    · rename_i hm
      simp only [Option.some.injEq, Prod.mk.injEq] at h
      obtain ⟨rfl, rfl, rfl, rfl⟩ := h
      unfold kronE at hm
      split at hm
      · rename_i h1
        simp only [Bool.and_eq_true] at h1
        split at hm
        · rename_i h64
          obtain ⟨a, b, rfl, rfl, k1, k2, k3⟩ := right_nat h1.1
          obtain ⟨a', b', rfl, rfl, k5, k6, k7⟩ := right_nat h1.2
          rw [← Int.natCast_mul, ← Int.natCast_mul] at h64 ⊢
          have hR : a * a' ≤ 64 := by omega
          have hC : b * b' ≤ 64 := by omega
          refine (kron_yes a b a' b' xs.length ys.length (a * a') (b * b') (a * a' * (b * b')) A0_2 A1_2 c0_2 c1_2 xs ys w k1 k2 k5 k6 hR hC (Lib.hid rfl) (Lib.hid rfl) (Lib.hid k3) (Lib.hid k7) (Lib.hid rfl) (rd_of_C hr0_2) (rd_of_C hr1_2) hc0_2 hc1_2).mono ?_
          rintro e' w' ⟨g, rfl, ho, hg, hb⟩
          have hb4 : a * a' * (b * b') ≤ 64 * 64 := Nat.mul_le_mul hR hC
          exact ⟨_, rfl, R_of_own (ho.ownB hg (grid_length _ _ _) (by simp only [maxLen]; omega)), hb⟩
        · cases hm
      · cases hm
    · rename_i hm
      simp only [Option.some.injEq, Prod.mk.injEq] at h
      obtain ⟨rfl, rfl, rfl, rfl⟩ := h
      refine (kron_no a0_0 a0_1 a1_0 a1_1 A0_2 A1_2 xs.length ys.length c0_2 c1_2 _ w rfl hm).mono ?_
      rintro e w' ⟨rfl, hb⟩
      exact ⟨_, rfl, Kd.R_nil _ _ _ _ _, hb⟩
  · cases h
end Go.Proofs.Ytgcgajeagdaenaa
