/- What the functions compute that the law BuildAny reaches, proved by walking them; conditions stand at each theorem. -/
import Derived.Deep.RegionHeld3
import Derived.Deep.QuietTactic
import Derived.BigQuiet
import Derived.BigRegion
import Derived.RegionTactic
import Derived.ProofKit
import Derived.OpenShut
import Derived.ChangeOld
import Derived.SizedLaws
import Derived.Test.YteofcbkjhdadpaaCBuildAnyA2
import Derived.Test.YteofcbkjhdadpaaCBuildAnyA1
set_option maxHeartbeats 6400000
set_option maxRecDepth 100000
set_option linter.unusedSimpArgs false
set_option linter.unusedVariables false
namespace Go.Proofs.Yteofcbkjhdadpaa
open Go.RowKit
def a3S (w : World) (g k : Nat) (row new : List UInt8) : Prop := ∃ l, k + row.length ≤ l.length ∧ over l k row = new ∧ Row w g 5 (dF l)
theorem PA {c r : Nat} {xs : List UInt8} {zs : List Int} {j m : Nat} (hx : xs.length = r * c) (hrows : jT r zs = true) (hm : zs.length = m) (hj : j < m) :
  over (j7 c xs (zs.take j) ++ List.replicate ((m - j) * c) 0) (j * c) ((xs.drop ((zs.getD j 0).toNat * c)).take c) = j7 c xs (zs.take (j + 1)) ++ List.replicate ((m - (j + 1)) * c) 0 := by
 have hr' : jT r (zs.take j) = true := by
  unfold jT at hrows ⊢;rw [List.all_eq_true] at hrows ⊢;exact fun z hz => hrows z (List.mem_of_mem_take hz)
 have hl := xR (c := c) hx hr';rw [List.length_take, Nat.min_eq_left (by omega)] at hl;rw [CJ _ _ _ _ hl, zI (by omega)]
 congr 1
 have hg := mQ hrows (k := j) (by omega);have hrow : ((xs.drop ((zs.getD j 0).toNat * c)).take c).length = c := by
  rw [List.length_take, List.length_drop, hx];have h1 : ((zs.getD j 0).toNat + 1) * c ≤ r * c := Nat.mul_le_mul_right c (by omega);rw [Nat.add_mul] at h1;omega
 rw [hrow, List.drop_replicate]
 congr 1
 obtain ⟨q, hq⟩ : ∃ q, m - j = q + 1 := ⟨m - j - 1, by omega⟩
 rw [hq, show m - (j + 1) = q by omega, Nat.add_mul];omega
theorem LK (r c : Int) (A : Option Addr) (n cap : Nat) (xs : List UInt8) (Az : Option Addr) (nz capz : Nat) (zs : List Int) (w : World) (hr : Rd w w.heap.size A n (dF xs)) (hz : Rd w w.heap.size Az nz (E0 zs)) (hnz : nz ≤ 140737488355328) (hnc : n ≤ cap) :
  Calls Try.prog 48 #[mV r c A n cap, .slice Az nz capz] w (tD r c n xs zs w) := by
 have hlz : zs.length = nz := by have := hz.len; rw [jF] at this; exact this
 have HLZ := Lib.hid hlz;clear hlz;have b2 := (Row.new w [.int .i64 r, .int .i64 c, .slice A n cap] 24).alloc (.cells #[.int .i64 0, .int .i64 0, .slice none 0 0] 24);have b4 := Row.new (w.alloc (.cells #[.int .i64 r, .int .i64 c, .slice A n cap] 24)) [.int .i64 0, .int .i64 0, .slice none 0 0] 24;rw [World.size_alloc] at b4;have hB : Below w.heap.size w ((w.alloc (.cells #[.int .i64 r, .int .i64 c, .slice A n cap] 24)).alloc (.cells #[.int .i64 0, .int .i64 0, .slice none 0 0] 24)) := ((Below.refl _ _).alloc (Nat.le_refl _) _).alloc (by simp) _;have yP := Lib.hid b2;have MO := Lib.hid b4;have HB := Lib.hid hB;clear b2 b4 hB
 by_cases hrt : bC r c n = true
 ·obtain ⟨rr, cc, rfl, rfl, hr64, hc64, hnrc⟩ : ∃ a b : Nat, r = a ∧ c = b ∧ a ≤ 64 ∧ b ≤ 64 ∧ n = a * b := by
   simp [bC] at hrt
   refine ⟨r.toNat, c.toNat, by omega, by omega, by omega, by omega, ?_⟩;apply Int.ofNat_inj.1;rw [Int.natCast_mul, Int.toNat_of_nonneg hrt.1.1, Int.toNat_of_nonneg hrt.2.1.1];exact hrt.2.2
  have HN := Lib.hid hnrc;have HRT := Lib.hid hrt;have lY := Lib.hid (fun w => fG rr cc A n cap w);rw [hrt] at lY;clear hnrc hrt;go_enter Try.func48, Try.ntmps48;go_wp2_with (go_at_call 76; refine (lY.out _).mono ?_; rintro e w1 ⟨rfl, hb1⟩; have b2 := yP.out.below hb1 (by simp; omega); have b4 := MO.out.below hb1 (by simp); have hB := HB.out.trans (hb1.mono HB.out.size); obtain ⟨KU, FV, ZU, f20, f21, f22⟩ := b2.three; obtain ⟨KT, EW, KS, f40, f41, f42⟩ := b4.three)
  clear yP MO HB lY hb1
  go_loop [17] (fun v17 => ∃ i : Nat, i ≤ nz ∧ v17 = .int .i64 (i : Int) ∧ Hid (∀ k, k < i → 0 ≤ zs.getD k 0 ∧ zs.getD k 0 < (rr : Int))) (fun v17 => nz - (intOf v17).toNat)
  case atStart => exact ⟨0, by omega, rfl, fun k hk => by omega⟩
  case round =>
   obtain ⟨i, hi, rfl, HG⟩ := hrel
   by_cases hlt : i < nz
   ·obtain ⟨g, o, rfl, hg, hcell⟩ := GV (hz.below hB (Nat.le_refl _)) hlt
    obtain ⟨z, hzi⟩ : ∃ z, z = zs.getD i 0 := ⟨_, rfl⟩
    rw [← hzi] at hcell;have HZI := Lib.hid hzi;clear hzi
    by_cases h1 : z < 0
    ·have HE := Lib.hid (show iK (bC rr cc n) rr zs = 2 by
      have hn : jT rr zs = false := by
       by_cases h : jT rr zs = true
       ·have := mQ h (k := i) (by rw [HLZ.out]; exact hlt); rw [← HZI.out] at this; omega
       ·simpa using h
      simp [iK, HRT.out, hn])
     have d1 : decide (z < 0) = true := by simpa using h1
     go_wp2_with fail
     exact bodyPost_ret (v := .tuple #[mV 0 0 none 0 0, .int .i64 2]) (by simp [results, Try.results48, go_sem, KT, EW, KS, f40, f41, f42]) rfl (iJ HE.out (by omega) (bM hB (by omega) _ _ _))
    ·have d1 : decide (z < 0) = false := by simpa using h1
     by_cases h2 : (rr : Int) ≤ z
     ·have HE := Lib.hid (show iK (bC rr cc n) rr zs = 2 by
       have hn : jT rr zs = false := by
        by_cases h : jT rr zs = true
        ·have := mQ h (k := i) (by rw [HLZ.out]; exact hlt); rw [← HZI.out] at this; omega
        ·simpa using h
       simp [iK, HRT.out, hn])
      have d2 : decide ((rr : Int) ≤ z) = true := by simpa using h2
      go_wp2_with fail
      exact bodyPost_ret (v := .tuple #[mV 0 0 none 0 0, .int .i64 2]) (by simp [results, Try.results48, go_sem, KT, EW, KS, f40, f41, f42]) rfl (iJ HE.out (by omega) (bM hB (by omega) _ _ _))
     ·have d2 : decide ((rr : Int) ≤ z) = false := by simpa using h2
      have HZ := Lib.hid (show 0 ≤ z ∧ z < (rr : Int) by omega);go_wp2_with fail
      go_round
      case rel => exact ⟨i + 1, by omega, by go_num, fun k hk => by
       by_cases e : k = i
       ·rw [e, ← HZI.out]; exact HZ.out
       ·exact HG.out k (by omega)⟩
      case measure => simp [intOf]; omega
   ·obtain rfl : i = nz := by omega
    have HROWS := Lib.hid (xM (r := (rr : Int)) (zs := zs) (by rw [HLZ.out]; exact HG.out));clear HG
    by_cases h64 : i ≤ 64
    ·have hsd := F3 h64
     go_wp2_with (go_at_call 77; refine (gY _ _).mono ?_; rintro e w' ⟨rfl, rfl⟩)
     have HE := Lib.hid (show iK (bC rr cc n) rr zs = 0 by
      simp [iK, HRT.out, HROWS.out, HLZ.out]; omega)
     obtain ⟨p, hp⟩ : ∃ p, p = i * cc := ⟨_, rfl⟩
     have HP := Lib.hid hp;clear hp;refine (uI i cc p _ h64 hc64 HP).mono ?_;rintro e w2 ⟨go, rfl, hrow, hgo, hb2⟩;have hs12 := hb2.size;have hgl := hrow.lt;have hb8 : Below w2.heap.size w2 (w2.alloc (.cells #[.int .i64 (i : Int), .int .i64 (cc : Int), .slice (some ⟨go, 0, none⟩) p p] 24)) := (Below.refl _ _).alloc (Nat.le_refl _) _;have V9 := Lib.hid (Row.new w2 [.int .i64 (i : Int), .int .i64 (cc : Int), .slice (some ⟨go, 0, none⟩) p p] 24);have yP := Lib.hid ((b2.below hb2 b2.lt).alloc (.cells #[.int .i64 (i : Int), .int .i64 (cc : Int), .slice (some ⟨go, 0, none⟩) p p] 24));have MO := Lib.hid ((b4.below hb2 b4.lt).alloc (.cells #[.int .i64 (i : Int), .int .i64 (cc : Int), .slice (some ⟨go, 0, none⟩) p p] 24));have HB := Lib.hid ((hB.trans (hb2.mono hB.size)).alloc (by have := hB.size; omega) (.cells #[.int .i64 (i : Int), .int .i64 (cc : Int), .slice (some ⟨go, 0, none⟩) p p] 24));have HROW := Lib.hid (hrow.alloc (.cells #[.int .i64 (i : Int), .int .i64 (cc : Int), .slice (some ⟨go, 0, none⟩) p p] 24));have l2 := b2.lt;have l4 := b4.lt;obtain ⟨q40, q41, q42, p40, p41, p42⟩ := MO.out.three;have hsB := hB.size;clear b2 b4 hB hb2 hrow hb8;clear KU FV ZU KT EW KS f20 f21 f22 f40 f41 f42;go_wp2_with fail
     go_loopw [43] (fun v43 wr => ∃ j : Nat, j ≤ i ∧ v43 = .int .i64 (j : Int) ∧ Row wr go 5 (dF (j7 cc xs (zs.take j) ++ List.replicate ((i - j) * cc) 0)) ∧ Row wr w.heap.size 24 [.int .i64 (rr : Int), .int .i64 (cc : Int), .slice A n cap] ∧ Row wr w2.heap.size 24 [.int .i64 (i : Int), .int .i64 (cc : Int), .slice (some ⟨go, 0, none⟩) p p] ∧ Row wr (w.heap.size + 1) 24 [.int .i64 0, .int .i64 0, .slice none 0 0] ∧ Below w.heap.size w wr) (fun v43 _ => i - (intOf v43).toNat)
     case atStart => exact ⟨0, by omega, rfl, by
      have e : j7 cc xs (zs.take 0) ++ List.replicate ((i - 0) * cc) 0 = List.replicate p 0 := by rw [HP.out]; simp [j7]
      rw [e]; exact HROW.out, yP.out, V9.out, MO.out, HB.out⟩
     case round =>
      obtain ⟨j, hj, rfl, hcur, b2, b8, b4, hB⟩ := hrel;clear HROW yP V9 MO HB q40 q41 q42 p40 p41 p42
      by_cases hlj : j < i
      ·obtain ⟨g, o, rfl, hg, hcell⟩ := GV (hz.below hB (Nat.le_refl _)) hlj
       have hzb := mQ HROWS.out (k := j) (by rw [HLZ.out]; exact hlj);obtain ⟨z, hzi⟩ : ∃ z : Nat, zs.getD j 0 = z := ⟨(zs.getD j 0).toNat, by omega⟩
       rw [hzi] at hcell hzb;have hzr : z < rr := by omega
       have hx : xs.length = rr * cc := by have := hr.len; rw [b6] at this; rw [this, HN.out]
       have HST := Lib.hid (PA (c := cc) (r := rr) (xs := xs) (zs := zs) (j := j) (m := i) hx HROWS.out HLZ.out hlj);rw [hzi, Int.toNat_natCast] at HST;obtain ⟨k, hk⟩ : ∃ k, k = j * cc := ⟨_, rfl⟩
       obtain ⟨kz, hkz⟩ : ∃ kz, kz = z * cc := ⟨_, rfl⟩
       have hk1 : k + cc = (j + 1) * cc := by rw [hk, Nat.add_mul]; omega
       have hkz1 : kz + cc = (z + 1) * cc := by rw [hkz, Nat.add_mul]; omega
       have hkp : k + cc ≤ p := by rw [hk1, HP.out]; exact Nat.mul_le_mul_right cc hlj
       have hkn : kz + cc ≤ n := by rw [hkz1, HN.out]; exact Nat.mul_le_mul_right cc hzr
       rw [← hk, ← hkz] at HST;obtain ⟨row, hrow⟩ : ∃ row, row = (xs.drop kz).take cc := ⟨_, rfl⟩
       rw [← hrow] at HST;have hrl : row.length = cc := by rw [hrow, List.length_take, List.length_drop, hx]; have := HN.out; omega
       have hcl : (j7 cc xs (zs.take j) ++ List.replicate ((i - j) * cc) 0).length = p := by
        have h1 : jT (rr : Int) (zs.take j) = true := by
         have h0 := HROWS.out;unfold jT at h0 ⊢;rw [List.all_eq_true] at h0 ⊢;exact fun z hz => h0 z (List.mem_of_mem_take hz)
        rw [List.length_append, xR hx h1, List.length_replicate, List.length_take, HLZ.out, Nat.min_eq_left (by omega), ← Nat.add_mul, HP.out]
        congr 1
        omega
       generalize j7 cc xs (zs.take j) ++ List.replicate ((i - j) * cc) 0 = cur at *;obtain ⟨new, hnew⟩ : ∃ new, new = j7 cc xs (zs.take (j + 1)) ++ List.replicate ((i - (j + 1)) * cc) 0 := ⟨_, rfl⟩
       rw [← hnew] at HST;have lY := Lib.hid (fun w => lO i cc j (some ⟨go, 0, none⟩) p p k (k + cc) w h64 hc64 hlj hk hk1 hkp (Nat.le_refl _));have vT := Lib.hid (fun w => lO rr cc z A n cap kz (kz + cc) w hr64 hc64 hzr hkz hkz1 hkn hnc);have HSRC := Lib.hid (fun (x : World) (hb : Below w.heap.size w x) => LH (k := kz) (c := cc) (hr.below hb (Nat.le_refl _)) hkn);rw [← hrow] at HSRC;have HDST := Lib.hid (show 0 < (row.take cc).length → oT (some ⟨go, 0, none⟩) cc k = some ⟨go, k, none⟩ by
        intro h; rw [List.length_take, hrl] at h; rw [lH (by omega), Nat.zero_add])
       have htk : row.take cc = row := List.take_of_length_le (by omega);obtain ⟨P, hP⟩ : ∃ P : World → Prop, P = fun x => Below w.heap.size w x ∧ Row x w.heap.size 24 [.int .i64 (rr : Int), .int .i64 (cc : Int), .slice A n cap] ∧ Row x w2.heap.size 24 [.int .i64 (i : Int), .int .i64 (cc : Int), .slice (some ⟨go, 0, none⟩) p p] ∧ Row x (w.heap.size + 1) 24 [.int .i64 0, .int .i64 0, .slice none 0 0] ∧ a3S x go k row new := ⟨_, rfl⟩
       have hp0 : P wr := by rw [hP]; exact ⟨hB, b2, b8, b4, cur, by omega, HST.out, hcur⟩
       have HG := Lib.hid (show ∀ x y : World, P x → Below x.heap.size x y → P y by
        rw [hP];rintro x y ⟨q1, q2, q3, q4, l, h1, h2, h3⟩ hb;exact ⟨q1.trans (hb.mono q1.size), q2.below hb q2.lt, q3.below hb q3.lt, q4.below hb q4.lt, l, h1, h2, h3.below hb h3.lt⟩)
       have HD := Lib.hid (show ∀ x : World, P x → P x.drew by rw [hP]; exact fun x q => ⟨q.1.drew, q.2⟩);have HC := Lib.hid (show ∀ w' : World, P w' → w'.cell? ⟨w2.heap.size, 0, none⟩ = some (.int .i64 (i : Int)) ∧ w'.cell? ⟨w2.heap.size, 1, none⟩ = some (.int .i64 (cc : Int)) ∧ w'.cell? ⟨w2.heap.size, 2, none⟩ = some (.slice (some ⟨go, 0, none⟩) p p) ∧ w'.cell? ⟨w.heap.size, 0, none⟩ = some (.int .i64 (rr : Int)) ∧ w'.cell? ⟨w.heap.size, 1, none⟩ = some (.int .i64 (cc : Int)) ∧ w'.cell? ⟨w.heap.size, 2, none⟩ = some (.slice A n cap) by
        rw [hP];rintro x ⟨q1, q2, q3, q4, _⟩;exact ⟨q3.cell 0, q3.cell 1, q3.cell 2, q2.cell 0, q2.cell 1, q2.cell 2⟩)
       have HCUR := Lib.hid (show ∀ x : World, P x → a3S x go k row new by rw [hP]; exact fun x q => q.2.2.2.2);have HBEL := Lib.hid (show ∀ x : World, P x → Below w.heap.size w x by rw [hP]; exact fun x q => q.1);have HGG := Lib.hid (show ∀ x y : World, P x → Row y go 5 (dF new) → x.grownBy y (some go) → P y by
        rw [hP];rintro x y ⟨q1, q2, q3, q4, l, h1, h2, h3⟩ hy hg;refine ⟨q1.trans (pM hg q1.size (fun k hk => by injection hk with hk; omega)), q2.of_block (hg.block _ q2.lt (fun e => by injection e with e; omega)), q3.of_block (hg.block _ q3.lt (fun e => by injection e with e; omega)), q4.of_block (hg.block _ q4.lt (fun e => by injection e with e; omega)), new, ?_, ?_, hy⟩
        ·rw [← h2, AL h1]; exact h1
        ·rw [← h2, LP _ _ _ h1])
       have HALL := Lib.hid (show ∀ x : World, P x → Below w.heap.size w x ∧ Row x w.heap.size 24 [.int .i64 (rr : Int), .int .i64 (cc : Int), .slice A n cap] ∧ Row x w2.heap.size 24 [.int .i64 (i : Int), .int .i64 (cc : Int), .slice (some ⟨go, 0, none⟩) p p] ∧ Row x (w.heap.size + 1) 24 [.int .i64 0, .int .i64 0, .slice none 0 0] by rw [hP]; exact fun x q => ⟨q.1, q.2.1, q.2.2.1, q.2.2.2.1⟩);have HNEW := Lib.hid hnew;have HRL := Lib.hid hrl;have HTK := Lib.hid htk;clear hP hk hkz hk1 hkz1 hrow hnew hcur b2 b8 b4 hB hx hcl hzi htk hrl;go_wp2_with fail
       have hc := HC.out _ hp0
       go_region_held3 (fun w' => P w' ∧ w'.cell? ⟨w2.heap.size, 0, none⟩ = some (.int .i64 (i : Int)) ∧ w'.cell? ⟨w2.heap.size, 1, none⟩ = some (.int .i64 (cc : Int)) ∧ w'.cell? ⟨w2.heap.size, 2, none⟩ = some (.slice (some ⟨go, 0, none⟩) p p) ∧ w'.cell? ⟨w.heap.size, 0, none⟩ = some (.int .i64 (rr : Int)) ∧ w'.cell? ⟨w.heap.size, 1, none⟩ = some (.int .i64 (cc : Int)) ∧ w'.cell? ⟨w.heap.size, 2, none⟩ = some (.slice A n cap))
        (first | (go_split_ands; have q := HG.out _ _ (by assumption) hbk; exact ⟨q, HC.out _ q⟩) | (go_split_ands; have q := HGG.out _ _ (by assumption) hrow9 hg9; exact ⟨q, HC.out _ q⟩) | (go_split_ands; have q := HD.out _ (by assumption); exact ⟨q, HC.out _ q⟩))
        (first | (go_at_call 79; (first | (with_reducible refine (lY.out _).mono ?_) | (with_reducible refine (vT.out _).mono ?_)); rintro e wk ⟨rfl, hbk⟩) | (go_split_ands; obtain ⟨l, hl1, hl2, hl3⟩ := HCUR.out _ (by assumption); refine nT _ _ (by rfl) (by rfl) (oT (some ⟨go, 0, none⟩) cc k) (oT A cc kz) cc cc cc cc (by rfl) (by rfl) go k l row hl3 w.heap.size (HSRC.out _ (HBEL.out _ (by assumption))) HDST.out (by rw [HTK.out]; exact hl1) ?_; rw [HTK.out, hl2]; intro w9 hrow9 hg9))
       go_wp2_with fail
       go_split_ands;have hfin := HALL.out w9 (by assumption)
       go_roundw
       case rel => exact ⟨j + 1, by omega, by go_num, by rw [← HNEW.out]; exact hrow9, hfin.2.1, hfin.2.2.1, hfin.2.2.2, hfin.1⟩
       case measure => simp [intOf]; omega
      ·obtain rfl : j = i := by omega
       obtain ⟨KT, EW, KS, f40, f41, f42⟩ := b4.three;obtain ⟨c80, c81, c82, _, _, _⟩ := b8.three;go_wp2_with fail
       refine bodyPost_ret (v := .tuple #[mV j cc (some ⟨go, 0, none⟩) p p, .int .i64 0]) (by simp [results, Try.results48, go_sem, KT, EW, KS, f40, f41, f42]) rfl ?_;have hfin : j7 cc xs (zs.take j) ++ List.replicate ((j - j) * cc) 0 = W6 (bC rr cc n) rr cc xs zs := by
        unfold W6;rw [HE.out, if_pos rfl, Int.toNat_natCast, List.take_of_length_le (by rw [HLZ.out]; omega)]
        simp
       rw [hfin] at hcur;have hpl : (W6 (bC rr cc n) rr cc xs zs).length = p := by
        have hx : xs.length = rr * cc := by have := hr.len; rw [b6] at this; rw [this, HN.out]
        unfold W6;rw [HE.out, if_pos rfl, Int.toNat_natCast, xR hx HROWS.out, HLZ.out, HP.out]
       refine ⟨some ⟨go, 0, none⟩, p, p, ?_, (hcur.vK (by omega) _ _ _).SN (by omega) hpl ?_, bM hB (by omega) _ _ _⟩
       ·unfold pkR pkC
        rw [HE.out, if_pos rfl, if_pos rfl, HLZ.out]
       ·have : p ≤ 64 * 64 := by rw [HP.out]; exact Nat.mul_le_mul h64 hc64
        simp only [maxLen]; omega
    ·have hsd : gU (i : Int) = false := by simp [gU]; omega
     have HE := Lib.hid (show iK (bC rr cc n) rr zs = 4 by
      simp [iK, HRT.out, HROWS.out, HLZ.out]; omega)
     go_wp2_with (go_at_call 77; refine (gY _ _).mono ?_; rintro e w' ⟨rfl, rfl⟩)
     exact bodyPost_ret (v := .tuple #[mV 0 0 none 0 0, .int .i64 4]) (by simp [results, Try.results48, go_sem, KT, EW, KS, f40, f41, f42]) rfl (iJ HE.out (by omega) (bM hB (by omega) _ _ _))
 ·have hrt : bC r c n = false := by simpa using hrt
  have HE := Lib.hid (show iK (bC r c n) r zs = 3 by simp [iK, hrt]);have lY := Lib.hid (fun w => fG r c A n cap w);rw [hrt] at lY;clear hrt;go_enter Try.func48, Try.ntmps48;go_wp2_with (go_at_call 76; refine (lY.out _).mono ?_; rintro e w1 ⟨rfl, hb1⟩; have b4 := MO.out.below hb1 (by simp); have hB := HB.out.trans (hb1.mono HB.out.size); obtain ⟨KT, EW, KS, f40, f41, f42⟩ := b4.three)
  exact bodyPost_ret (v := .tuple #[mV 0 0 none 0 0, .int .i64 3]) (by simp [results, Try.results48, go_sem, KT, EW, KS, f40, f41, f42]) rfl (iJ HE.out (by omega) (bM hB (by omega) _ _ _))
end Go.Proofs.Yteofcbkjhdadpaa
namespace Go.Proofs.Yteofcbkjhdadpaa
open Go.RowKit
theorem FF (n : Nat) (hn : n ≤ 4096) (w : World) :
  (Instr.makeSlice 37 (.int .i64 (n : Int)) (.int .i64 (n : Int))).run Try.prog w = .ok (.slice (some ⟨w.heap.size, 0, none⟩) n n) (w.alloc (.cells (madeCells #[.int .i64 0] n) 3)) := by
 obtain ⟨i, hi, hz, hs, hb⟩ := info_parts CT;have h := run_make (P := Try.prog) w 37 3 i _ Try.underlying37 hi hz .i64 .i64 (n : Int) (n : Int) (by omega) (by omega) (by rw [hb]; omega) (by omega);rw [hs, Nat.mul_one, Int.toNat_natCast] at h;exact h
def AY (c i : Nat) : List Int := (List.range c).map fun k => if k < i then (k : Int) else 0
theorem kN (c i : Nat) : (AY c i).length = c := by simp [AY]
theorem J3 (c : Nat) : E0 (AY c 0) = List.replicate c (.int .i64 0) := by
 unfold E0 AY;rw [List.map_map];exact List.ext_getElem (by simp) fun k h1 h2 => by simp
theorem N5 (c i : Nat) : (E0 (AY c i)).set i (.int .i64 (i : Int)) = E0 (AY c (i + 1)) := by
 refine List.ext_getElem (by simp [E0, AY]) fun k h1 h2 => ?_
 simp only [E0, AY, List.getElem_set, List.getElem_map, List.getElem_range]
 by_cases e : i = k
 ·rw [if_pos e, if_pos (by omega), e]
 ·rw [if_neg e]
  by_cases h3 : k < i
  ·rw [if_pos h3, if_pos (by omega)]
  ·rw [if_neg h3, if_neg (by omega)]
theorem RL {r c : Nat} (h : c ≤ r) : jT r (AY c c) = true := by
 refine xM fun k hk => ?_
 rw [kN] at hk;unfold AY;rw [List.getD_eq_getElem?_getD, List.getElem?_map, List.getElem?_range hk]
 simp [hk]
 omega
theorem NG (c : Nat) (xs : List UInt8) : ∀ m, m ≤ c → m * c ≤ xs.length → j7 c xs ((AY c c).take m) = xs.take (m * c)
 | 0, _, _ => by simp [j7]
 | m + 1, hm, hl => by
  rw [zI (by rw [kN]; omega), NG c xs m (by omega) (by rw [Nat.add_mul] at hl; omega)];have e : ((AY c c).getD m 0).toNat = m := by
   unfold AY;rw [List.getD_eq_getElem?_getD, List.getElem?_map, List.getElem?_range (by omega)]
   simp
   omega
  rw [e, Nat.add_mul, Nat.one_mul, List.take_add]
def nY (r c : Int) (n : Nat) : Bool := bC r c n && decide (c ≤ r)
theorem BW (r c : Int) (A : Option Addr) (n cap : Nat) (w : World) : Calls Try.prog 47 #[mV r c A n cap] w fun e w' => e = .returned (.bool (nY r c n)) ∧ Below w.heap.size w w' := by
 have HR := Lib.hid (fun w => fG r c A n cap w)
 cases h : bC r c n with
 | false =>
  rw [h] at HR;have HT := Lib.hid (show nY r c n = false by unfold nY; rw [h]; rfl);clear h;go_enter Try.func47, Try.ntmps47;go_wp2_with fail
  refine (HR.out _).mono ?_;rintro e w1 ⟨rfl, hb⟩;have HB := Lib.hid (((Below.refl w.heap.size w).alloc (Nat.le_refl _) (.cells #[.int .i64 r, .int .i64 c, .slice A n cap] 24)).trans (hb.mono (by simp)));clear hb;go_wp2_with fail
  go_ret;exact ⟨by rw [HT.out]; rfl, HB.out⟩
 | true =>
  rw [h] at HR
  by_cases hc : c ≤ r
  ·have HT := Lib.hid (show nY r c n = true by unfold nY; rw [h, decide_eq_true hc]; rfl)
   clear h;go_enter Try.func47, Try.ntmps47;go_wp2_with fail
   refine (HR.out _).mono ?_;rintro e w1 ⟨rfl, hb⟩;have hrow := (Row.new w [.int .i64 r, .int .i64 c, .slice A n cap] 24).below hb (by simp);obtain ⟨c0, c1, c2, _, _, _⟩ := hrow.three;have HB := Lib.hid (((Below.refl w.heap.size w).alloc (Nat.le_refl _) (.cells #[.int .i64 r, .int .i64 c, .slice A n cap] 24)).trans (hb.mono (by simp)));clear hb hrow;go_wp2_with fail
   go_ret;exact ⟨by rw [HT.out]; rfl, HB.out⟩
  ·have HT := Lib.hid (show nY r c n = false by unfold nY; rw [h, decide_eq_false hc]; rfl)
   clear h;go_enter Try.func47, Try.ntmps47;go_wp2_with fail
   refine (HR.out _).mono ?_;rintro e w1 ⟨rfl, hb⟩;have hrow := (Row.new w [.int .i64 r, .int .i64 c, .slice A n cap] 24).below hb (by simp);obtain ⟨c0, c1, c2, _, _, _⟩ := hrow.three;have HB := Lib.hid (((Below.refl w.heap.size w).alloc (Nat.le_refl _) (.cells #[.int .i64 r, .int .i64 c, .slice A n cap] 24)).trans (hb.mono (by simp)));clear hb hrow;go_wp2_with fail
   go_ret;exact ⟨by rw [HT.out]; show Ending.returned (.bool (decide (c ≤ r))) = _; rw [decide_eq_false (by omega)], HB.out⟩
theorem a0F (r c : Int) (A : Option Addr) (n cap : Nat) (w : World) (h : Hid (nY r c n = false)) :
  Calls Try.prog 14 #[mV r c A n cap] w fun e w' => e = .returned (.tuple #[mV 0 0 none 0 0, .int .i64 3]) ∧ Below w.heap.size w w' := by
 have HR := Lib.hid (fun w => BW r c A n cap w);rw [h.out] at HR;obtain ⟨W2, hW2⟩ : ∃ W2, W2 = (w.alloc (.cells #[.int .i64 r, .int .i64 c, .slice A n cap] 24)).alloc (.cells #[.int .i64 0, .int .i64 0, .slice none 0 0] 24) := ⟨_, rfl⟩
 have hb2 : Below w.heap.size w W2 := by rw [hW2]; exact ((Below.refl _ _).alloc (Nat.le_refl _) _).alloc (by simp) _
 have ho : Row W2 (w.heap.size + 1) 24 [.int .i64 0, .int .i64 0, .slice none 0 0] := by
  rw [hW2];have q := Row.new (w.alloc (.cells #[.int .i64 r, .int .i64 c, .slice A n cap] 24)) [.int .i64 0, .int .i64 0, .slice none 0 0] 24
  simpa using q
 have HW2 := Lib.hid hW2;have yP := Lib.hid hb2;have HO := Lib.hid ho;clear hW2 hb2 ho;go_enter Try.func14, Try.ntmps14;go_wp2_with fail
 rw [← HW2.out];refine (HR.out W2).mono ?_;rintro e w3 ⟨rfl, hb3⟩;have ho3 := HO.out.below hb3 HO.out.lt;obtain ⟨d0, d1, d2, g0, g1, g2⟩ := ho3.three;have hlt := ho3.lt;have DV := Lib.hid (yP.out.trans (hb3.mono yP.out.size));clear hb3 ho3;go_wp2_with fail
 refine bodyPost_ret (v := .tuple #[mV 0 0 none 0 0, .int .i64 3]) (by simp [results, Try.results14, go_sem, d0, d1, d2, hlt]) rfl ?_;exact ⟨rfl, bM DV.out (by omega) _ _ _⟩
theorem VN (r c na ka : Nat) (A : Option Addr) (xs : List UInt8) (w : World) (hx : Rd w w.heap.size A na (dF xs)) (hna : Hid (na = r * c)) (hka : na ≤ ka) (hr : r ≤ 64) (hcr : c ≤ r) :
  Calls Try.prog 14 #[mV r c A na ka] w fun e w' => ∃ (piv : List Nat) (L' A2 : List (List UInt8)), qF c c 0 0 (fY (xs.take (c * c)) c c) (HJ c) [] L' A2 piv ∧ Below w.heap.size w w' ∧
   ((piv.length < c ∧ e = .returned (.tuple #[mV 0 0 none 0 0, .int .i64 6])) ∨ (piv.length = c ∧ ∃ A', e = .returned (.tuple #[mV r c A' na na, .int .i64 0]) ∧ eI w' w.heap.size A' na na (CL r c c xs A2.flatten))) := by
 have hc : c ≤ 64 := by omega
 have hrt : nY r c na = true := by unfold nY; rw [hna.out, nE hr hc, Bool.true_and, decide_eq_true_eq]; omega
 have HR := Lib.hid (fun w => BW r c A na ka w);rw [hrt] at HR;have HX := Lib.hid hx;have hp : na ≤ 4096 := by rw [hna.out]; exact Nat.le_trans (Nat.mul_le_mul hr hc) (by omega)
 have hmk : ∀ w : World, (Instr.makeSlice 37 (.int .i64 (c : Int)) (.int .i64 (c : Int))).run Try.prog w = .ok (.slice (some ⟨w.heap.size, 0, none⟩) c c) (w.alloc (.cells (madeCells #[.int .i64 0] c) 3)) := fun w => FF c (by omega) w
 clear hrt hx;obtain ⟨W2, hW2⟩ : ∃ W2, W2 = (w.alloc (.cells #[.int .i64 (r : Int), .int .i64 (c : Int), .slice A na ka] 24)).alloc (.cells #[.int .i64 0, .int .i64 0, .slice none 0 0] 24) := ⟨_, rfl⟩
 have st : DZ w W2 r c na ka A := by
  rw [hW2];refine ⟨((Below.refl _ _).alloc (Nat.le_refl _) _).alloc (by simp) _, (Row.new w _ _).alloc _, ?_⟩;have q := Row.new (w.alloc (.cells #[.int .i64 (r : Int), .int .i64 (c : Int), .slice A na ka] 24)) [.int .i64 0, .int .i64 0, .slice none 0 0] 24
  simpa using q
 have HW2 := Lib.hid hW2;have HS2 := Lib.hid st;clear hW2 st;go_enter Try.func14, Try.ntmps14;go_wp2_with fail
 rw [← HW2.out];refine (HR.out W2).mono ?_;rintro e w3 ⟨rfl, hb3⟩;have st3 := HS2.out.go hb3;obtain ⟨c0, c1, c2, f0, f1, f2⟩ := st3.m.three;have HS3 := Lib.hid st3;obtain ⟨W4, hW4⟩ : ∃ W4, W4 = w3.alloc (.cells (madeCells #[.int .i64 0] c) 3) := ⟨_, rfl⟩
 have hb4 : Below w3.heap.size w3 W4 := by rw [hW4]; exact (Below.refl _ _).alloc (Nat.le_refl _) _
 have r4 : Row W4 w3.heap.size 3 (E0 (AY c 0)) := by rw [hW4, J3]; exact Row.made w3 _ c _
 have HW4 := Lib.hid hW4;have HS4 := Lib.hid (HS3.out.go hb4);have OA := Lib.hid r4;clear hb3 st3 hW4 hb4 r4;go_wp2_with fail
 clear hmk;rw [← HW4.out];obtain ⟨gf, hgf⟩ : ∃ gf, gf = w3.heap.size := ⟨_, rfl⟩
 rw [← hgf] at OA;rw [← hgf];have hgw : w.heap.size + 1 < gf := by rw [hgf]; exact HS3.out.o.lt
 clear hgf c0 c1 c2 f0 f1 f2
 go_loopg [18] c (fun k s18 wr => ∃ i : Nat, s18 = .int .i64 (i : Int) ∧ i ≤ c ∧ k = c - i ∧ DZ w wr r c na ka A ∧ Row wr gf 3 (E0 (AY c i)))
 case atStart => exact ⟨0, rfl, by omega, rfl, HS4.out, OA.out⟩
 case round =>
  clear OA;obtain ⟨i, rfl, hic, hk, hbx, hrow⟩ := hrel
  rename World => w5
  have HBX := Lib.hid hbx;have HROW := Lib.hid hrow
  by_cases hlt : i < c
  ·obtain ⟨PJ, hold⟩ := hrow.has (i := i) (by rw [jF, kN]; exact hlt)
   have hfz : w5.frozen? ⟨gf, i, none⟩ = false := hrow.frozen i;have i0 : (0 : Int) ≤ (i : Int) := by omega
   have i1 : (i : Int) < (c : Int) := by omega
   clear hbx hrow;go_wp2_with fail
   go_roundg (c - (i + 1))
   case rel =>
    refine ⟨i + 1, by go_num, by omega, rfl, ⟨HBX.out.below.setCell (by show w.heap.size ≤ gf; omega) _, HBX.out.m.wN (by show w.heap.size ≠ gf; omega) _, HBX.out.o.wN (by show w.heap.size + 1 ≠ gf; omega) _⟩, ?_⟩;rw [← N5];exact HROW.out.set i _
   case measure => omega
  ·obtain rfl : i = c := by omega
   obtain ⟨c0, c1, c2, f0, f1, f2⟩ := hbx.m.three;have hzs : Rd w5 w5.heap.size (some ⟨gf, 0, none⟩) i (E0 (AY i i)) := by
    refine ⟨by rw [jF, kN], fun h0 => ⟨gf, 0, rfl, hrow.lt, fun j u hu => ?_⟩⟩;rw [Nat.zero_add, hrow.cell, hu]
   have hxl : xs.length = r * i := by have := HX.out.len; rw [b6] at this; rw [this, hna.out]
   have hpk : iK (bC r i na) r (AY i i) = 0 := by
    rw [hna.out, nE hr hc];unfold iK;rw [if_neg (by simp), RL (by omega), if_neg (by simp), kN, if_neg (by omega)]
   have hPP := LK r i A na ka xs (some ⟨gf, 0, none⟩) i i (AY i i) w5 (HX.out.go hbx.below) hzs (by omega) hka;unfold tD at hPP;unfold pkR pkC W6 at hPP;rw [hpk] at hPP;have hpd : j7 i xs (AY i i) = xs.take (i * i) := by
    have h := NG i xs i (Nat.le_refl _) (by rw [hxl]; exact Nat.mul_le_mul_right i hcr)
    rwa [List.take_of_length_le (by rw [kN]; exact Nat.le_refl _)] at h
   simp only [if_true, Int.toNat_natCast, kN] at hPP;rw [hpd] at hPP;have HPP := Lib.hid hPP;have HXL := Lib.hid hxl;clear hPP hpd hpk hzs hxl hbx hrow;go_wp2_with fail
   refine HPP.out.mono ?_;rintro e w6 ⟨A6, n6, k6, rfl, ho6, hb6⟩;obtain ⟨T, hT⟩ : ∃ T, T = xs.take (i * i) := ⟨_, rfl⟩
   have hn6 : n6 = i * i := by
    have h1 := ho6.1;rw [List.length_take, HXL.out] at h1;have h2 : i * i ≤ r * i := Nat.mul_le_mul_right i hcr;omega
   rw [← hT] at ho6;have HT := Lib.hid hT;have HN6 := Lib.hid hn6;clear hn6;have hbx6 := HBX.out.go hb6;obtain ⟨W7, hW7⟩ : ∃ W7, W7 = w6.alloc (.cells #[.int .i64 (i : Int), .int .i64 (i : Int), .slice A6 n6 k6] 24) := ⟨_, rfl⟩
   have hb7 : Below w6.heap.size w6 W7 := by rw [hW7]; exact (Below.refl _ _).alloc (Nat.le_refl _) _
   have HIN := Lib.hid (IL i n6 k6 A6 T W7 (ho6.rd.go hb7) HN6 ho6.le' hc);have HB7 := Lib.hid (hbx6.go hb7);have HW7 := Lib.hid hW7;have HB6 := Lib.hid hbx6;have hgt : w6.heap.size < W7.heap.size := by rw [hW7]; simp
   clear ho6 hb6 hbx6 hW7 hb7 c0 c1 c2 f0 f1 f2 hT HPP;go_wp2_with fail
   rw [← HW7.out];refine HIN.out.mono ?_;rintro e w8 ⟨piv, L', A2, hred, hb8, hcase⟩;have HRED := Lib.hid hred;have hbx8 := HB7.out.go hb8
   rcases hcase with ⟨hlt2, rfl⟩ | ⟨heq, A8, k8, rfl, hrd8, hk8⟩
   ·have hw9 : Below w8.heap.size w8 (w8.alloc (.cells #[.int .i64 0, .int .i64 0, .slice none 0 0] 24)) := (Below.refl _ _).alloc (Nat.le_refl _) _
    have hbx9 := hbx8.go hw9;obtain ⟨d0, d1, d2, g0, g1, g2⟩ := hbx9.o.three;have hlt9 := hbx9.o.lt;have HB9 := Lib.hid hbx9;clear hred hb8 hbx8 hw9 hbx9;go_wp2_with fail
    refine bodyPost_ret (v := .tuple #[mV 0 0 none 0 0, .int .i64 6]) (by simp [results, Try.results14, go_sem, d0, d1, d2, hlt9]) rfl ?_;exact ⟨piv, L', A2, by rw [← HT.out]; exact HRED.out, bM HB9.out.below (by omega) _ _ _, .inl ⟨hlt2, rfl⟩⟩
   ·obtain ⟨W9, hW9⟩ : ∃ W9, W9 = w8.alloc (.cells #[.int .i64 (i : Int), .int .i64 (i : Int), .slice A8 n6 k8] 24) := ⟨_, rfl⟩
    have hb9 : Below w8.heap.size w8 W9 := by rw [hW9]; exact (Below.refl _ _).alloc (Nat.le_refl _) _
    have hbx9 := hbx8.go hb9;have hMU := WH r i i i A A8 na n6 ka k8 xs A2.flatten W9 (HX.out.go hbx9.below) (hrd8.go hb9) hka hk8;have hmb : vJ r i na i i n6 = true := by
     unfold vJ;rw [hna.out, HN6.out, nE hr hc, nE hc hc]
     simp
    rw [hmb] at hMU;have hmn : WI true r i = na := by unfold WI; rw [if_pos rfl, hna.out]; simp
    rw [hmn] at hMU;simp only [muR, muE, muD, if_true, Int.toNat_natCast] at hMU;have HMU := Lib.hid hMU;have HB9 := Lib.hid hbx9;have HW9 := Lib.hid hW9;obtain ⟨c0, c1, c2, _, _, _⟩ := hbx8.m.three;have hl8 := hbx8.m.lt;clear hred hb8 hbx8 hb9 hbx9 hMU hmb hmn hrd8 hW9;go_wp2_with fail
    rw [← HW9.out];refine HMU.out.mono ?_;rintro e w10 ⟨A10, rfl, ho10, hb10⟩;have hbx10 := HB9.out.go hb10;obtain ⟨d0, d1, d2, g0, g1, g2⟩ := hbx10.o.three;have hlt10 := hbx10.o.lt;have a8c := Lib.hid ho10;have Z0 := Lib.hid hbx10;clear ho10 hb10 hbx10;go_wp2_with fail
    refine bodyPost_ret (v := .tuple #[mV r i A10 na na, .int .i64 0]) (by simp [results, Try.results14, go_sem, d0, d1, d2, hlt10]) rfl ?_;refine ⟨piv, L', A2, by rw [← HT.out]; exact HRED.out, bM Z0.out.below (by omega) _ _ _, .inr ⟨heq, A10, rfl, ?_⟩⟩;exact (a8c.out.vK (by have := HB9.out.o.lt; omega) _ _ _).mono (by have := HB9.out.below.size; omega)
end Go.Proofs.Yteofcbkjhdadpaa
namespace Go.Proofs.Yteofcbkjhdadpaa
open Go.RowKit
def rW (n i top : Nat) : List Int := ((AY n n).set top (i : Int)).set i (top : Int)
def C2 (L : List (List UInt8)) (i top : Nat) : List (List UInt8) := (L.set i (L.getD top [])).set top (L.getD i [])
theorem qL (n i top : Nat) : (rW n i top).length = n := by simp [rW, kN]
theorem KZ (n i top : Nat) : ((E0 (AY n n)).set top (.int .i64 (i : Int))).set i (.int .i64 (top : Int)) = E0 (rW n i top) := by simp [E0, rW, List.map_set]
theorem RM {n k : Nat} (hk : k < n) : (AY n n)[k]? = some (k : Int) := by
 unfold AY;rw [List.getElem?_map, List.getElem?_range hk]
 simp [hk]
theorem F1 {n i top k : Nat} (hi : i < n) (ht : top < n) (hk : k < n) : (rW n i top)[k]? = some (((if i = k then top else if top = k then i else k : Nat)) : Int) := by
 unfold rW;rw [List.getElem?_set, List.length_set, kN, List.getElem?_set, kN, RM hk]
 by_cases h1 : i = k
 ·rw [if_pos h1, if_pos h1, if_pos hi]
 ·rw [if_neg h1, if_neg h1]
  by_cases h2 : top = k
  ·rw [if_pos h2, if_pos h2, if_pos ht]
  ·rw [if_neg h2, if_neg h2]
theorem BZ {n i top : Nat} (hi : i < n) (ht : top < n) : jT n (rW n i top) = true := by
 refine xM fun k hk => ?_
 rw [qL] at hk;rw [List.getD_eq_getElem?_getD, F1 hi ht hk];simp only [Option.getD_some]
 split
 ·omega
 ·split <;> omega
theorem C1 {n c i top : Nat} {L : List (List UInt8)} (h : eG n c L) (hi : i < n) (ht : top < n) : eG n c (C2 L i top) := (h.set hi (h.wid top ht)).set ht (h.wid i hi)
theorem z6 {n c i top : Nat} {L : List (List UInt8)} (h : eG n c L) (hi : i < n) (ht : top < n) (k : Nat) : (C2 L i top).getD k [] = if k = top then L.getD i [] else if k = i then L.getD top [] else L.getD k [] := by
 unfold C2;rw [gK (by rw [List.length_set, h.len]; exact ht), gK (by rw [h.len]; exact hi)]
theorem OT {n c i top : Nat} {L : List (List UInt8)} (h : eG n c L) (hi : i < n) (ht : top < n) : (rW n i top).map (fun z => L.getD z.toNat []) = C2 L i top := by
 refine y6 (by rw [List.length_map, qL]) (C1 h hi ht).len fun k hk => ?_
 rw [z6 h hi ht, List.getD_eq_getElem?_getD, List.getElem?_map, F1 hi ht hk];simp only [Option.map_some, Option.getD_some, Int.toNat_natCast]
 by_cases h1 : i = k
 ·subst h1
  by_cases h2 : i = top
  ·subst h2; simp
  ·rw [if_pos rfl, if_neg h2, if_pos rfl]
 ·rw [if_neg h1]
  by_cases h2 : top = k
  ·rw [if_pos h2, if_pos h2.symm]
  ·rw [if_neg h2, if_neg (fun e => h2 e.symm), if_neg (fun e => h1 e.symm)]
theorem L3 (L : List (List UInt8)) {n c i top : Nat} (h : eG n c L) (hi : i < n) (ht : top < n) (v : UInt8) : (C2 L i top).set top ((L.getD i []).map (Gf.mul v)) = nS L i top v := by
 unfold C2 nS;rw [List.set_set]
theorem Q1 {n c top j k : Nat} {S : List (List UInt8)} (h : eG n c S) (ht : top < n) (hk : k < n) (hkt : k ≠ top) :
  (dR top j k S).set k (Gf.lJ (S.getD k []) (fH S k j) (S.getD top [])) = dR top j (k + 1) S := by
 have r := oI h ht k (by omega) (j := j);have e1 : (dR top j k S).getD k [] = S.getD k [] := by rw [r.2, if_neg (by omega)]
 have e2 : (dR top j k S).getD top [] = S.getD top [] := by rw [r.2, if_neg (by simp)]
 have e3 : fH (dR top j k S) k j = fH S k j := by unfold fH; rw [e1]
 rw [dR, e1, e2, e3]
 by_cases h0 : fH S k j = 0
 ·rw [if_neg (fun h => h.2 h0), h0]
  have e4 : Gf.lJ (S.getD k []) 0 (S.getD top []) = S.getD k [] := by
   refine List.ext_getElem? fun p => ?_
   unfold Gf.lJ;rw [List.getElem?_zipWith];have WT := h.wid k hk;have hw2 := h.wid top ht
   rcases Nat.lt_or_ge p c with hp | hp
   ·rw [List.getElem?_eq_getElem (by omega), List.getElem?_eq_getElem (by omega)]
    simp [Gf.cC, Gf.add_zero]
   ·rw [List.getElem?_eq_none (by omega), List.getElem?_eq_none (by omega)]
  rw [e4, ← e1];refine y6 (by rw [List.length_set]; exact r.1.len) r.1.len fun q hq => ?_
  rw [gK (by rw [r.1.len]; exact hk)]
  split
  ·next e => rw [e]
  ·rfl
 ·rw [if_pos ⟨hkt, h0⟩]
theorem Q0 {top j : Nat} {S : List (List UInt8)} : dR top j (top + 1) S = dR top j top S := by rw [dR, if_neg (by simp)]
def lP (row T : List UInt8) (x : UInt8) (l : Nat) : List UInt8 := (Gf.lJ row x T).take l ++ row.drop l
theorem FB {row T : List UInt8} {x : UInt8} {c l : Nat} (h1 : row.length = c) (h2 : T.length = c) (hl : l ≤ c) : (lP row T x l).length = c := by
 unfold lP;rw [List.length_append, List.length_take, List.length_drop, oV x (by omega)];omega
theorem LM (row T : List UInt8) (x : UInt8) : lP row T x 0 = row := by simp [lP]
theorem PC {row T : List UInt8} {x : UInt8} {c : Nat} (h1 : row.length = c) (h2 : T.length = c) : lP row T x c = Gf.lJ row x T := by
 unfold lP;rw [List.take_of_length_le (by rw [oV x (by omega)]; omega), List.drop_eq_nil_of_le (by omega), List.append_nil]
theorem SG {row T : List UInt8} {x : UInt8} {c l : Nat} (h1 : row.length = c) (h2 : T.length = c) (hl : l < c) : (lP row T x l).getD l 0 = row.getD l 0 := by
 unfold lP;rw [List.getD_eq_getElem?_getD, List.getElem?_append_right (by rw [List.length_take, oV x (by omega)]; omega), List.length_take, oV x (by omega), Nat.min_eq_left (by omega), Nat.sub_self, List.getElem?_drop, Nat.add_zero, ← List.getD_eq_getElem?_getD]
theorem LN {row T : List UInt8} {x : UInt8} {c l : Nat} (h1 : row.length = c) (h2 : T.length = c) (hl : l < c) : (lP row T x l).set l (Gf.add (row.getD l 0) (Gf.mul x (T.getD l 0))) = lP row T x (l + 1) := by
 have hm : (Gf.lJ row x T).length = c := by rw [oV x (by omega)]; exact h1
 have e := NJ x (show row.length = T.length by omega) l;rw [List.getD_eq_getElem?_getD, List.getElem?_eq_getElem (by omega : l < (Gf.lJ row x T).length)] at e;simp only [Option.getD_some] at e;unfold lP;rw [List.set_append_right _ _ (by rw [List.length_take, hm]; omega), List.length_take, hm, Nat.min_eq_left (by omega), Nat.sub_self, List.drop_eq_getElem_cons (by omega : l < row.length), cQ, List.take_succ_eq_append_getElem (by omega), List.append_assoc, ← e];rfl
theorem J6 {α : Type} (C B : List α) (off m n : Nat) (hB : B.length = m) (h1 : off + m ≤ n) (h2 : n ≤ C.length) :
  (C.take off ++ (B ++ C.drop (off + m))).take n = (C.take n).take off ++ (B ++ (C.take n).drop (off + m)) := by
 refine List.ext_getElem? fun p => ?_
 rw [List.getElem?_take, List.getElem?_append, List.getElem?_append, List.getElem?_append, List.getElem?_append, List.length_take, List.length_take, List.length_take, hB];simp only [List.getElem?_take, List.getElem?_drop];have e1 : min off C.length = off := by omega
 have e2 : min off (min n C.length) = off := by omega
 rw [e1, e2]
 by_cases h3 : p < off
 ·rw [if_pos (by omega), if_pos h3, if_pos h3, if_pos h3, if_pos h3, if_pos (by omega)]
 ·by_cases h4 : p - off < m
  ·rw [if_pos (by omega), if_neg h3, if_neg h3, if_pos h4, if_pos h4]
  ·rw [if_neg h3, if_neg h3, if_neg h4, if_neg h4]
   by_cases h5 : p < n
   ·rw [if_pos h5, if_pos (by omega)]
   ·rw [if_neg h5, if_neg (by omega)]
theorem EJ (W : World) (ty : TypeId) (g off dl dc m sc base n cap : Nat) (sp : Option Addr) (cur ss : List UInt8) (hg : eI W base (some ⟨g, 0, none⟩) n cap cur) (hr : Rd W W.heap.size sp m (dF ss)) (hm0 : 0 < m) (hml : m ≤ dl) (hfit : off + m ≤ n) :
  ∃ w', (Builtin.copy_ #[22, 22] ty #[.slice (some ⟨g, off, none⟩) dl dc, .slice sp m sc]).run Try.prog W = .ok (goInt m) w' ∧ eI w' base (some ⟨g, 0, none⟩) n cap (over cur off ss) ∧ W.grownBy w' (some g) := by
 have hlm : ss.length = m := by have := hr.len; rwa [b6] at this
 obtain ⟨g2, o2, rfl, _, hc⟩ := hr.2 hm0
 rcases hg.2.2 with ⟨h0, _⟩ | ⟨g', k, cells, hv, hb, hh, hnk, hkm, hsz, htk⟩
 ·cases h0
 ·injection hv with hv1 hv2 hv3
  injection hv1 with hv1;injection hv1 with hv1;subst hv1 hv3;have hbl : (dF ss).length = m := by rw [b6, hlm]
  have hcs : cells.toList.length = cap := by simp [hsz]
  have hfit2 : off + (dF ss).length ≤ cells.size := by rw [hbl, hsz]; omega
  have hrun := run_copy_row (P := Try.prog) W 22 22 ty 5 g off dl dc ⟨g2, o2, none⟩ m sc cells 5 (dF ss) Try.underlying22 GF hh (by rw [hbl]; exact (Nat.min_eq_left hml).symm)
   (fun j v hj => by rw [nN]; exact hc j v hj) hfit2 (fun v hv => BK hv)
  rw [hbl] at hrun;have hol : (over cur off ss).length = n := by rw [AL (by rw [hlm, hg.1]; omega)]; exact hg.1
  rw [List.append_assoc] at hrun;refine ⟨_, hrun, ⟨hol, by rw [b6, hol]; omega, .inr ⟨g, cap, _, rfl, hb, setRow_heap W g _ _ 5 (0, 0) hh, hnk, hkm, ?_, ?_⟩⟩, ⟨rfl, rfl, rfl, by simp [World.setRow], fun k hk hne => setRow_other W g k _ (fun e => hne (by rw [e]))⟩⟩
  ·simp only [List.size_toArray, List.length_append, List.length_take, List.length_drop, hbl, hcs]; omega
  ·have htk2 : cells.toList.take n = dF cur := by simpa using htk
   rw [← JM];unfold splice;rw [hbl, ← htk2, Nat.mul_one];simp only [List.toList_toArray];exact J6 _ _ _ _ _ hbl (by omega) (by omega)
end Go.Proofs.Yteofcbkjhdadpaa
namespace Go.Proofs.Yteofcbkjhdadpaa
open Go.RowKit
theorem iW (r c : Int) (A : Option Addr) (n cap : Nat) (w : World) : Calls Try.prog 17 #[mV r c A n cap] w fun e w' => e = .returned (.bool (bC r c n)) ∧ Below w.heap.size w w' := by
 have hB : Below w.heap.size w (w.alloc (.cells #[.int .i64 r, .int .i64 c, .slice A n cap] 24)) := (Below.refl _ _).alloc (Nat.le_refl _) _;have HB := Lib.hid hB;clear hB
 by_cases h1 : 0 ≤ r
 ·have d1 : decide (0 ≤ r) = true := by simpa using h1
  by_cases h2 : r ≤ 64
  ·have d2 : decide (r ≤ 64) = true := by simpa using h2
   by_cases h3 : 0 ≤ c
   ·have d3 : decide (0 ≤ c) = true := by simpa using h3
    by_cases h4 : c ≤ 64
    ·have d4 : decide (c ≤ 64) = true := by simpa using h4
     obtain ⟨p, hp⟩ : ∃ p, p = r * c := ⟨_, rfl⟩
     have hb := xQ h1 h2 h3 h4;have e1 : IntKind.i64.wrap (r * c) = p := by rw [IntKind.wrap_i64, hp]; omega
     have H := Lib.hid (show bC r c n = decide ((n : Int) = p) by rw [hp]; simp [bC, h1, h2, h3, h4]);clear hb hp
     by_cases hn : (n : Int) = p
     ·have q : ((n : Int) == p) = true := by simpa using hn
      have HN := Lib.hid (show decide ((n : Int) = p) = true by simpa using hn);clear hn;go_enter Try.func17, Try.ntmps17;go_wp2_with fail
      go_ret;exact ⟨by rw [H.out, HN.out]; rfl, HB.out⟩
     ·have q : ((n : Int) == p) = false := by simpa using hn
      have HN := Lib.hid (show decide ((n : Int) = p) = false by simpa using hn);clear hn;go_enter Try.func17, Try.ntmps17;go_wp2_with fail
      go_ret;exact ⟨by rw [H.out, HN.out]; rfl, HB.out⟩
    ·have d4 : decide (c ≤ 64) = false := by simpa using h4
     have H := Lib.hid (show bC r c n = false by simp [bC, h4]);go_enter Try.func17, Try.ntmps17;go_wp2_with fail
     go_ret;exact ⟨by rw [H.out]; rfl, HB.out⟩
   ·have d3 : decide (0 ≤ c) = false := by simpa using h3
    have H := Lib.hid (show bC r c n = false by simp [bC, h3]);go_enter Try.func17, Try.ntmps17;go_wp2_with fail
    go_ret;exact ⟨by rw [H.out]; rfl, HB.out⟩
  ·have d2 : decide (r ≤ 64) = false := by simpa using h2
   have H := Lib.hid (show bC r c n = false by simp [bC, h2]);go_enter Try.func17, Try.ntmps17;go_wp2_with fail
   go_ret;exact ⟨by rw [H.out]; rfl, HB.out⟩
 ·have d1 : decide (0 ≤ r) = false := by simpa using h1
  have H := Lib.hid (show bC r c n = false by simp [bC, h1]);go_enter Try.func17, Try.ntmps17;go_wp2_with fail
  go_ret;exact ⟨by rw [H.out]; rfl, HB.out⟩
end Go.Proofs.Yteofcbkjhdadpaa
namespace Go.Proofs.Yteofcbkjhdadpaa
open Go.RowKit
theorem yM (r c i j k : Nat) (A : Option Addr) (n cap : Nat) (xs : List UInt8) (w : World) (hr : Rd w w.heap.size A n (dF xs)) (hk : Hid (k = i * c)) (hkj : k + j < n) (hn : n ≤ 4096) :
  Calls Try.prog 25 #[mV r c A n cap, .int .i64 (i : Int), .int .i64 (j : Int)] w fun e w' => e = .returned (.int .u8 ((xs.getD (k + j) 0).toNat : Int)) ∧ Below w.heap.size w w' := by
 have e1 : IntKind.i64.wrap ((i : Int) * (c : Int)) = (k : Int) := by rw [← Int.natCast_mul, ← hk.out, IntKind.wrap_i64]; omega
 have hB : Below w.heap.size w (w.alloc (Obj.cells #[.int .i64 (r : Int), .int .i64 (c : Int), .slice A n cap] 24)) := (Below.refl _ _).alloc (Nat.le_refl _) _;obtain ⟨g, o, rfl, hg, hcell⟩ := jS (hr.below hB (Nat.le_refl _)) hkj;have HB := Lib.hid hB;have HR := Lib.hid hr;obtain ⟨x, hx⟩ : ∃ x, x = xs.getD (k + j) 0 := ⟨_, rfl⟩
 rw [← hx] at hcell ⊢;have hcell2 := (World.cell?_alloc_lt w (Obj.cells #[.int .i64 (r : Int), .int .i64 (c : Int), .slice (some ⟨g, o, none⟩) n cap] 24) ⟨g, o + (k + j), none⟩ (by omega)).symm.trans hcell;clear hx hB hr hcell;go_enter Try.func25, Try.ntmps25;go_wp2_with fail
 go_ret;exact ⟨rfl, HB.out⟩
end Go.Proofs.Yteofcbkjhdadpaa
namespace Go.Proofs.Yteofcbkjhdadpaa
open Go.RowKit
def wD (rt : Bool) (r i : Int) : Int := if rt = false then 3 else if 0 ≤ i ∧ i < r then 0 else 2
def OY (rt : Bool) (r c i : Int) (xs : List UInt8) : List UInt8 := if wD rt r i = 0 then (xs.drop (i.toNat * c.toNat)).take c.toNat else []
def IY (r c i : Int) (n : Nat) (xs : List UInt8) (w : World) (e : Ending) (w' : World) : Prop :=
 ∃ A' n' cap', e = .returned (.tuple #[.slice A' n' cap', .int .i64 (wD (bC r c n) r i)]) ∧ eI w' w.heap.size A' n' cap' (OY (bC r c n) r c i xs) ∧ Below w.heap.size w w'
theorem sP {r c i : Int} {n : Nat} {xs : List UInt8} {w w' : World} {E : Int} (h : wD (bC r c n) r i = E) (hE : E ≠ 0) (hb : Below w.heap.size w w') :
  IY r c i n xs w (.returned (.tuple #[.slice none 0 0, .int .i64 E])) w' := by
 refine ⟨none, 0, 0, by rw [h], ?_, hb⟩;unfold OY; rw [h, if_neg hE]; exact ⟨rfl, rfl, .inl ⟨rfl, rfl⟩⟩
theorem LA {r c : Int} {n : Nat} (hrt : bC r c n = true) : ∃ a b : Nat, r = a ∧ c = b ∧ a ≤ 64 ∧ b ≤ 64 ∧ n = a * b := by
 simp [bC] at hrt
 refine ⟨r.toNat, c.toNat, by omega, by omega, by omega, by omega, ?_⟩;apply Int.ofNat_inj.1;rw [Int.natCast_mul, Int.toNat_of_nonneg hrt.1.1, Int.toNat_of_nonneg hrt.2.1.1];exact hrt.2.2
theorem OX (xs : List UInt8) {k c j : Nat} (hj : j < c) (hk : k + c ≤ xs.length) : ((xs.drop k).take c).take j ++ [xs.getD (k + j) 0] = ((xs.drop k).take c).take (j + 1) := by
 have hl : j < ((xs.drop k).take c).length := by rw [List.length_take, List.length_drop]; omega
 rw [List.take_succ_eq_append_getElem hl]
 congr 2
 have : k + j < xs.length := by omega
 simp [List.getD, this]
theorem xN (r c i : Int) (A : Option Addr) (n cap : Nat) (xs : List UInt8) (w : World) (hr : Rd w w.heap.size A n (dF xs)) :
  Calls Try.prog 54 #[mV r c A n cap, .int .i64 i] w (IY r c i n xs w) := by
 have yP := Lib.hid (Row.new w [.int .i64 r, .int .i64 c, .slice A n cap] 24);have HB := Lib.hid (show Below w.heap.size w (w.alloc (.cells #[.int .i64 r, .int .i64 c, .slice A n cap] 24)) from (Below.refl _ _).alloc (Nat.le_refl _) _)
 by_cases hrt : bC r c n = true
 ·obtain ⟨rr, cc, rfl, rfl, hr64, hc64, hnrc⟩ := LA hrt
  have HN := Lib.hid hnrc;have HRT := Lib.hid hrt;have lY := Lib.hid (fun w => iW rr cc A n cap w);rw [hrt] at lY;have hn4 : n ≤ 4096 := by rw [hnrc]; exact Nat.le_trans (Nat.mul_le_mul hr64 hc64) (by omega)
  clear hnrc hrt
  by_cases h1 : i < 0
  ·have HE := Lib.hid (show wD (bC rr cc n) rr i = 2 by simp [wD, HRT.out]; omega)
   have d1 : decide (i < 0) = true := by simpa using h1
   go_enter Try.func54, Try.ntmps54;go_wp2_with (go_at_call 17; refine (lY.out _).mono ?_; rintro e w1 ⟨rfl, hb1⟩; obtain ⟨KU, FV, ZU, f20, f21, f22⟩ := (yP.out.below hb1 (by simp)).three)
   go_ret2
   exact sP HE.out (by omega) (HB.out.trans (hb1.mono HB.out.size))
  have d1 : decide (i < 0) = false := by simpa using h1
  by_cases h2 : (rr : Int) ≤ i
  ·have HE := Lib.hid (show wD (bC rr cc n) rr i = 2 by simp [wD, HRT.out]; omega)
   have d2 : decide ((rr : Int) ≤ i) = true := by simpa using h2
   go_enter Try.func54, Try.ntmps54;go_wp2_with (go_at_call 17; refine (lY.out _).mono ?_; rintro e w1 ⟨rfl, hb1⟩; obtain ⟨KU, FV, ZU, f20, f21, f22⟩ := (yP.out.below hb1 (by simp)).three)
   go_ret2
   exact sP HE.out (by omega) (HB.out.trans (hb1.mono HB.out.size))
  have d2 : decide ((rr : Int) ≤ i) = false := by simpa using h2
  obtain ⟨ii, rfl⟩ : ∃ ii : Nat, i = ii := ⟨i.toNat, by omega⟩
  have hir : ii < rr := by omega
  have d3 : decide (rr ≤ ii) = false := by simpa using hir
  have HE := Lib.hid (show wD (bC rr cc n) rr (ii : Int) = 0 by simp [wD, HRT.out]; omega);obtain ⟨k, hk⟩ : ∃ k, k = ii * cc := ⟨_, rfl⟩
  have hkn : k + cc ≤ n := by
   have h1 : (ii + 1) * cc ≤ rr * cc := Nat.mul_le_mul_right cc hir;rw [Nat.add_mul, ← hk] at h1;rw [HN.out]; omega
  have HK := Lib.hid hk;have hx : xs.length = n := by have := hr.len; rw [b6] at this; exact this
  have HX := Lib.hid hx;have HRow := Lib.hid (show ((xs.drop k).take cc).length = cc by rw [List.length_take, List.length_drop, hx]; omega);clear hk h1 h2 hx;go_enter Try.func54, Try.ntmps54;go_wp2_with (go_at_call 17; refine (lY.out _).mono ?_; rintro e w1 ⟨rfl, hb1⟩; have b2 := yP.out.below hb1 (by simp); have hB := HB.out.trans (hb1.mono HB.out.size); obtain ⟨KU, FV, ZU, f20, f21, f22⟩ := b2.three)
  have HB2' := Lib.hid b2;have HB' := Lib.hid hB;clear b2 hB KU FV ZU f20 f21 f22 hb1 d1 d2 d3 HB yP
  go_loopw [6, 7] (fun v6 v7 wr => ∃ j : Nat, j ≤ cc ∧ v7 = .int .i64 (j : Int) ∧ iZ wr (w.heap.size + 1) v6 (((xs.drop k).take cc).take j) ∧ Row wr w.heap.size 24 [.int .i64 (rr : Int), .int .i64 (cc : Int), .slice A n cap] ∧ Below w.heap.size w wr) (fun _ v7 _ => cc - (intOf v7).toNat)
  case atStart => exact ⟨0, by omega, rfl, by rw [List.take_zero]; exact iZ.nil _ _, HB2'.out, HB'.out⟩
  case round =>
   obtain ⟨j, hj, rfl, ho, b2, hB⟩ := hrel;clear HB2' HB';obtain ⟨KU, FV, ZU, f20, f21, f22⟩ := b2.three
   by_cases hlj : j < cc
   ·have HST := Lib.hid (OX xs (k := k) hlj (by rw [HX.out]; exact hkn))
    have HL := Lib.hid (show (((xs.drop k).take cc).take j).length = j by rw [List.length_take, HRow.out]; omega);generalize ((xs.drop k).take cc).take j = l at *;have HAT := Lib.hid (fun w (h : Rd w w.heap.size A n (dF xs)) => yM rr cc ii j k A n cap xs w h HK (by omega) hn4);generalize xs.getD (k + j) 0 = x at *;have HO := Lib.hid ho;have HBB := Lib.hid hB;have RR := (hr.below hB (Nat.le_refl _)).more hB.size;have l2 := b2.lt;clear ho hB;go_wp2_with (first | (go_at_call 25; refine (HAT.out _ RR).mono ?_; rintro e w2 ⟨rfl, hb2⟩; have o2 := HO.out.below hb2; have b22 := b2.below hb2 b2.lt; have hB2 := HBB.out.trans (hb2.mono HBB.out.size)) | (at_builtin; refine lG (.tmp 25) (.tmp 30) rfl rfl (w.heap.size + 1) _ l x rfl o2 rfl (by rw [HL.out]; omega) b22.lt ?_; intro v1 w3 ho3 hb3 hg3))
    go_roundw
    case rel => exact ⟨j + 1, by omega, by go_num, by rw [← HST.out]; exact ho3, b22.of_block (hg3.block _ b22.lt (fun e => by have := o2.yL _ e.symm; omega)), hB2.trans (hb3.mono (by omega))⟩
    case measure => simp [intOf]; omega
   ·obtain rfl : j = cc := by omega
    rw [List.take_of_length_le (by rw [HRow.out]; omega)] at ho;obtain ⟨A1, c1, rfl, ho1⟩ := ho.L6 HRow.out;go_wp2_with fail
    go_ret2
    refine ⟨A1, j, c1, by rw [HE.out]; rfl, ?_, hB⟩;unfold OY;rw [HE.out, if_pos rfl, Int.toNat_natCast, Int.toNat_natCast, ← HK.out];exact ho1.mono (by omega)
 ·have hrt : bC r c n = false := by simpa using hrt
  have HE := Lib.hid (show wD (bC r c n) r i = 3 by simp [wD, hrt]);have lY := Lib.hid (fun w => iW r c A n cap w);rw [hrt] at lY;clear hrt;go_enter Try.func54, Try.ntmps54;go_wp2_with (go_at_call 17; refine (lY.out _).mono ?_; rintro e w1 ⟨rfl, hb1⟩)
  go_ret2
  exact sP HE.out (by omega) (HB.out.trans (hb1.mono HB.out.size))
end Go.Proofs.Yteofcbkjhdadpaa
namespace Go.Proofs.Yteofcbkjhdadpaa
open Go.RowKit
theorem EL (r c : Int) (A : Option Addr) (n cap : Nat) (xs : List UInt8) (Az : Option Addr) (nz capz : Nat) (zs : List Int) (w : World) (hr : Rd w w.heap.size A n (dF xs)) (hz : Rd w w.heap.size Az nz (E0 zs)) (hnz : nz ≤ 140737488355328) :
  Calls Try.prog 22 #[mV r c A n cap, .slice Az nz capz] w (tD r c n xs zs w) := by
 have hlz : zs.length = nz := by have := hz.len; rw [jF] at this; exact this
 have HLZ := Lib.hid hlz;clear hlz;have b2 := (Row.new w [.int .i64 r, .int .i64 c, .slice A n cap] 24).alloc (.cells #[.int .i64 0, .int .i64 0, .slice none 0 0] 24);have b4 := Row.new (w.alloc (.cells #[.int .i64 r, .int .i64 c, .slice A n cap] 24)) [.int .i64 0, .int .i64 0, .slice none 0 0] 24;rw [World.size_alloc] at b4;have hB : Below w.heap.size w ((w.alloc (.cells #[.int .i64 r, .int .i64 c, .slice A n cap] 24)).alloc (.cells #[.int .i64 0, .int .i64 0, .slice none 0 0] 24)) := ((Below.refl _ _).alloc (Nat.le_refl _) _).alloc (by simp) _;have yP := Lib.hid b2;have MO := Lib.hid b4;have HB := Lib.hid hB;clear b2 b4 hB
 by_cases hrt : bC r c n = true
 ·obtain ⟨rr, cc, rfl, rfl, hr64, hc64, hnrc⟩ : ∃ a b : Nat, r = a ∧ c = b ∧ a ≤ 64 ∧ b ≤ 64 ∧ n = a * b := by
   simp [bC] at hrt
   refine ⟨r.toNat, c.toNat, by omega, by omega, by omega, by omega, ?_⟩;apply Int.ofNat_inj.1;rw [Int.natCast_mul, Int.toNat_of_nonneg hrt.1.1, Int.toNat_of_nonneg hrt.2.1.1];exact hrt.2.2
  have HN := Lib.hid hnrc;have HRT := Lib.hid hrt;have lY := Lib.hid (fun w => iW rr cc A n cap w);rw [hrt] at lY;clear hnrc hrt;go_enter Try.func22, Try.ntmps22;go_wp2_with (go_at_call 17; refine (lY.out _).mono ?_; rintro e w1 ⟨rfl, hb1⟩; have b2 := yP.out.below hb1 (by simp; omega); have b4 := MO.out.below hb1 (by simp); have hB := HB.out.trans (hb1.mono HB.out.size); have HB2' := Lib.hid b2; have HB4' := Lib.hid b4; have HB' := Lib.hid hB; clear b2 b4 hB)
  clear yP MO HB lY hb1
  go_loopw [6] (fun v17 wr => ∃ i : Nat, i ≤ nz ∧ v17 = .int .i64 (i : Int) ∧ Hid (∀ k, k < i → 0 ≤ zs.getD k 0 ∧ zs.getD k 0 < (rr : Int)) ∧ Row wr w.heap.size 24 [.int .i64 (rr : Int), .int .i64 (cc : Int), .slice A n cap] ∧ Row wr (w.heap.size + 1) 24 [.int .i64 0, .int .i64 0, .slice none 0 0] ∧ Below w.heap.size w wr) (fun v17 _ => nz - (intOf v17).toNat)
  case atStart => exact ⟨0, by omega, rfl, fun k hk => by omega, HB2'.out, HB4'.out, HB'.out⟩
  case round =>
   obtain ⟨i, hi, rfl, HG, b2, b4, hB⟩ := hrel;clear HB2' HB4' HB';obtain ⟨KU, FV, ZU, f20, f21, f22⟩ := b2.three;obtain ⟨KT, EW, KS, f40, f41, f42⟩ := b4.three
   by_cases hlt : i < nz
   ·obtain ⟨g, o, rfl, hg, hcell⟩ := GV (hz.below hB (Nat.le_refl _)) hlt
    obtain ⟨z, hzi⟩ : ∃ z, z = zs.getD i 0 := ⟨_, rfl⟩
    rw [← hzi] at hcell;have HZI := Lib.hid hzi;clear hzi
    by_cases h1 : z < 0
    ·have HE := Lib.hid (show iK (bC rr cc n) rr zs = 2 by
      have hn : jT rr zs = false := by
       by_cases h : jT rr zs = true
       ·have := mQ h (k := i) (by rw [HLZ.out]; exact hlt); rw [← HZI.out] at this; omega
       ·simpa using h
      simp [iK, HRT.out, hn])
     have d1 : decide (z < 0) = true := by simpa using h1
     go_wp2_with fail
     go_quiet (fail)
     go_wp2_with fail
     exact bodyPost_ret (v := .tuple #[mV 0 0 none 0 0, .int .i64 2]) (by simp [results, Try.results22, go_sem, KT, EW, KS, f40, f41, f42]) rfl (iJ HE.out (by omega) (bM (below_drewN hB _) (by omega) _ _ _))
    ·have d1 : decide (z < 0) = false := by simpa using h1
     by_cases h2 : (rr : Int) ≤ z
     ·have HE := Lib.hid (show iK (bC rr cc n) rr zs = 2 by
       have hn : jT rr zs = false := by
        by_cases h : jT rr zs = true
        ·have := mQ h (k := i) (by rw [HLZ.out]; exact hlt); rw [← HZI.out] at this; omega
        ·simpa using h
       simp [iK, HRT.out, hn])
      have d2 : decide ((rr : Int) ≤ z) = true := by simpa using h2
      go_wp2_with fail
      go_quiet (fail)
      go_wp2_with fail
      exact bodyPost_ret (v := .tuple #[mV 0 0 none 0 0, .int .i64 2]) (by simp [results, Try.results22, go_sem, KT, EW, KS, f40, f41, f42]) rfl (iJ HE.out (by omega) (bM (below_drewN hB _) (by omega) _ _ _))
     ·have d2 : decide ((rr : Int) ≤ z) = false := by simpa using h2
      have HZ := Lib.hid (show 0 ≤ z ∧ z < (rr : Int) by omega);go_wp2_with fail
      go_quiet (fail)
      go_wp2_with fail
      go_roundw
      case rel => exact ⟨i + 1, by omega, by go_num, fun k hk => by
       by_cases e : k = i
       ·rw [e, ← HZI.out]; exact HZ.out
       ·exact HG.out k (by omega), b2.drewN _, b4.drewN _, below_drewN hB _⟩
      case measure => simp [intOf]; omega
   ·obtain rfl : i = nz := by omega
    have HROWS := Lib.hid (xM (r := (rr : Int)) (zs := zs) (by rw [HLZ.out]; exact HG.out));clear HG;have l2 := b2.lt;have l4 := b4.lt
    by_cases h64 : 64 < i
    ·have HE := Lib.hid (show iK (bC rr cc n) rr zs = 4 by
      simp [iK, HRT.out, HROWS.out, HLZ.out]; omega)
     go_wp2_with fail
     exact bodyPost_ret (v := .tuple #[mV 0 0 none 0 0, .int .i64 4]) (by simp [results, Try.results22, go_sem, KT, EW, KS, f40, f41, f42]) rfl (iJ HE.out (by omega) (bM hB (by omega) _ _ _))
    ·have HE := Lib.hid (show iK (bC rr cc n) rr zs = 0 by
      simp [iK, HRT.out, HROWS.out, HLZ.out]; omega)
     obtain ⟨wo, rfl⟩ : ∃ wo : World, wo = wr := ⟨_, rfl⟩
     have V9 := Lib.hid (Row.new wo [.int .i64 (i : Int), .int .i64 (cc : Int), .slice none 0 0] 24);have yP := Lib.hid (b2.alloc (.cells #[.int .i64 (i : Int), .int .i64 (cc : Int), .slice none 0 0] 24));have MO := Lib.hid (b4.alloc (.cells #[.int .i64 (i : Int), .int .i64 (cc : Int), .slice none 0 0] 24));have HB := Lib.hid (hB.alloc hB.size (.cells #[.int .i64 (i : Int), .int .i64 (cc : Int), .slice none 0 0] 24));have hsB : w.heap.size ≤ wo.heap.size := hB.size;clear b2 b4 hB;go_wp2_with fail
     go_loopw [8, 9] (fun v8 v9 wr => ∃ (j : Nat) (v : Value), j ≤ i ∧ v8 = .int .i64 (j : Int) ∧ iZ wr (wo.heap.size + 1) v (j7 cc xs (zs.take j)) ∧ Row wr w.heap.size 24 [.int .i64 (rr : Int), .int .i64 (cc : Int), .slice A n cap] ∧ Row wr wo.heap.size 24 [.int .i64 (i : Int), .int .i64 (cc : Int), v] ∧ Row wr (w.heap.size + 1) 24 [.int .i64 0, .int .i64 0, .slice none 0 0] ∧ Below w.heap.size w wr) (fun v8 _ _ => i - (intOf v8).toNat)
     case atStart => exact ⟨0, .slice none 0 0, by omega, rfl, iZ.nil _ _, yP.out, V9.out, MO.out, HB.out⟩
     case round =>
      obtain ⟨j, v, hj, rfl, ho, b2, b8, b4, hB⟩ := hrel;clear yP V9 MO HB
      by_cases hlj : j < i
      ·obtain ⟨g, o, rfl, hg, hcell⟩ := GV hz hlj
       have hzb := mQ HROWS.out (k := j) (by rw [HLZ.out]; exact hlj);obtain ⟨z, hzi⟩ : ∃ z : Nat, zs.getD j 0 = z := ⟨(zs.getD j 0).toNat, by omega⟩
       rw [hzi] at hcell hzb;have hzr : z < rr := by omega
       have HSN := Lib.hid (zI (c := cc) (xs := xs) (zs := zs) (i := j) (by rw [HLZ.out]; exact hlj));rw [hzi, Int.toNat_natCast] at HSN;have HROWD := Lib.hid (show OY (bC rr cc n) rr cc (z : Int) xs = (xs.drop (z * cc)).take cc by
        have h : wD (bC rr cc n) rr (z : Int) = 0 := by simp [wD, HRT.out]; omega
        unfold OY;rw [h, if_pos rfl, Int.toNat_natCast, Int.toNat_natCast])
       have HLEN := Lib.hid (show (j7 cc xs (zs.take j)).length + n ≤ 140737488355328 ∧ ((xs.drop (z * cc)).take cc).length ≤ n by
        have h1 : jT (rr : Int) (zs.take j) = true := by
         have h0 := HROWS.out;unfold jT at h0 ⊢;rw [List.all_eq_true] at h0 ⊢;exact fun z hz => h0 z (List.mem_of_mem_take hz)
        have hx : xs.length = rr * cc := by have := hr.len; rw [b6] at this; rw [this, HN.out]
        rw [xR hx h1, List.length_take, HLZ.out, Nat.min_eq_left (by omega)];have h2 : j * cc ≤ 64 * 64 := Nat.mul_le_mul (by omega) hc64;have h3 : n ≤ 64 * 64 := by rw [HN.out]; exact Nat.mul_le_mul hr64 hc64
        exact ⟨by omega, by rw [List.length_take, List.length_drop, hx, HN.out]; omega⟩)
       generalize j7 cc xs (zs.take j) = D at *;generalize (xs.drop (z * cc)).take cc = row at *;obtain ⟨P, hP⟩ : ∃ P : World → Prop, P = fun x => Below w.heap.size w x ∧ Row x w.heap.size 24 [.int .i64 (rr : Int), .int .i64 (cc : Int), .slice A n cap] ∧ Row x wo.heap.size 24 [.int .i64 (i : Int), .int .i64 (cc : Int), v] ∧ Row x (w.heap.size + 1) 24 [.int .i64 0, .int .i64 0, .slice none 0 0] ∧ iZ x (wo.heap.size + 1) v D := ⟨_, rfl⟩
       have hp0 : P wr := by rw [hP]; exact ⟨hB, b2, b8, b4, ho⟩
       have HG := Lib.hid (show ∀ x y : World, P x → Below x.heap.size x y → P y by
        rw [hP];rintro x y ⟨q1, q2, q3, q4, q5⟩ hb;exact ⟨q1.trans (hb.mono q1.size), q2.below hb q2.lt, q3.below hb q3.lt, q4.below hb q4.lt, q5.below hb⟩)
       have HD := Lib.hid (show ∀ x : World, P x → P x.drew by rw [hP]; exact fun x q => ⟨q.1.drew, q.2⟩);have HC := Lib.hid (show ∀ w' : World, P w' → w'.cell? ⟨w.heap.size, 0, none⟩ = some (.int .i64 (rr : Int)) ∧ w'.cell? ⟨w.heap.size, 1, none⟩ = some (.int .i64 (cc : Int)) ∧ w'.cell? ⟨w.heap.size, 2, none⟩ = some (.slice A n cap) ∧ w'.cell? ⟨g, o + j, none⟩ = some (.int .i64 (z : Int)) by
        rw [hP];rintro x ⟨q1, q2, q3, q4, _⟩;exact ⟨q2.cell 0, q2.cell 1, q2.cell 2, (q1.cell (p := ⟨g, o + j, none⟩) hg).trans hcell⟩)
       have HBEL := Lib.hid (show ∀ x : World, P x → Below w.heap.size w x by rw [hP]; exact fun x q => q.1);have HALL := Lib.hid (show ∀ x : World, P x → Below w.heap.size w x ∧ Row x w.heap.size 24 [.int .i64 (rr : Int), .int .i64 (cc : Int), .slice A n cap] ∧ Row x wo.heap.size 24 [.int .i64 (i : Int), .int .i64 (cc : Int), v] ∧ Row x (w.heap.size + 1) 24 [.int .i64 0, .int .i64 0, .slice none 0 0] ∧ iZ x (wo.heap.size + 1) v D by rw [hP]; exact fun x q => q);clear hP b2 b8 b4 hB ho hcell hzi;go_wp2_with fail
       have hc := HC.out _ hp0
       go_region_held3 (fun w' => P w' ∧ w'.cell? ⟨w.heap.size, 0, none⟩ = some (.int .i64 (rr : Int)) ∧ w'.cell? ⟨w.heap.size, 1, none⟩ = some (.int .i64 (cc : Int)) ∧ w'.cell? ⟨w.heap.size, 2, none⟩ = some (.slice A n cap) ∧ w'.cell? ⟨g, o + j, none⟩ = some (.int .i64 (z : Int)))
        (first | (go_split_ands; have q := HG.out _ _ (by assumption) hbk; exact ⟨q, HC.out _ q⟩) | (go_split_ands; have q := HD.out _ (by assumption); exact ⟨q, HC.out _ q⟩))
        (first | (go_at_call 54; (try go_split_ands); refine (xN (rr : Int) (cc : Int) (z : Int) A n cap xs _ ?_).mono ?_; exact (hr.below (HBEL.out _ (by assumption)) (Nat.le_refl _)).more (HBEL.out _ (by assumption)).size; rintro e wk ⟨A1, n1, c1, rfl, hro, hbk⟩))
       go_split_ands;obtain ⟨hB, b2, b8, b4, ho⟩ := HALL.out wk (by assumption);rw [HROWD.out] at hro;have hrol := hro.1;obtain ⟨q80, q81, q82, p80, p81, p82⟩ := b8.three;have l8 := b8.lt;have hn1 : n1 ≤ n := by have := HLEN.out.2; omega
       go_wp2_with (at_builtin; refine qG (.tmp 61) (.tmp 62) rfl rfl (wo.heap.size + 1) v D row rfl ho wk.heap.size A1 n1 c1 rfl hro.rd (by have := HLEN.out.1; omega) l8 ?_; intro v1 w3 ho3 hg3 hat3; obtain ⟨A3, c3, rfl, hob3⟩ := ho3.slice; have b83 := b8.of_block (hg3.block _ b8.lt (fun e => by have := ho.yL _ e.symm; omega)); obtain ⟨r80, r81, r82, s80, s81, s82⟩ := b83.three)
       go_roundw
       case rel =>
        refine ⟨j + 1, .slice A3 (D ++ row).length c3, by omega, by go_num, ?_, ?_, ?_, ?_, ?_⟩
        ·rw [HSN.out]; exact (hob3.wN (p := ⟨wo.heap.size, 2, none⟩) (by simp) _).2
        ·exact (b2.of_block (hg3.block _ b2.lt (fun e => by have := ho.yL _ e.symm; omega))).wN (by simp; omega) _
        ·rw [List.length_append, hrol]; exact b83.set 2 _
        ·exact (b4.of_block (hg3.block _ b4.lt (fun e => by have := ho.yL _ e.symm; omega))).wN (by simp; omega) _
        ·exact (hB.trans (pM hg3 hB.size (fun k e => by have := ho.yL _ e; omega))).setCell (by simp; omega) _
       case measure => simp [intOf]; omega
      ·obtain rfl : j = i := by omega
       obtain ⟨KT, EW, KS, f40, f41, f42⟩ := b4.three;obtain ⟨c80, c81, c82, _, _, _⟩ := b8.three;rw [List.take_of_length_le (by rw [HLZ.out]; omega)] at ho;obtain ⟨A1, c1, rfl, ho1⟩ := ho.slice;go_wp2_with fail
       refine bodyPost_ret (v := .tuple #[mV j cc A1 (j7 cc xs zs).length c1, .int .i64 0]) (by simp [results, Try.results22, go_sem, KT, EW, KS, f40, f41, f42]) rfl ?_;refine ⟨A1, (j7 cc xs zs).length, c1, ?_, ?_, bM hB (by omega) _ _ _⟩
       ·unfold pkR pkC
        rw [HE.out, if_pos rfl, if_pos rfl, HLZ.out]
       ·unfold W6
        rw [HE.out, if_pos rfl, Int.toNat_natCast];exact (ho1.vK (by omega) _ _ _).mono (by omega)
 ·have hrt : bC r c n = false := by simpa using hrt
  have HE := Lib.hid (show iK (bC r c n) r zs = 3 by simp [iK, hrt]);have lY := Lib.hid (fun w => iW r c A n cap w);rw [hrt] at lY;clear hrt;go_enter Try.func22, Try.ntmps22;go_wp2_with (go_at_call 17; refine (lY.out _).mono ?_; rintro e w1 ⟨rfl, hb1⟩; have b4 := MO.out.below hb1 (by simp); have hB := HB.out.trans (hb1.mono HB.out.size); obtain ⟨KT, EW, KS, f40, f41, f42⟩ := b4.three)
  exact bodyPost_ret (v := .tuple #[mV 0 0 none 0 0, .int .i64 3]) (by simp [results, Try.results22, go_sem, KT, EW, KS, f40, f41, f42]) rfl (iJ HE.out (by omega) (bM hB (by omega) _ _ _))
end Go.Proofs.Yteofcbkjhdadpaa
namespace Go.Proofs.Yteofcbkjhdadpaa
open Go.RowKit
theorem tU (a : Nat) (ha : a < 9223372036854775808) : (BitVec.ofInt 64 (a : Int)).toNat = a := by
 rw [BitVec.ofInt_natCast, BitVec.toNat_ofNat]; exact Nat.mod_eq_of_lt (by omega)
theorem JU (a b : Nat) (ha : a < 9223372036854775808) (hb : b < 9223372036854775808) : bits .and .i64 (a : Int) (b : Int) = ((a &&& b : Nat) : Int) := by
 have hx : a &&& b < 2 ^ 63 := Nat.and_lt_two_pow _ (by omega);show IntKind.i64.wrap ((BitVec.ofInt 64 (a : Int) &&& BitVec.ofInt 64 (b : Int)).toNat : Int) = _;rw [BitVec.toNat_and, tU a ha, tU b hb, IntKind.wrap_i64];omega
theorem AO (a b : Nat) (ha : a < 9223372036854775808) (hb : b < 9223372036854775808) : bits .xor .i64 (a : Int) (b : Int) = ((a ^^^ b : Nat) : Int) := by
 have hx : a ^^^ b < 2 ^ 63 := Nat.xor_lt_two_pow (by omega) (by omega);show IntKind.i64.wrap ((BitVec.ofInt 64 (a : Int) ^^^ BitVec.ofInt 64 (b : Int)).toNat : Int) = _;rw [BitVec.toNat_xor, tU a ha, tU b hb, IntKind.wrap_i64];omega
theorem J5 (b : UInt8) (i : Nat) : (bits BinOp.and IntKind.u8 ((b.toNat : Int) / 2 ^ i) 1 == 1) = b.toNat.testBit i := by
 have e : ((b.toNat : Int) / 2 ^ i) = ((b.toNat / 2 ^ i : Nat) : Int) := by simp
 have hb : b.toNat / 2 ^ i < 256 := Nat.lt_of_le_of_lt (Nat.div_le_self _ _) b.toNat_lt;rw [e, show (1 : Int) = ((1 : Nat) : Int) from rfl, u8_and_nat _ _ hb (by decide), Nat.and_one_is_mod, Nat.testBit_eq_decide_div_mod_eq, Bool.eq_iff_iff]
 simp
 omega
theorem F0 (p i : Nat) (hp : p < 2 ^ 15) : (bits BinOp.and IntKind.i64 ((p : Int) / 2 ^ i) 1 == 1) = p.testBit i := by
 have e : ((p : Int) / 2 ^ i) = ((p / 2 ^ i : Nat) : Int) := by simp
 have hb : p / 2 ^ i < 2 ^ 15 := Nat.lt_of_le_of_lt (Nat.div_le_self _ _) hp;rw [e, show (1 : Int) = ((1 : Nat) : Int) from rfl, JU _ _ (by omega) (by decide), Nat.and_one_is_mod, Nat.testBit_eq_decide_div_mod_eq, Bool.eq_iff_iff]
 simp
 omega
theorem N8 (a i : Nat) (ha : a < 512) (hi : i < 8) : wrap64 (wrap64 (a : Int) * 2 ^ i) = ((a <<< i : Nat) : Int) := by
 have h1 : wrap64 (a : Int) = a := by unfold wrap64; omega
 have h2 : a * 2 ^ i ≤ 512 * 2 ^ 7 := Nat.mul_le_mul (by omega) (Nat.pow_le_pow_right (by omega) (by omega));have e : (a : Int) * 2 ^ i = ((a * 2 ^ i : Nat) : Int) := by simp
 rw [h1, Nat.shiftLeft_eq, e];unfold wrap64;omega
theorem HQ {a b : Int} (h : a = b) : Value.int .i64 a = .int .i64 b := by rw [h]
theorem P2 (a b : UInt8) (i : Nat) (hi : i < 8) (h : (bits BinOp.and IntKind.u8 ((b.toNat : Int) / 2 ^ i) 1 == 1) = true) :
  bits BinOp.xor IntKind.i64 (Gf.o0 a.toNat b.toNat i : Int) (wrap64 (wrap64 (a.toNat : Int) * 2 ^ i)) = (Gf.o0 a.toNat b.toNat (i + 1) : Int) := by
 rw [J5] at h;have h1 := Gf.C3 a.toNat b.toNat a.toNat_lt i (by omega);have ha := a.toNat_lt;have h2 : a.toNat <<< i < 2 ^ 16 := by
  rw [Nat.shiftLeft_eq];have : a.toNat * 2 ^ i ≤ 255 * 2 ^ 7 := Nat.mul_le_mul (by omega) (Nat.pow_le_pow_right (by omega) (by omega));omega
 rw [N8 _ _ (by omega) hi, AO _ _ (by omega) (by omega)];simp only [Gf.o0, h, if_true]
theorem P3 (a b : UInt8) (i : Nat) (h : (bits BinOp.and IntKind.u8 ((b.toNat : Int) / 2 ^ i) 1 == 1) = false) :
  (Gf.o0 a.toNat b.toNat i : Int) = (Gf.o0 a.toNat b.toNat (i + 1) : Int) := by
 rw [J5] at h
 simp [Gf.o0, h]
theorem RY (p i : Nat) (hp : p < 2 ^ 15) (h8 : 8 ≤ i) (hi : i ≤ 14) (h : (bits BinOp.and IntKind.i64 ((p : Int) / 2 ^ i) 1 == 1) = true) :
  bits BinOp.xor IntKind.i64 (p : Int) (wrap64 (285 * 2 ^ (i - 8))) = (Gf.iX p i : Int) := by
 rw [F0 _ _ hp] at h;have e := N8 285 (i - 8) (by omega) (by omega);have e1 : wrap64 ((285 : Nat) : Int) = 285 := by unfold wrap64; omega
 rw [e1] at e;have h2 : 285 <<< (i - 8) < 2 ^ 16 := by
  rw [Nat.shiftLeft_eq];have : 285 * 2 ^ (i - 8) ≤ 285 * 2 ^ 6 := Nat.mul_le_mul (Nat.le_refl _) (Nat.pow_le_pow_right (by omega) (by omega));omega
 rw [e, AO _ _ (by omega) (by omega)];simp only [Gf.iX, h, if_true]
theorem RZ (p i : Nat) (hp : p < 2 ^ 15) (h : (bits BinOp.and IntKind.i64 ((p : Int) / 2 ^ i) 1 == 1) = false) : (p : Int) = (Gf.iX p i : Int) := by
 rw [F0 _ _ hp] at h
 simp [Gf.iX, h]
theorem mA (a b : UInt8) (w : World) :
  Calls Try.prog 24 #[.int .u8 (a.toNat : Int), .int .u8 (b.toNat : Int)] w fun e w' => e = .returned (.int .u8 ((Gf.mul a b).toNat : Int)) ∧ w = w' := by
 go_enter Try.func24, Try.ntmps24;go_wp2_with fail
 go_loop [5, 6] (fun v5 v6 => ∃ i : Nat, i ≤ 8 ∧ v5 = .int .i64 (Gf.o0 a.toNat b.toNat i : Int) ∧ v6 = .int .i64 (i : Int)) (fun _ v6 => 8 - (intOf v6).toNat)
 case atStart => exact ⟨0, by omega, rfl, rfl⟩
 case round =>
  obtain ⟨i, hi, rfl, rfl⟩ := hrel
  by_cases hlt : i < 8
  ·go_wp2_with fail
   ·go_round
    case rel => exact ⟨i + 1, by omega, HQ (P2 a b i hlt ‹_›), by go_num⟩
    case measure => simp [intOf]; omega
   ·go_round
    case rel => exact ⟨i + 1, by omega, HQ (P3 a b i ‹_›), by go_num⟩
    case measure => simp [intOf]; omega
  ·obtain rfl : i = 8 := by omega
   have HL := Gf.C3 a.toNat b.toNat a.toNat_lt 8 (by omega);have HM := Lib.hid (Gf.VT a b);generalize Gf.o0 a.toNat b.toNat 8 = s at *;go_wp2_with fail
   go_loop [5, 7] (fun v5 v7 => ∃ (p n : Nat), n ≤ 7 ∧ p < 2 ^ 15 ∧ v5 = .int .i64 (p : Int) ∧ v7 = .int .i64 ((n + 7 : Nat) : Int) ∧ Hid (Gf.GU n p = Gf.GS s)) (fun _ v7 => (intOf v7).toNat)
   case atStart => exact ⟨s, 7, by omega, HL, rfl, rfl, rfl⟩
   case round =>
    obtain ⟨p, n, hn, hp, rfl, rfl, H⟩ := hrel
    by_cases hlt : 1 ≤ n
    ·obtain ⟨m, rfl⟩ : ∃ m, n = m + 1 := ⟨n - 1, by omega⟩
     have hm : m + 1 + 7 = m + 8 := by omega
     rw [hm];go_wp2_with fail
     ·go_round
      case rel => exact ⟨Gf.iX p (m + 8), m, by omega, Gf.F5 _ _ (by omega) hp, HQ (RY p (m + 8) hp (by omega) (by omega) ‹_›), by go_num, H⟩
      case measure => simp [intOf]; omega
     ·go_round
      case rel => exact ⟨Gf.iX p (m + 8), m, by omega, Gf.F5 _ _ (by omega) hp, HQ (RZ p (m + 8) hp ‹_›), by go_num, H⟩
      case measure => simp [intOf]; omega
    ·obtain rfl : n = 0 := by omega
     go_wp2_with fail
     go_ret;have h := H.out;rw [HM.out] at h;simp only [Gf.GU] at h;have hl := (Gf.mul a b).toNat_lt;exact ⟨C8 (by omega), rfl⟩
end Go.Proofs.Yteofcbkjhdadpaa
namespace Go.Proofs.Yteofcbkjhdadpaa
open Go.RowKit
theorem EC (xs : List UInt8) (g : UInt8 → UInt8) {i : Nat} (h : i < xs.length) : (xs.take i).map g ++ [g (xs.getD i 0)] = (xs.take (i + 1)).map g := by
 rw [List.take_succ_eq_append_getElem h, List.map_append]
 simp [List.getD, h]
theorem CA (c : UInt8) (A : Option Addr) (n cap : Nat) (xs : List UInt8) (w : World) (hr : Rd w w.heap.size A n (dF xs)) (hn : n ≤ 140737488355328) :
  Calls Try.prog 55 #[.int .u8 (c.toNat : Int), .slice A n cap] w fun e w' => ∃ A' cap', e = .returned (.slice A' n cap') ∧ eI w' w.heap.size A' n cap' (xs.map (Gf.mul c)) ∧ Below w.heap.size w w' := by
 have HL := Lib.hid (show xs.length = n by have := hr.len; rw [b6] at this; exact this);go_enter Try.func55, Try.ntmps55;go_wp2_with fail
 go_loopw [5, 6] (fun v5 v6 wr => ∃ i : Nat, i ≤ n ∧ v6 = .int .i64 (i : Int) ∧ iZ wr w.heap.size v5 ((xs.take i).map (Gf.mul c)) ∧ Below w.heap.size w wr) (fun _ v6 _ => n - (intOf v6).toNat)
 case atStart => exact ⟨0, by omega, rfl, iZ.nil _ _, Below.refl _ _⟩
 case round =>
  obtain ⟨i, hi, rfl, ho, hb⟩ := hrel
  by_cases hlt : i < n
  ·obtain ⟨g, o, rfl, hg, hcell⟩ := jS (hr.below hb (Nat.le_refl _)) hlt
   have HS := Lib.hid (EC xs (Gf.mul c) (i := i) (by rw [HL.out]; exact hlt));have HLen := Lib.hid (show ((xs.take i).map (Gf.mul c)).length = i by rw [List.length_map, List.length_take, HL.out]; omega);generalize (xs.take i).map (Gf.mul c) = l at *;generalize xs.getD i 0 = x at *;have HO := Lib.hid ho;have HB := Lib.hid hb;have HR := Lib.hid hr;clear ho hb hr;go_wp2_with (first | (go_at_call 24; refine (mA _ _ _).mono ?_; rintro e w' ⟨rfl, rfl⟩) | (at_builtin; refine lG (.tmp 13) (.tmp 20) rfl rfl w.heap.size _ l (Gf.mul c x) rfl HO.out rfl (by rw [HLen.out]; omega) HB.out.size ?_; intro v1 w1 ho1 hb1 hg1))
   go_roundw
   case rel => exact ⟨i + 1, by omega, by go_num, by rw [← HS.out]; exact ho1, HB.out.trans hb1⟩
   case measure => simp [intOf]; omega
  ·obtain rfl : i = n := by omega
   rw [List.take_of_length_le (by rw [HL.out]; omega)] at ho;obtain ⟨A1, c1, rfl, ho1⟩ := ho.slice;rw [List.length_map, HL.out] at *;go_wp2_with fail
   go_ret;exact ⟨_, _, rfl, ho1, hb⟩
end Go.Proofs.Yteofcbkjhdadpaa
namespace Go.Proofs.Yteofcbkjhdadpaa
open Go.RowKit
theorem a0B (a b : UInt8) : ((a.toNat : Int) == (b.toNat : Int)) = decide (a = b) := by
 rw [Bool.eq_iff_iff];simp only [beq_iff_eq, decide_eq_true_eq];exact ⟨fun h => UInt8.toNat_inj.1 (Int.ofNat_inj.1 h), fun h => by rw [h]⟩
theorem a0z (a : UInt8) : ((a.toNat : Int) == 1) = decide (a = 1) := a0B a 1
theorem a0A (n : Nat) (h : n < 256) : ∃ u : UInt8, u.toNat = n := ⟨UInt8.ofNat n, by rw [UInt8.toNat_ofNat']; omega⟩
theorem xO (a : UInt8) (w : World) :
  Calls Try.prog 46 #[.int .u8 (a.toNat : Int)] w fun e w' => e = .returned (.tuple #[.int .u8 ((Gf.inv a).toNat : Int), .int .i64 (Gf.zK a)]) ∧ w = w' := by
 go_enter Try.func46, Try.ntmps46;go_wp2_with fail
 go_loop [4] (fun v4 => ∃ b : Nat, 1 ≤ b ∧ b ≤ 256 ∧ v4 = .int .i64 (b : Int) ∧ Hid (∀ u : UInt8, 1 ≤ u.toNat → u.toNat < b → Gf.mul a u ≠ 1)) (fun v4 => 256 - (intOf v4).toNat)
 case atStart => exact ⟨1, by omega, by omega, rfl, fun u h1 h2 => by omega⟩
 case round =>
  obtain ⟨b, hb1, hb2, rfl, HB⟩ := hrel
  by_cases hlt : b < 256
  ·obtain ⟨u, rfl⟩ := a0A b hlt
   have hq := a0z (Gf.mul a u);have hw : (u.toNat : Int) % 256 = (u.toNat : Int) := by omega
   by_cases hm : Gf.mul a u = 1
   ·rw [decide_eq_true hm] at hq
    have H1 := Lib.hid (Gf.M1 hm);have H2 := Lib.hid (show Gf.zK a = 0 by unfold Gf.zK; rw [if_neg (by rintro rfl; rw [Gf.cC] at hm; exact absurd hm (by decide))]);clear hm;go_wp2_with (go_at_call 24; refine (mA _ _ _).mono ?_; rintro e w' ⟨rfl, rfl⟩)
    go_ret2
    exact ⟨by rw [← H1.out, H2.out]; rfl, rfl⟩
   ·rw [decide_eq_false hm] at hq
    have HM := Lib.hid hm;clear hm;go_wp2_with (go_at_call 24; refine (mA _ _ _).mono ?_; rintro e w' ⟨rfl, rfl⟩)
    go_round
    case rel =>
     refine ⟨u.toNat + 1, by omega, by omega, by go_num, fun v h1 h2 => ?_⟩
     by_cases e : v.toNat = u.toNat
     ·rw [UInt8.toNat_inj.1 e]; exact HM.out
     ·exact HB.out v h1 (by omega)
    case measure => simp [intOf]; omega
  ·obtain rfl : b = 256 := by omega
   have hz : a = 0 := by
    by_cases h : a = 0
    ·exact h
    ·have h1 := HB.out (Gf.inv a) (Nat.pos_of_ne_zero fun e => Gf.H8 h ((toNat_zero _).1 e)) (Gf.inv a).toNat_lt
     exact absurd (Gf.xT h) h1
   have H1 := Lib.hid (show Gf.inv a = 0 by rw [hz]; rfl);have H2 := Lib.hid (show Gf.zK a = 5 by unfold Gf.zK; rw [if_pos hz]);clear hz;go_wp2_with fail
   go_ret2
   exact ⟨by rw [H1.out, H2.out]; rfl, rfl⟩
end Go.Proofs.Yteofcbkjhdadpaa
namespace Go.Proofs.Yteofcbkjhdadpaa
open Go.RowKit
theorem M9 (A : Option Addr) (n cap : Nat) (xs : List UInt8) (w : World) (hr : Rd w w.heap.size A n (dF xs)) (hn : n ≤ 140737488355328) :
  Calls Try.prog 41 #[.slice A n cap] w fun e w' => ∃ v, e = .returned v ∧ iZ w' w.heap.size v xs ∧ Below w.heap.size w w' := by
 go_enter Try.func41, Try.ntmps41;go_wp2_with (at_builtin; refine qG (.tmp 3) (.tmp 4) rfl rfl w.heap.size _ [] xs rfl (PF w _ (Nat.le_refl _) _ rfl) w.heap.size A n cap rfl (hr.below ((Below.refl _ _).alloc (Nat.le_refl _) _) (Nat.le_refl _)) (by simpa using hn) (by simp) ?_; intro v1 w1 ho1 hg1 hat1)
 go_ret;exact ⟨_, rfl, ho1, ((Below.refl _ _).alloc (Nat.le_refl _) _).trans (pM hg1 (by simp) (fun k hk => Nat.le_of_eq (Option.some.inj hk)))⟩
theorem U5 (A : Option Addr) (n cap : Nat) (xs : List UInt8) (w : World) (hr : Rd w w.heap.size A n (dF xs)) (hn : n ≤ 140737488355328) :
  Calls Try.prog 41 #[.slice A n cap] w fun e w' => ∃ A' cap', e = .returned (.slice A' n cap') ∧ eI w' w.heap.size A' n cap' xs ∧ Below w.heap.size w w' := by
 refine (M9 A n cap xs w hr hn).mono ?_;rintro e w' ⟨v, rfl, ho, hb⟩;obtain ⟨A', cap', rfl, ho'⟩ := ho.L6 (n := n) (by have := hr.len; rw [b6] at this; exact this);exact ⟨A', cap', rfl, ho', hb⟩
end Go.Proofs.Yteofcbkjhdadpaa
namespace Go.Proofs.Yteofcbkjhdadpaa
open Go.RowKit
theorem JP (r c : Int) (A : Option Addr) (n cap : Nat) (xs : List UInt8) (w : World) (hr : Rd w w.heap.size A n (dF xs)) (hn : n ≤ 140737488355328) :
  Calls Try.prog 40 #[mV r c A n cap] w fun e w' => ∃ A' cap', e = .returned (mV r c A' n cap') ∧ eI w' w.heap.size A' n cap' xs ∧ Below w.heap.size w w' := by
 have S := (((Ctx.start w).box [.int .i64 r, .int .i64 c, .slice A n cap]).box [.int .i64 0, .int .i64 0, .slice none 0 0])
 simp only [World.size_alloc] at S;obtain ⟨c0, c1, c2⟩ := S.cells 1 rfl;go_enter Try.func40, Try.ntmps40;go_wp2_with fail
 refine (U5 A n cap xs _ (hr.go S.below) hn).mono ?_;rintro e w1 ⟨A', cap', rfl, ho, hb⟩;have S1 := S.go hb;have hl1 := S1.lt 1 rfl;have hl0 := S1.lt 0 rfl;have hoB := ho.mono (base' := w.heap.size) S.below.size;obtain ⟨d0, d1, d2, e0, e1, e2⟩ := (S1.row 1 rfl).three;obtain ⟨f0, f1, f2, g0, g1, g2⟩ := (S1.row 0 rfl).three;have HS1 := Lib.hid S1;have HO := Lib.hid ho;clear S S1 ho hb c0 c1 c2;go_wp2_with fail
 have ho2 : eI w1 (w.heap.size + 1 + 1) A' n cap' xs := by
  have h := HO.out;simp only [World.size_alloc] at h;exact h
 refine bodyPost_ret (v := mV r c A' n cap') (by simp [results, Try.results40, go_sem, f0, f1, f2, g0, g1, g2, mV]) rfl ⟨A', cap', rfl, ?_, ?_⟩
 ·exact ((((ho2.wN (p := ⟨w.heap.size, 2, none⟩) (by dsimp only; omega) _).wN (p := ⟨w.heap.size + 1, 0, none⟩) (by dsimp only; omega) _).wN (p := ⟨w.heap.size + 1, 1, none⟩) (by dsimp only; omega) _).wN (p := ⟨w.heap.size + 1, 2, none⟩) (by dsimp only; omega) _).mono (by omega)
 ·exact bM (HS1.out.below.setCell (Nat.le_refl _) _) (by omega) _ _ _
end Go.Proofs.Yteofcbkjhdadpaa
namespace Go.Proofs.Yteofcbkjhdadpaa
open Go.RowKit
structure p7 (w wr : World) (gB n c na ka : Nat) (A D : Option Addr) (kD : Nat) (v : Value) (piv : List Nat) (L : List (List UInt8)) : Prop where
 box : DZ w wr n c na ka A
 b5 : Row wr gB 24 [.int .i64 (n : Int), .int .i64 (c : Int), .slice D na kD]
 data : eI wr (w.heap.size + 2) D na kD L.flatten
 own : mH wr (w.heap.size + 2) v piv
 rect : eG n c L
theorem p7.below {w wr wx : World} {gB n c na ka : Nat} {A D : Option Addr} {kD : Nat} {v : Value} {piv : List Nat} {L : List (List UInt8)} (h : p7 w wr gB n c na ka A D kD v piv L) (hb : Below wr.heap.size wr wx) : p7 w wx gB n c na ka A D kD v piv L :=
 ⟨h.box.go hb, h.b5.below hb h.b5.lt, h.data.below hb (Nat.le_refl _), h.own.mS fun g _ hg => hb.block g hg, h.rect⟩
theorem mH.ZI {w w' : World} {base : Nat} {v : Value} {zs : List Nat} (h : mH w base v zs) (hk : ∀ g, base ≤ g → g < w.heap.size → (∃ ys, Row w g 3 ys) → w'.heap[g]? = w.heap[g]?) : mH w' base v zs := by
 rcases h with ⟨h0, h1 | ⟨g, c, cur, h1, hg, hh, h2⟩⟩
 ·exact ⟨h0, .inl h1⟩
 ·exact ⟨h0, .inr ⟨g, c, cur, h1, hg, (hk g hg (pL hh) ⟨cur.toList, hh⟩).trans hh, h2⟩⟩
theorem eI.a0H {w : World} {base n cap g : Nat} {xs : List UInt8} (h : eI w base (some ⟨g, 0, none⟩) n cap xs) : ∃ ys, Row w g 5 ys := by
 rcases h.2.2 with ⟨h0, _⟩ | ⟨g', k, cells, hv, hb, hh, _⟩
 ·cases h0
 ·injection hv with hv1 hv2 hv3
  injection hv1 with hv1;injection hv1 with hv1;subst hv1;exact ⟨cells.toList, hh⟩
theorem p7.write {w wr wx : World} {gB n c na ka gD : Nat} {A : Option Addr} {kD : Nat} {v : Value} {piv : List Nat} {P S : List (List UInt8)} (h : p7 w wr gB n c na ka A (some ⟨gD, 0, none⟩) kD v piv P) (hg : wr.grownBy wx (some gD)) (ho : eI wx (w.heap.size + 2) (some ⟨gD, 0, none⟩) na kD S.flatten) (hS : eG n c S) (hgD : w.heap.size ≤ gD) :
  p7 w wx gB n c na ka A (some ⟨gD, 0, none⟩) kD v piv S := by
 obtain ⟨ys, hr⟩ := h.data.a0H;have hm : ∀ {g : Nat} {cs : List Value}, Row wr g 24 cs → Row wx g 24 cs := fun {g cs} q => q.of_block (hg.block g q.lt (fun e => by injection e with e; exact Row.qO q hr (by decide) e))
 refine ⟨⟨h.box.below.trans ⟨hg.os, hg.tape, hg.output, hg.size, fun k hk => hg.block k (by have := h.box.below.size; omega) (fun e => by injection e with e; omega)⟩, hm h.box.m, hm h.box.o⟩, hm h.b5, ho, h.own.ZI fun g _ hl q => ?_, hS⟩;obtain ⟨zs, q⟩ := q;exact hg.block g hl (fun e => by injection e with e; exact Row.qO q hr (by decide) e)
theorem p7.app {w wr wx : World} {gB n c na ka : Nat} {A D : Option Addr} {kD : Nat} {v v' : Value} {piv piv' : List Nat} {L : List (List UInt8)} (h : p7 w wr gB n c na ka A D kD v piv L) (hg : wr.grownBy wx v.ownBlock) (hb : Below (w.heap.size + 2) wr wx) (ho : mH wx (w.heap.size + 2) v' piv') :
  p7 w wx gB n c na ka A D kD v' piv' L := by
 have hk : ∀ {g : Nat} {t : TypeId} {cs : List Value}, Row wr g t cs → t ≠ 3 → wx.heap[g]? = wr.heap[g]? := fun {g t cs} q ht => hg.block g q.lt (fun e => by
  obtain ⟨ys, hr⟩ := mH.rowOf h.own e.symm;exact Row.qO q hr ht rfl)
 refine ⟨⟨h.box.below.trans (hb.mono (by omega)), h.box.m.of_block (hk h.box.m (by decide)), h.box.o.of_block (hk h.box.o (by decide))⟩, h.b5.of_block (hk h.b5 (by decide)), h.data.mS fun g e => ?_, ho, h.rect⟩;subst e;obtain ⟨ys, hr⟩ := h.data.a0H;exact hk hr (by decide)
theorem p7.a13 {w wr wx : World} {gB n c na ka : Nat} {A D D2 : Option Addr} {kD kD2 : Nat} {v : Value} {piv : List Nat} {L P : List (List UInt8)} (h : p7 w wr gB n c na ka A D kD v piv L) (hb : Below wr.heap.size wr wx) (ho : eI wx wr.heap.size D2 na kD2 P.flatten) (hP : eG n c P) (hg : w.heap.size + 2 ≤ gB) :
  p7 w (((wx.setCell ⟨gB, 0, none⟩ (.int .i64 (n : Int))).setCell ⟨gB, 1, none⟩ (.int .i64 (c : Int))).setCell ⟨gB, 2, none⟩ (.slice D2 na kD2)) gB n c na ka A D2 kD2 v piv P := by
 have q := h.below hb;have hl := h.b5.lt;refine ⟨⟨bM q.box.below (by omega) _ _ _, q.box.m.vK (by omega) _ _ _, q.box.o.vK (by omega) _ _ _⟩, q.b5.a15 _ _ _, (ho.vK hl _ _ _).mono (by omega), q.own.ZI fun g hg1 hg2 hg3 => ?_, hP⟩;replace hg3 : g ≠ gB := fun e => by obtain ⟨ys, hr⟩ := hg3; rw [e] at hr; exact Row.qO hr q.b5 (by decide) rfl
 have hne : g ≠ gB ∨ g = gB := by omega
 rcases hne with hne | hne
 ·rw [Below.heap_setCell _ _ _ _ hne, Below.heap_setCell _ _ _ _ hne, Below.heap_setCell _ _ _ _ hne]
 ·exact absurd hne hg3
theorem GP (n c na ka : Nat) (A : Option Addr) (xs : List UInt8) (w : World) (hx : Rd w w.heap.size A na (dF xs)) (hna : Hid (na = n * c)) (hka : na ≤ ka) (hn : n ≤ 64) (hc : c ≤ 64) :
  Calls Try.prog 20 #[mV n c A na ka] w fun e w' => ∃ A' k' v piv L' A2 A3, e = .returned (.tuple #[mV n c A' na k', v, .int .i64 0]) ∧ eI w' w.heap.size A' na k' L'.flatten ∧ mH w' w.heap.size v piv ∧ qF n c 0 0 (fY xs n c) A2 [] L' A3 piv ∧ eG n 0 A2 ∧ Below w.heap.size w w' := by
 have hxl : xs.length = n * c := by have := hx.len; rw [b6] at this; rw [this, hna.out]
 have hp : na ≤ 4096 := by rw [hna.out]; exact Nat.le_trans (Nat.mul_le_mul hn hc) (by omega)
 have HR := Lib.hid (fun w => iW n c A na ka w);rw [show bC n c na = true by rw [hna.out]; exact nE hn hc] at HR;have HX := Lib.hid hx;have HXL := Lib.hid hxl;clear hx hxl;obtain ⟨W2, hW2⟩ : ∃ W2, W2 = (w.alloc (.cells #[.int .i64 (n : Int), .int .i64 (c : Int), .slice A na ka] 24)).alloc (.cells #[.int .i64 0, .int .i64 0, .slice none 0 0] 24) := ⟨_, rfl⟩
 have st : DZ w W2 n c na ka A := by
  rw [hW2];refine ⟨((Below.refl _ _).alloc (Nat.le_refl _) _).alloc (by simp) _, (Row.new w _ _).alloc _, ?_⟩;have q := Row.new (w.alloc (.cells #[.int .i64 (n : Int), .int .i64 (c : Int), .slice A na ka] 24)) [.int .i64 0, .int .i64 0, .slice none 0 0] 24
  simpa using q
 have HW2 := Lib.hid hW2;have HS2 := Lib.hid st;clear hW2 st;go_enter Try.func20, Try.ntmps20;go_wp2_with fail
 rw [← HW2.out];refine (HR.out W2).mono ?_;rintro e w3 ⟨rfl, hb3⟩;have st3 := HS2.out.go hb3;obtain ⟨c0, c1, c2, f0, f1, f2⟩ := st3.m.three;have HS3 := Lib.hid st3;have HCP := Lib.hid (JP n c A na ka xs w3 (HX.out.go st3.below) (by omega));clear hb3 st3;go_wp2_with fail
 refine HCP.out.mono ?_;rintro e w4 ⟨D, kD, rfl, ho4, hb4⟩;obtain ⟨W5, hW5⟩ : ∃ W5, W5 = w4.alloc (.cells #[.int .i64 (n : Int), .int .i64 (c : Int), .slice D na kD] 24) := ⟨_, rfl⟩
 have hb5 : Below w4.heap.size w4 W5 := by rw [hW5]; exact (Below.refl _ _).alloc (Nat.le_refl _) _
 obtain ⟨gB, hgB⟩ : ∃ gB, gB = w4.heap.size := ⟨_, rfl⟩
 have hsz := HS3.out.o.lt;have hst : p7 w W5 gB n c na ka A D kD (.slice none 0 0) [] (fY xs n c) := by
  refine ⟨(HS3.out.go hb4).go hb5, by rw [hW5, hgB]; exact Row.new w4 _ _, ?_, World.ownsRow_nil _ _ _ _, jQ HXL.out⟩;rw [tR HXL.out];exact (ho4.below hb5 (Nat.le_refl _)).mono (by omega)
 have hgw : w.heap.size + 2 ≤ gB := by rw [hgB]; have := hb4.size; omega
 have HST := Lib.hid hst;have HW5 := Lib.hid hW5;have HGB := Lib.hid hgB;clear ho4 hb4 hW5 hb5 hgB hst c0 c1 c2 f0 f1 f2;go_wp2_with fail
 rw [← HGB.out, ← HW5.out];obtain ⟨L0, hL0⟩ : ∃ L0, L0 = fY xs n c := ⟨_, rfl⟩
 rw [← hL0] at HST;have HL0 := Lib.hid hL0;clear hL0
 go_loopg [6, 7] c (fun k s6 s7 wr => ∃ (j : Nat) (D : Option Addr) (kD : Nat) (v : Value) (piv : List Nat) (L A1 : List (List UInt8)), s6 = v ∧ s7 = .int .i64 (j : Int) ∧ j ≤ c ∧ k = c - j ∧ p7 w wr gB n c na ka A D kD v piv L ∧ piv.length ≤ n ∧ eG n 0 A1 ∧ (∀ L' A' p', qF n c piv.length j L A1 piv L' A' p' → qF n c 0 0 L0 (List.replicate n []) [] L' A' p'))
 case atStart => exact ⟨0, D, kD, _, [], L0, List.replicate n [], rfl, rfl, by omega, rfl, HST.out, by simp, ⟨by simp, fun i hi => by rw [tS]; rfl⟩, fun _ _ _ h => h⟩
 case round =>
  clear HST;obtain ⟨j, D, kD, v, piv, L, A1, rfl, rfl, hjc, hk, hst, hpl, hrA, hgo⟩ := hrel
  rename World => w6
  obtain ⟨Ap, kp, rfl, hkp⟩ := hst.own.form;obtain ⟨c0, c1, c2, f0, f1, f2⟩ := hst.b5.three;have HST := Lib.hid hst;have HGO := Lib.hid hgo;have HRA := Lib.hid hrA;clear hst hgo hrA
  by_cases hj : j < c
  ·by_cases hpn : piv.length < n
   ·go_upto_block 2 with (fail)
    go_cut [9] from 41 to 54 (fun s9 wx => ∃ i : Nat, s9 = .int .i64 (i : Int) ∧ piv.length ≤ i ∧ i ≤ n ∧ p7 w wx gB n c na ka A D kD (.slice Ap piv.length kp) piv L ∧ (∀ i', piv.length ≤ i' → i' < i → fH L i' j = 0) ∧ (i < n → fH L i j ≠ 0))
    case first =>
     go_wp2_with fail
     clear c0 c1 c2 f0 f1 f2
     go_loopg [9] (n - piv.length) (fun k s9 wr => ∃ i : Nat, s9 = .int .i64 (i : Int) ∧ piv.length ≤ i ∧ i ≤ n ∧ k = n - i ∧ p7 w wr gB n c na ka A D kD (.slice Ap piv.length kp) piv L ∧ (∀ i', piv.length ≤ i' → i' < i → fH L i' j = 0))
     case atStart => exact ⟨piv.length, rfl, Nat.le_refl _, hpl, rfl, HST.out, fun i' h1 h2 => by omega⟩
     case round =>
      clear HST;obtain ⟨i, rfl, hpi, hin, hk2, hst, hz⟩ := hrel
      rename World => w7
      obtain ⟨c0, c1, c2, f0, f1, f2⟩ := hst.b5.three;have HST := Lib.hid hst;have HZ := Lib.hid hz
      by_cases hi : i < n
      ·have hlt2 : i * c + j < na := by
        rw [hna.out];have h1 : (i + 1) * c ≤ n * c := Nat.mul_le_mul_right c hi;rw [Nat.add_mul] at h1;omega
       have hAT := yM n c i j (i * c) D na kD L.flatten w7 hst.data.rd (Lib.hid rfl) hlt2 hp;rw [n8 hst.rect hi hj] at hAT;obtain ⟨x, hx⟩ : ∃ x, x = fH L i j := ⟨_, rfl⟩
       rw [← hx] at hAT;have HAT := Lib.hid hAT;have HX3 := Lib.hid hx;clear hst hz hlt2 hAT hx;go_wp2_with fail
       refine HAT.out.mono ?_;rintro e w8 ⟨rfl, hb8⟩;have HS8 := Lib.hid (HST.out.below hb8);clear hb8
       by_cases hx0 : x.toNat = 0
       ·have hx1 : (x.toNat : Int) = 0 := by omega
        have hx2 : ((x.toNat : Int) == 0) = true := by rw [hx1]; rfl
        go_wp2_with fail
        go_roundg (n - (i + 1))
        case rel =>
         refine ⟨i + 1, by go_num, by omega, by omega, rfl, HS8.out, fun i' h1 h2 => ?_⟩
         rcases Nat.lt_or_ge i' i with h3 | h3
         ·exact HZ.out i' h1 h3
         ·obtain rfl : i' = i := by omega
          rw [← HX3.out];exact UInt8.toNat_inj.1 hx0
        case measure => omega
       ·have hx2 : ((x.toNat : Int) == 0) = false := by rw [beq_eq_false_iff_ne]; omega
        go_wp2_with fail
        go_meet
        refine ⟨i, rfl, hpi, hin, HS8.out, HZ.out, fun _ => ?_⟩;rw [← HX3.out];rintro rfl;exact hx0 rfl
      ·clear hst hz
       go_wp2_with fail
       go_meet
       exact ⟨i, rfl, hpi, hin, HST.out, HZ.out, fun h => absurd h hi⟩
    case rest =>
     obtain ⟨i, rfl, hpi, hin, hst, hz, hnz⟩ := hcut
     rename World => w7
     clear HST c0 c1 c2 f0 f1 f2;obtain ⟨c0, c1, c2, f0, f1, f2⟩ := hst.b5.three;have HST := Lib.hid hst;have HZ := Lib.hid hz;have HNZ := Lib.hid hnz;clear hst hz hnz
     by_cases hi : i = n
     ·have hb1 : ((i : Int) == (n : Int)) = true := by rw [hi]; simp
      go_wp2_with fail
      go_roundg (c - (j + 1))
      case rel => exact ⟨j + 1, D, kD, _, piv, L, A1, rfl, by go_num, by omega, rfl, HST.out, hpl, HRA.out, fun L' A' p' h => HGO.out L' A' p' (qF.skip (fun i' h1 h2 => HZ.out i' h1 (by omega)) h)⟩
      case measure => omega
     ·have hb1 : ((i : Int) == (n : Int)) = false := by rw [beq_eq_false_iff_ne]; omega
      have KR : i < n := by omega
      have hmk : ∀ w : World, (Instr.makeSlice 37 (.int .i64 (n : Int)) (.int .i64 (n : Int))).run Try.prog w = .ok (.slice (some ⟨w.heap.size, 0, none⟩) n n) (w.alloc (.cells (madeCells #[.int .i64 0] n) 3)) := fun w => FF n (by omega) w
      obtain ⟨W8, hW8⟩ : ∃ W8, W8 = w7.alloc (.cells (madeCells #[.int .i64 0] n) 3) := ⟨_, rfl⟩
      obtain ⟨gO, hgO⟩ : ∃ gO, gO = w7.heap.size := ⟨_, rfl⟩
      have hb8 : Below w7.heap.size w7 W8 := by rw [hW8]; exact (Below.refl _ _).alloc (Nat.le_refl _) _
      have r8 : Row W8 gO 3 (E0 (AY n 0)) := by rw [hW8, hgO, J3]; exact Row.made w7 _ n _
      have HW8 := Lib.hid hW8;have HGO8 := Lib.hid hgO;have HR8 := Lib.hid r8;have V9 := Lib.hid hb8;have hgOw : gB < gO := by rw [hgO]; exact HST.out.b5.lt
      clear hW8 hgO r8 hb8;go_wp2_with fail
      clear hmk c0 c1 c2 f0 f1 f2;rw [← HW8.out, ← HGO8.out]
      go_loopg [11] n (fun k s11 wr => ∃ q : Nat, s11 = .int .i64 (q : Int) ∧ q ≤ n ∧ k = n - q ∧ Below w7.heap.size w7 wr ∧ Row wr gO 3 (E0 (AY n q)))
      case atStart => exact ⟨0, rfl, by omega, rfl, V9.out, HR8.out⟩
      case round =>
       clear HR8 V9;obtain ⟨q, rfl, hqn, hk3, hb9, hr9⟩ := hrel
       rename World => w9
       obtain ⟨c0, c1, c2, f0, f1, f2⟩ := (HST.out.below hb9).b5.three;have HB9 := Lib.hid hb9;have HR9 := Lib.hid hr9
       by_cases hq : q < n
       ·obtain ⟨PJ, hold⟩ := hr9.has (i := q) (by rw [jF, kN]; exact hq)
        have hfz : w9.frozen? ⟨gO, q, none⟩ = false := hr9.frozen q;have q0 : (0 : Int) ≤ (q : Int) := by omega
        have q1 : (q : Int) < (n : Int) := by omega
        clear hb9 hr9;go_wp2_with fail
        go_roundg (n - (q + 1))
        case rel =>
         refine ⟨q + 1, by go_num, by omega, rfl, HB9.out.setCell (by show w7.heap.size ≤ gO; rw [HGO8.out]; exact Nat.le_refl _) _, ?_⟩;rw [← N5];exact HR9.out.set q _
        case measure => omega
       ·obtain rfl : q = n := by omega
        obtain ⟨old1, hold1⟩ := hr9.has (i := piv.length) (by rw [jF, kN]; exact hpn);obtain ⟨old2, hold2⟩ := (hr9.set piv.length (.int .i64 (i : Int))).has (i := i) (by rw [List.length_set, jF, kN]; exact KR);have a2G : w9.frozen? ⟨gO, piv.length, none⟩ = false := hr9.frozen _;have a0Y : (w9.setCell ⟨gO, piv.length, none⟩ (.int .i64 (i : Int))).frozen? ⟨gO, i, none⟩ = false := (hr9.set piv.length (.int .i64 (i : Int))).frozen _;obtain ⟨W10, hW10⟩ : ∃ W10, W10 = (w9.setCell ⟨gO, piv.length, none⟩ (.int .i64 (i : Int))).setCell ⟨gO, i, none⟩ (.int .i64 (piv.length : Int)) := ⟨_, rfl⟩
        have hr10 : Row W10 gO 3 (E0 (rW q i piv.length)) := by
         rw [hW10, ← KZ];exact (hr9.set _ _).set _ _
        have hb10 : Below w7.heap.size w7 W10 := by
         rw [hW10];exact (hb9.setCell (by show w7.heap.size ≤ gO; rw [HGO8.out]; exact Nat.le_refl _) _).setCell (by show w7.heap.size ≤ gO; rw [HGO8.out]; exact Nat.le_refl _) _
        have hs10 := HST.out.below hb10;have hzs : Rd W10 W10.heap.size (some ⟨gO, 0, none⟩) q (E0 (rW q i piv.length)) := by
         refine ⟨by rw [jF, qL], fun h0 => ⟨gO, 0, rfl, hr10.lt, fun j u hu => ?_⟩⟩;rw [Nat.zero_add, hr10.cell, hu]
        have hPP := EL q c D na kD L.flatten (some ⟨gO, 0, none⟩) q q (rW q i piv.length) W10 hs10.data.rd hzs (by omega);have hpk : iK (bC q c na) q (rW q i piv.length) = 0 := by
         rw [hna.out, nE hn hc];unfold iK;rw [if_neg (by simp), BZ KR hpn, if_neg (by simp), qL, if_neg (by omega)]
        unfold tD at hPP;unfold pkR pkC W6 at hPP;rw [hpk] at hPP;simp only [if_true, Int.toNat_natCast, qL] at hPP;rw [PB hs10.rect (BZ KR hpn), OT hs10.rect KR hpn] at hPP;have HPP := Lib.hid hPP;have HS10 := Lib.hid hs10;have HW10 := Lib.hid hW10;have i0 : (0 : Int) ≤ (i : Int) := by omega
        have i1 : (i : Int) < (q : Int) := by omega
        have p1 : (piv.length : Int) < (q : Int) := by omega
        clear hPP hs10 hW10 hb10 hr10 hzs hpk hb9 hr9 HR9 HB9;go_wp2_with fail
        rw [← HW10.out];refine HPP.out.mono ?_;rintro e w11 ⟨D2, n2, kD2, rfl, ho11, hb11⟩;obtain ⟨P, hP⟩ : ∃ P, P = C2 L i piv.length := ⟨_, rfl⟩
        have hPr : eG q c P := by rw [hP]; exact C1 HS10.out.rect KR hpn
        rw [← hP] at ho11;obtain rfl : na = n2 := by
         have h1 := ho11.1;rw [nH hPr] at h1;rw [hna.out];omega
        obtain ⟨W12, hW12⟩ : ∃ W12, W12 = ((w11.setCell ⟨gB, 0, none⟩ (.int .i64 (q : Int))).setCell ⟨gB, 1, none⟩ (.int .i64 (c : Int))).setCell ⟨gB, 2, none⟩ (.slice D2 na kD2) := ⟨_, rfl⟩
        have hs12 : p7 w W12 gB q c na ka A D2 kD2 (.slice Ap piv.length kp) piv P := by
         rw [hW12];exact HS10.out.a13 hb11 ho11 hPr hgw
        obtain ⟨m0, hm0⟩ : ∃ m0, m0 = piv.length * c := ⟨_, rfl⟩
        have hm1 : m0 + c ≤ na := by
         rw [hm0, hna.out];have h1 : (piv.length + 1) * c ≤ q * c := Nat.mul_le_mul_right c hpn;rw [Nat.add_mul] at h1;omega
        obtain ⟨x, hx⟩ : ∃ x, x = fH L i j := ⟨_, rfl⟩
        have hAT := yM q c piv.length j m0 D2 na kD2 P.flatten W12 hs12.data.rd (Lib.hid hm0) (by omega) hp;rw [hm0, n8 hPr hpn hj] at hAT;have hxP : fH P piv.length j = x := by
         rw [hx, hP];unfold fH;rw [z6 HS10.out.rect KR hpn, if_pos rfl]
        rw [hxP] at hAT;have HAT := Lib.hid hAT;have HS12 := Lib.hid hs12;have HW12 := Lib.hid hW12;have HP := Lib.hid hP;have HPR := Lib.hid hPr;have HX4 := Lib.hid hx;have HM0 := Lib.hid hm0;obtain ⟨e0, e1, e2, h0, h1, h2⟩ := (HS10.out.below hb11).b5.three;clear hAT hs12 hW12 hP hPr hx hm0 hxP ho11 hb11 c0 c1 c2 f0 f1 f2 hold1 hold2 a2G a0Y;go_wp2_with fail
        rw [← HW12.out];refine HAT.out.mono ?_;rintro e w13 ⟨rfl, hb13⟩;have hs13 := HS12.out.below hb13;have hRW := xN q c (piv.length : Int) D2 na kD2 P.flatten w13 hs13.data.rd;unfold IY at hRW;unfold OY at hRW;have hre : wD (bC q c na) q (piv.length : Int) = 0 := by
         rw [hna.out, nE hn hc];unfold wD;rw [if_neg (by simp), if_pos ⟨by omega, by omega⟩]
        rw [hre] at hRW;simp only [if_true, Int.toNat_natCast] at hRW;rw [y9 HPR.out hpn] at hRW;have hPi : P.getD piv.length [] = L.getD i [] := by rw [HP.out, z6 HS10.out.rect KR hpn, if_pos rfl]
        rw [hPi] at hRW;have hLi : (L.getD i []).length = c := HS10.out.rect.wid i KR;have HRW := Lib.hid hRW;have HIV := Lib.hid (xO x w13);have HS13 := Lib.hid hs13;have HLI := Lib.hid hLi;obtain ⟨c0, c1, c2, f0, f1, f2⟩ := hs13.b5.three;clear e0 e1 e2 h0 h1 h2 hs13 hRW hre hPi hb13 hLi;go_wp2_with fail
        refine HIV.out.mono ?_;rintro e w13' ⟨rfl, rfl⟩;go_wp2_with fail
        refine HRW.out.mono ?_;rintro e w14 ⟨R0, n14, k14, rfl, ho14, hb14⟩;obtain rfl : c = n14 := by rw [← HLI.out]; exact ho14.1
        have HSC := Lib.hid (CA (Gf.inv x) R0 c k14 (L.getD i []) w14 ho14.rd (by omega));have HS14 := Lib.hid (HS13.out.below hb14);clear c0 c1 c2 f0 f1 f2 ho14 hb14;go_wp2_with fail
        refine HSC.out.mono ?_;rintro e w15 ⟨R1, k15, rfl, ho15, hb15⟩;have hs15 := HS14.out.below hb15;obtain ⟨gD, hgD, hgDb, hgDl, _, _⟩ := hs15.data.at_ (i := 0) (by omega);subst hgD;obtain ⟨T, hT⟩ : ∃ T, T = (L.getD i []).map (Gf.mul (Gf.inv x)) := ⟨_, rfl⟩
        rw [← hT] at ho15;have HT := Lib.hid hT;have a1B := Lib.hid ho15;have HS15 := Lib.hid hs15;have e1 : IntKind.i64.wrap ((piv.length : Int) * (c : Int)) = (m0 : Int) := by rw [← Int.natCast_mul, ← HM0.out, IntKind.wrap_i64]; omega
        have hnk : na ≤ kD2 := hs15.data.le';obtain ⟨c0, c1, c2, f0, f1, f2⟩ := hs15.b5.three;have m00 : (0 : Int) ≤ (m0 : Int) := by omega
        have m01 : (m0 : Int) ≤ (na : Int) := by omega
        have m02 : (na : Int) ≤ (kD2 : Int) := by omega
        have m03 : m0 ≤ na := by omega
        have m04 : ¬ kD2 = m0 := by omega
        obtain ⟨gD', hgD', _, hgD14, _, _⟩ := HS14.out.data.at_ (i := 0) (by omega);injection hgD' with hgD';injection hgD' with hgD';subst hgD';have HRN := Lib.hid (show ∀ a, R1 = some a → a.block ≠ gD from fun a e => by
         rcases ho15.2.2 with ⟨h0, _⟩ | ⟨g', k, cells, hv, hb, hh, _⟩
         ·injection h0 with h0; rw [h0] at e; cases e
         ·injection hv with hv1 hv2 hv3
          rw [hv1] at e;injection e with e;subst e;show g' ≠ gD;omega)
        have HOV := Lib.hid (show over P.flatten m0 T = (P.set piv.length T).flatten by
         rw [HM0.out];exact FL HPR.out hpn ho15.1)
        have HTL := Lib.hid (show T.length = c from ho15.1);clear hT ho15 hs15 hb15;obtain ⟨w16, hrun, ho16, hg16⟩ := EJ w15 3 gD m0 (na - m0) (kD2 - m0) c k15 (w.heap.size + 2) na kD2 R1 P.flatten T HS15.out.data a1B.out.rd (by omega) (by omega) (by omega);rw [HOV.out] at ho16;have HS16 := Lib.hid (HS15.out.write hg16 ho16 (HPR.out.set hpn HTL.out) (by omega));have a3y := Lib.hid (show Rd w16 w16.heap.size R1 c (dF T) from (a1B.out.mS (fun g e => hg16.block g (by have := (a1B.out.row g (by rw [e]; rfl)).2; omega) (fun e2 => by injection e2 with e2; exact HRN.out _ e e2))).rd);clear ho16 hg16;go_wp2_with fail
        obtain ⟨S, hS⟩ : ∃ S, S = P.set piv.length T := ⟨_, rfl⟩
        rw [← hS] at HS16;have HSS := Lib.hid (show S = nS L i piv.length (Gf.inv (fH L i j)) by
         rw [hS, HP.out, HT.out, HX4.out];exact L3 L HS10.out.rect KR hpn _)
        have HST0 := Lib.hid (show S.getD piv.length [] = T by rw [hS, gK (by rw [HPR.out.len]; exact hpn), if_pos rfl]);have HSR := Lib.hid HS16.out.rect;clear hS c0 c1 c2 f0 f1 f2 e1 m00 m01 m02 m03 m04
        go_loopg [16] q (fun k s16 wr => ∃ kk : Nat, s16 = .int .i64 (kk : Int) ∧ kk ≤ q ∧ k = q - kk ∧ p7 w wr gB q c na ka A (some ⟨gD, 0, none⟩) kD2 (.slice Ap piv.length kp) piv (dR piv.length j kk S) ∧ Rd wr wr.heap.size R1 c (dF T))
        case atStart => exact ⟨0, rfl, by omega, rfl, HS16.out, a3y.out⟩
        case round =>
         clear HS16 a3y;obtain ⟨kk, rfl, hkq, hk4, hst, hrt⟩ := hrel
         rename World => w17
         obtain ⟨c0, c1, c2, f0, f1, f2⟩ := hst.b5.three;have HST := Lib.hid hst;have HRT := Lib.hid hrt
         by_cases hkk : kk < q
         ·by_cases hkt : kk = piv.length
          ·have hb2 : ((kk : Int) != (piv.length : Int)) = false := by rw [hkt]; simp
           have HE := Lib.hid (show p7 w w17 gB q c na ka A (some ⟨gD, 0, none⟩) kD2 (.slice Ap piv.length kp) piv (dR piv.length j (kk + 1) S) by
            have e : dR piv.length j (kk + 1) S = dR piv.length j kk S := by rw [hkt]; exact Q0
            rw [e];exact hst)
           clear hst hrt;go_wp2_with fail
           go_roundg (q - (kk + 1))
           case rel => exact ⟨kk + 1, by go_num, by omega, rfl, HE.out, HRT.out⟩
           case measure => omega
          ·have hb2 : ((kk : Int) != (piv.length : Int)) = true := by rw [bne_iff_ne]; omega
           obtain ⟨mk, hmk⟩ : ∃ mk, mk = kk * c := ⟨_, rfl⟩
           have hmk1 : mk + c ≤ na := by
            rw [hmk, hna.out];have h1 : (kk + 1) * c ≤ q * c := Nat.mul_le_mul_right c hkk;rw [Nat.add_mul] at h1;omega
           have hAT2 := yM q c kk j mk (some ⟨gD, 0, none⟩) na kD2 (dR piv.length j kk S).flatten w17 hst.data.rd (Lib.hid hmk) (by omega) hp;rw [hmk, n8 hst.rect hkk hj] at hAT2;have hrowk : (dR piv.length j kk S).getD kk [] = S.getD kk [] := by rw [(oI HSR.out hpn kk (by omega) (j := j)).2, if_neg (by omega)]
           have hyk : fH (dR piv.length j kk S) kk j = fH S kk j := by unfold fH; rw [hrowk]
           rw [hyk] at hAT2;obtain ⟨y, hy⟩ : ∃ y, y = fH S kk j := ⟨_, rfl⟩
           rw [← hy] at hAT2;have HAT2 := Lib.hid hAT2;have HROWK := Lib.hid hrowk;have HY := Lib.hid hy;have HMK := Lib.hid hmk;clear hst hrt hAT2 hrowk hyk hy hmk;go_wp2_with fail
           refine HAT2.out.mono ?_;rintro e w18 ⟨rfl, hb18⟩;obtain ⟨E, hE⟩ : ∃ E, E = dR piv.length j kk S := ⟨_, rfl⟩
           obtain ⟨row, hrow⟩ : ∃ row, row = S.getD kk [] := ⟨_, rfl⟩
           have hs18 := HST.out.below hb18;rw [← hE] at hs18;have HER := Lib.hid hs18.rect;have HRL := Lib.hid (show row.length = c by rw [hrow]; exact HSR.out.wid kk hkk);have hs18' : p7 w w18 gB q c na ka A (some ⟨gD, 0, none⟩) kD2 (.slice Ap piv.length kp) piv (E.set kk (lP row T y 0)) := by
            have e : E.set kk (lP row T y 0) = E := by
             rw [LM];refine y6 (by rw [List.length_set]; exact HER.out.len) HER.out.len fun p hp2 => ?_
             rw [gK (by rw [HER.out.len]; exact hkk)]
             split
             ·next e => rw [e, hrow, hE]; exact HROWK.out.symm
             ·rfl
            rw [e];exact hs18
           have HS18 := Lib.hid hs18';have a3x := Lib.hid (HRT.out.go hb18);have HNXT := Lib.hid (show E.set kk (lP row T y c) = dR piv.length j (kk + 1) S by
            rw [PC HRL.out HTL.out, hE, hrow, HY.out, ← HST0.out];exact Q1 HSR.out hpn hkk hkt)
           clear hs18 hs18' hb18 hE hrow HST HRT c0 c1 c2 f0 f1 f2;go_wp2_with fail
           go_loopg [18] c (fun k s18 wr => ∃ l : Nat, s18 = .int .i64 (l : Int) ∧ l ≤ c ∧ k = c - l ∧ p7 w wr gB q c na ka A (some ⟨gD, 0, none⟩) kD2 (.slice Ap piv.length kp) piv (E.set kk (lP row T y l)) ∧ Rd wr wr.heap.size R1 c (dF T))
           case atStart => exact ⟨0, rfl, by omega, rfl, HS18.out, a3x.out⟩
           case round =>
            clear HS18 a3x;obtain ⟨l, rfl, hlc, hk5, hst, hrt⟩ := hrel
            rename World => w19
            obtain ⟨c0, c1, c2, f0, f1, f2⟩ := hst.b5.three;have HST := Lib.hid hst;have HRT := Lib.hid hrt
            by_cases hlt3 : l < c
            ·obtain ⟨pp, hpp⟩ : ∃ pp, pp = mk + l := ⟨_, rfl⟩
             have hml : pp < na := by omega
             have hEs : eG q c (E.set kk (lP row T y l)) := HER.out.set hkk (FB HRL.out HTL.out hlc);obtain ⟨u, hu⟩ : ∃ u, u = row.getD l 0 := ⟨_, rfl⟩
             obtain ⟨tv, htv⟩ : ∃ tv, tv = T.getD l 0 := ⟨_, rfl⟩
             have hval : (E.set kk (lP row T y l)).flatten.getD pp 0 = u := by
              rw [hpp, HMK.out, n8 hEs hkk hlt3];unfold fH;rw [gK (by rw [HER.out.len]; exact hkk), if_pos rfl, SG HRL.out HTL.out hlt3, hu]
             obtain ⟨g5, hg5, _, _, hcl, hfz⟩ := hst.data.at_ (i := pp) hml;injection hg5 with hg5;injection hg5 with hg5;subst hg5;rw [hval] at hcl;obtain ⟨gR, oR, hR1, hgR, hcR⟩ := jS hrt (k := l) hlt3;rw [← htv] at hcR;subst hR1;have e1 : IntKind.i64.wrap ((kk : Int) * (c : Int)) = (mk : Int) := by rw [← Int.natCast_mul, ← HMK.out, IntKind.wrap_i64]; omega
             have e2 : IntKind.i64.wrap ((mk : Int) + (l : Int)) = (pp : Int) := by rw [IntKind.wrap_i64]; omega
             have l0 : (0 : Int) ≤ (l : Int) := by omega
             have l1 : (l : Int) < (c : Int) := by omega
             have l2 : (0 : Int) ≤ (pp : Int) := by omega
             have l3 : (pp : Int) < (na : Int) := by omega
             have hxo := yI u (Gf.mul y tv);have HMU := Lib.hid (fun w => mA y tv w);have HNW := Lib.hid (show (E.set kk (lP row T y l)).flatten.set pp (Gf.add u (Gf.mul y tv)) = (E.set kk (lP row T y (l + 1))).flatten by
              rw [hpp, HMK.out, TW hEs hkk hlt3, gK (by rw [HER.out.len]; exact hkk), if_pos rfl, List.set_set, hu, htv, LN HRL.out HTL.out hlt3])
             have HPPP := Lib.hid hpp;have HFIN := Lib.hid (show p7 w (w19.setCell ⟨gD, pp, none⟩ (.int .u8 ((Gf.add u (Gf.mul y tv)).toNat : Int))).drew gB q c na ka A (some ⟨gD, 0, none⟩) kD2 (.slice Ap piv.length kp) piv (E.set kk (lP row T y (l + 1))) by
              refine (hst.write (wx := w19.setCell ⟨gD, pp, none⟩ (.int .u8 ((Gf.add u (Gf.mul y tv)).toNat : Int))) (gV (p := ⟨gD, pp, none⟩) (World.grownBy.refl w19 (some gD)) (.inl rfl) _) ?_ (HER.out.set hkk (FB HRL.out HTL.out hlt3)) (by omega)).below (Below.drew (Below.refl _ _));rw [← HNW.out];exact hst.data.store pp _)
             have HRFIN := Lib.hid (show Rd (w19.setCell ⟨gD, pp, none⟩ (.int .u8 ((Gf.add u (Gf.mul y tv)).toNat : Int))).drew (w19.setCell ⟨gD, pp, none⟩ (.int .u8 ((Gf.add u (Gf.mul y tv)).toNat : Int))).drew.heap.size (some ⟨gR, oR, none⟩) c (dF T) from hrt.off (p := ⟨gD, pp, none⟩) HRN.out _);clear hst hrt hval hu htv hpp c0 f0 f1 f2;go_wp2_with fail
             have hgBD : gB ≠ gD := fun e => by
              obtain ⟨ys, hr⟩ := HST.out.data.a0H;exact Row.qO HST.out.b5 hr (by decide) e
             have hgRD : gR ≠ gD := HRN.out _ rfl;have HGR := Lib.hid (And.intro hgBD hgRD);clear hgBD hgRD;refine wp_region_held_drew (S := (fun w' => w'.cell? ⟨gB, 1, none⟩ = some (.int .i64 (c : Int)) ∧ w'.cell? ⟨gB, 2, none⟩ = some (.slice (some ⟨gD, 0, none⟩) na kD2) ∧ w'.cell? ⟨gR, oR + l, none⟩ = some (.int .u8 (tv.toNat : Int)))) (by kernel_rfl) ⟨c1, c2, hcR⟩ (fun hHeld => ?_);refine wpAnyH_take (i := 0) (v := ?_) rfl (by kernel_rfl) (by kernel_rfl) (by kernel_rfl) (fun _ _ _ h => h) (Or.inl ⟨by rfl, ?_⟩) (by assumption) ?_;rotate_left
             ·(intro w hSw; (try dsimp only at hSw); go_simp; (try with_reducible rfl))
             (try simp only [Act.put, cS, cQ, cU]);refine wpAnyH_take (i := 1) (v := ?_) rfl (by kernel_rfl) (by kernel_rfl) (by kernel_rfl) (fun _ _ _ h => h) (Or.inl ⟨by rfl, ?_⟩) (by assumption) ?_;rotate_left
             ·(intro w hSw; (try dsimp only at hSw); go_simp; (try with_reducible rfl))
             (try simp only [Act.put, cS, cQ, cU]);refine wpAnyH_take (i := 2) (v := ?_) rfl (by kernel_rfl) (by kernel_rfl) (by kernel_rfl) (fun _ _ _ h => h) (Or.inl ⟨by rfl, ?_⟩) (by assumption) ?_;rotate_left
             ·(intro w hSw; (try dsimp only at hSw); go_simp; (try with_reducible rfl))
             (try simp only [Act.put, cS, cQ, cU]);refine wpAnyH_take (i := 3) (v := ?_) rfl (by kernel_rfl) (by kernel_rfl) (by kernel_rfl) (fun _ _ _ h => h) (Or.inl ⟨by rfl, ?_⟩) (by assumption) ?_;rotate_left
             ·(intro w hSw; (try dsimp only at hSw); go_simp; (try with_reducible rfl))
             (try simp only [Act.put, cS, cQ, cU]);refine wpAnyH_take (i := 4) (v := ?_) rfl (by kernel_rfl) (by kernel_rfl) (by kernel_rfl) (fun _ _ _ h => h) (Or.inl ⟨by rfl, ?_⟩) (by assumption) ?_;rotate_left
             ·(intro w hSw; (try dsimp only at hSw); go_simp; (try with_reducible rfl))
             (try simp only [Act.put, cS, cQ, cU]);refine wpAnyH_take (i := 5) (v := ?_) rfl (by kernel_rfl) (by kernel_rfl) (by kernel_rfl) (fun _ _ _ h => h) (Or.inl ⟨by rfl, ?_⟩) (by assumption) ?_;rotate_left
             ·(intro w hSw; (try dsimp only at hSw); go_simp; (try with_reducible rfl))
             (try simp only [Act.put, cS, cQ, cU]);refine wpAnyH_take (i := 6) (v := ?_) rfl (by kernel_rfl) (by kernel_rfl) (by kernel_rfl) (fun _ _ _ h => h) (Or.inl ⟨by rfl, ?_⟩) (by assumption) ?_;rotate_left
             ·(intro w hSw; (try dsimp only at hSw); go_simp; (try with_reducible rfl))
             (try simp only [Act.put, cS, cQ, cU]);refine wpAnyH_take (i := 7) (v := ?_) rfl (by kernel_rfl) (by kernel_rfl) (by kernel_rfl) (fun _ _ _ h => h) (Or.inl ⟨by rfl, ?_⟩) (by assumption) ?_;rotate_left
             ·(intro w hSw; (try dsimp only at hSw); go_simp; (try with_reducible rfl))
             (try simp only [Act.put, cS, cQ, cU]);refine wpAnyH_take (i := 10) (v := ?_) rfl (by kernel_rfl) (by kernel_rfl) (by kernel_rfl) (fun _ _ _ h => h) (Or.inl ⟨by rfl, ?_⟩) (by assumption) ?_;rotate_left
             ·(intro w hSw; (try dsimp only at hSw); go_simp; (try with_reducible rfl))
             (try simp only [Act.put, cS, cQ, cU]);refine wpAnyH_take (i := 11) (v := ?_) rfl (by kernel_rfl) (by kernel_rfl) (by kernel_rfl) (fun _ _ _ h => h) (Or.inl ⟨by rfl, ?_⟩) (by assumption) ?_;rotate_left
             ·(intro w hSw; (try dsimp only at hSw); go_simp; (try with_reducible rfl))
             (try simp only [Act.put, cS, cQ, cU]);refine wpAnyH_take (i := 12) (v := ?_) rfl (by kernel_rfl) (by kernel_rfl) (by kernel_rfl) (fun _ _ _ h => h) (Or.inl ⟨by rfl, ?_⟩) (by assumption) ?_;rotate_left
             ·(intro w hSw; (try dsimp only at hSw); go_simp; (try with_reducible rfl))
             (try simp only [Act.put, cS, cQ, cU]);refine wpAnyH_take (i := 13) (v := ?_) rfl (by kernel_rfl) (by kernel_rfl) (by kernel_rfl) (fun _ _ _ h => h) (Or.inl ⟨by rfl, ?_⟩) (by assumption) ?_;rotate_left
             ·(intro w hSw; (try dsimp only at hSw); go_simp; (try with_reducible rfl))
             (try simp only [Act.put, cS, cQ, cU]);refine wpAnyH_take (i := 14) (v := ?_) rfl (by kernel_rfl) (by kernel_rfl) (by kernel_rfl) (fun _ _ _ h => h) (Or.inl ⟨by rfl, ?_⟩) (by assumption) ?_;rotate_left
             ·(intro w hSw; (try dsimp only at hSw); go_simp; (try with_reducible rfl))
             (try simp only [Act.put, cS, cQ, cU]);refine wpAnyH_take (i := 8) (v := ?_) rfl (by kernel_rfl) (by kernel_rfl) (by kernel_rfl) (fun _ _ _ h => h) (Or.inl ⟨by rfl, ?_⟩) (by assumption) ?_;rotate_left
             ·(intro w hSw; (try dsimp only at hSw); go_simp; (try with_reducible rfl))
             (try simp only [Act.put, cS, cQ, cU]);refine wpAnyH_ready (rs := [9, 15]) (by kernel_rfl) (by simp) ?_;refine AllReadyH.cons rfl (fun K hK => ?_) (AllReadyH.cons rfl (fun K hK => ?_) AllReadyH.nil)
             ·go_simp
              refine hK.out _ _ hHeld (fun hHeld => ?_);clear hK K;(try simp only [Act.put, cS, cQ, cU]);refine wpAnyH_ready (rs := [15]) (by kernel_rfl) (by simp) ?_;refine AllReadyH.cons rfl (fun K hK => ?_) AllReadyH.nil;go_simp;refine (HMU.out _).mono ?_;rintro e wk ⟨rfl, rfl⟩;go_wp2_with fail
              refine hK.out _ _ hHeld (fun hHeld => ?_);clear hK K;(try simp only [Act.put, cS, cQ, cU]);refine wpAnyH_take (i := 16) (v := ?_) rfl (by kernel_rfl) (by kernel_rfl) (by kernel_rfl) (fun _ _ _ h => h) (Or.inl ⟨by rfl, ?_⟩) (by assumption) ?_;rotate_left
              ·(intro w hSw; (try dsimp only at hSw); go_simp; (try with_reducible rfl))
              (try simp only [Act.put, cS, cQ, cU]);refine wpAnyH_take (i := 17) (v := ?_) rfl (by kernel_rfl) (by kernel_rfl) (by kernel_rfl) (fun _ _ _ h => h) (Or.inl ⟨by rfl, ?_⟩) (by assumption) ?_;rotate_left
              ·(intro w hSw; (try dsimp only at hSw); go_simp; (try with_reducible rfl))
              (try simp only [Act.put, cS, cQ, cU]);refine wpAnyH_ready (rs := [18]) (by kernel_rfl) (by simp) ?_;refine AllReadyH.cons rfl (fun K hK => ?_) AllReadyH.nil;go_simp;refine hK.out _ _ ⟨cell_far hHeld.1 (.inl fun e => HGR.out.1 e.symm), cell_far hHeld.2.1 (.inl fun e => HGR.out.1 e.symm), cell_far hHeld.2.2 (.inl fun e => HGR.out.2 e.symm)⟩ (fun hHeld => ?_);clear hK K;(try simp only [Act.put, cS, cQ, cU]);refine wpAnyH_done (by kernel_rfl) ?_ _;go_wp2_with fail
              go_roundg (c - (l + 1))
              case rel => exact ⟨l + 1, by go_num, by omega, rfl, HFIN.out, HRFIN.out⟩
              case measure => omega
             ·go_simp
              refine (HMU.out _).mono ?_;rintro e wk ⟨rfl, rfl⟩;go_wp2_with fail
              refine hK.out _ _ hHeld (fun hHeld => ?_);clear hK K;(try simp only [Act.put, cS, cQ, cU]);refine wpAnyH_ready (rs := [9]) (by kernel_rfl) (by simp) ?_;refine AllReadyH.cons rfl (fun K hK => ?_) AllReadyH.nil;go_simp;refine hK.out _ _ hHeld (fun hHeld => ?_);clear hK K;(try simp only [Act.put, cS, cQ, cU]);refine wpAnyH_take (i := 16) (v := ?_) rfl (by kernel_rfl) (by kernel_rfl) (by kernel_rfl) (fun _ _ _ h => h) (Or.inl ⟨by rfl, ?_⟩) (by assumption) ?_;rotate_left
              ·(intro w hSw; (try dsimp only at hSw); go_simp; (try with_reducible rfl))
              (try simp only [Act.put, cS, cQ, cU]);refine wpAnyH_take (i := 17) (v := ?_) rfl (by kernel_rfl) (by kernel_rfl) (by kernel_rfl) (fun _ _ _ h => h) (Or.inl ⟨by rfl, ?_⟩) (by assumption) ?_;rotate_left
              ·(intro w hSw; (try dsimp only at hSw); go_simp; (try with_reducible rfl))
              (try simp only [Act.put, cS, cQ, cU]);refine wpAnyH_ready (rs := [18]) (by kernel_rfl) (by simp) ?_;refine AllReadyH.cons rfl (fun K hK => ?_) AllReadyH.nil;go_simp;refine hK.out _ _ ⟨cell_far hHeld.1 (.inl fun e => HGR.out.1 e.symm), cell_far hHeld.2.1 (.inl fun e => HGR.out.1 e.symm), cell_far hHeld.2.2 (.inl fun e => HGR.out.2 e.symm)⟩ (fun hHeld => ?_);clear hK K;(try simp only [Act.put, cS, cQ, cU]);refine wpAnyH_done (by kernel_rfl) ?_ _;go_wp2_with fail
              go_roundg (c - (l + 1))
              case rel => exact ⟨l + 1, by go_num, by omega, rfl, HFIN.out, HRFIN.out⟩
              case measure => omega
            ·obtain rfl : l = c := by omega
             have HE2 := Lib.hid (show p7 w w19 gB q l na ka A (some ⟨gD, 0, none⟩) kD2 (.slice Ap piv.length kp) piv (dR piv.length j (kk + 1) S) by rw [← HNXT.out]; exact hst);clear hst hrt;go_wp2_with fail
             go_roundg (q - (kk + 1))
             case rel => exact ⟨kk + 1, by go_num, by omega, rfl, HE2.out, HRT.out⟩
             case measure => omega
         ·obtain rfl : kk = q := by omega
          clear hst hrt;go_wp2_with (at_builtin; refine vX 37 3 (.int .i64 0) 8 Try.underlying37 CT rfl (.tmp 148) (.tmp 150) rfl rfl (w.heap.size + 2) (.slice Ap piv.length kp) piv.length (WC piv) (.int .i64 (j : Int)) rfl rfl HST.out.own _ rfl rfl (by simp only [maxLen]; omega) (by omega) (by have := HST.out.b5.lt; omega) ?_; intro g cap w20 ho20 hb20 hg20 hat; have HS20 := Lib.hid (HST.out.app hg20 hb20 (show mH w20 (w.heap.size + 2) (.slice (some ⟨g, 0, none⟩) (piv.length + 1) cap) (piv ++ [j]) by unfold mH; rw [CK, List.length_append]; exact ho20)); clear ho20 hb20 hg20 hat)
          go_roundg (c - (j + 1))
          case rel =>
           have hrs : eG kk 0 (nS A1 i piv.length (Gf.inv (fH L i j))) := qK HRA.out KR hpn _;refine ⟨j + 1, some ⟨gD, 0, none⟩, kD2, _, piv ++ [j], dR piv.length j kk S, iY piv.length j S kk (nS A1 i piv.length (Gf.inv (fH L i j))), rfl, by go_num, by omega, rfl, HS20.out, by rw [List.length_append]; simp; omega, (oJ HSR.out hrs hpn kk (Nat.le_refl _) (j := j)).1, fun L' A' p' h => HGO.out L' A' p' (qF.step hpn KR hpi hj (Nat.le_refl _) (HNZ.out KR) HZ.out (fun j' h1 h2 => by omega) ?_)⟩;rw [← HSS.out];rw [List.length_append] at h;exact h
          case measure => omega
   ·obtain ⟨d0, d1, d2, g0, g1, g2⟩ := HST.out.box.o.three
    have hlt9 := HST.out.box.o.lt;go_wp2_with fail
    refine bodyPost_ret (v := .tuple #[mV n c D na kD, .slice Ap piv.length kp, .int .i64 0]) (by simp [results, Try.results20, go_sem, d0, d1, d2, hlt9]) rfl ?_;have q := HST.out;refine ⟨D, kD, _, piv, L, List.replicate n [], A1, rfl, (q.data.vK (by omega) _ _ _).mono (by omega), (q.own.mS fun g hb hg => ?_).mono (by omega), ?_, ⟨by simp, fun i hi => by rw [tS]; rfl⟩, bM q.box.below (by omega) _ _ _⟩
    ·rw [Below.heap_setCell _ _ _ _ (by show g ≠ w.heap.size + 1; omega), Below.heap_setCell _ _ _ _ (by show g ≠ w.heap.size + 1; omega), Below.heap_setCell _ _ _ _ (by show g ≠ w.heap.size + 1; omega)]
    ·rw [← HL0.out]
     exact HGO.out L A1 piv (qF.full (by omega))
  ·obtain ⟨d0, d1, d2, g0, g1, g2⟩ := HST.out.box.o.three
   have hlt9 := HST.out.box.o.lt;go_wp2_with fail
   refine bodyPost_ret (v := .tuple #[mV n c D na kD, .slice Ap piv.length kp, .int .i64 0]) (by simp [results, Try.results20, go_sem, d0, d1, d2, hlt9]) rfl ?_;have q := HST.out;refine ⟨D, kD, _, piv, L, List.replicate n [], A1, rfl, (q.data.vK (by omega) _ _ _).mono (by omega), (q.own.mS fun g hb hg => ?_).mono (by omega), ?_, ⟨by simp, fun i hi => by rw [tS]; rfl⟩, bM q.box.below (by omega) _ _ _⟩
   ·rw [Below.heap_setCell _ _ _ _ (by show g ≠ w.heap.size + 1; omega), Below.heap_setCell _ _ _ _ (by show g ≠ w.heap.size + 1; omega), Below.heap_setCell _ _ _ _ (by show g ≠ w.heap.size + 1; omega)]
   ·rw [← HL0.out]
    exact HGO.out L A1 piv (qF.out (by omega))
theorem JF (r c : Int) (na ka : Nat) (A : Option Addr) (w : World) (hrt : Hid (bC r c na = false)) :
  Calls Try.prog 20 #[mV r c A na ka] w fun e w' => e = .returned (.tuple #[mV 0 0 none 0 0, .slice none 0 0, .int .i64 3]) ∧ Below w.heap.size w w' := by
 have HR := Lib.hid (fun w => iW r c A na ka w);rw [hrt.out] at HR;obtain ⟨W2, hW2⟩ : ∃ W2, W2 = (w.alloc (.cells #[.int .i64 r, .int .i64 c, .slice A na ka] 24)).alloc (.cells #[.int .i64 0, .int .i64 0, .slice none 0 0] 24) := ⟨_, rfl⟩
 have hb2 : Below w.heap.size w W2 := by rw [hW2]; exact ((Below.refl _ _).alloc (Nat.le_refl _) _).alloc (by simp) _
 have ho : Row W2 (w.heap.size + 1) 24 [.int .i64 0, .int .i64 0, .slice none 0 0] := by
  rw [hW2];have q := Row.new (w.alloc (.cells #[.int .i64 r, .int .i64 c, .slice A na ka] 24)) [.int .i64 0, .int .i64 0, .slice none 0 0] 24
  simpa using q
 have HW2 := Lib.hid hW2;have yP := Lib.hid hb2;have HO := Lib.hid ho;clear hW2 hb2 ho;go_enter Try.func20, Try.ntmps20;go_wp2_with fail
 rw [← HW2.out];refine (HR.out W2).mono ?_;rintro e w3 ⟨rfl, hb3⟩;have ho3 := HO.out.below hb3 HO.out.lt;obtain ⟨d0, d1, d2, g0, g1, g2⟩ := ho3.three;have hlt := ho3.lt;have DV := Lib.hid (yP.out.trans (hb3.mono yP.out.size));clear hb3 ho3;go_wp2_with fail
 refine bodyPost_ret (v := .tuple #[mV 0 0 none 0 0, .slice none 0 0, .int .i64 3]) (by simp [results, Try.results20, go_sem, d0, d1, d2, hlt]) rfl ?_;exact ⟨rfl, bM DV.out (by omega) _ _ _⟩
end Go.Proofs.Yteofcbkjhdadpaa
namespace Go.Proofs.Yteofcbkjhdadpaa
open Go.RowKit Go.Proofs.aD.aT
def nZ (zs : List Nat) : List Int := zs.map fun (z : Nat) => (z : Int)
theorem lI (zs : List Nat) : (nZ zs).length = zs.length := by simp [nZ]
theorem QL {w : World} {base : Nat} {v : Value} {zs : List Nat} {ok : Nat → Prop} (h : mH w base v zs) (hk : ∀ k, v.ownBlock = some k → ok k) : Kd.R (Kd.int .i64) 3 w base ok v (nZ zs) := by
 refine Kd.p8 ?_ hk;have e : pA (Value.int .i64) (nZ zs) = WC zs := by simp [pA, WC, nZ]
 rw [lI, e];exact h
theorem AU {w : World} {b1 b2 n1 n2 : Nat} {v1 v2 : Value} {t1 t2 : TypeId} {xs1 xs2 : List Value} (h1 : w.ownsRow b1 t1 1 v1 n1 xs1) (h2 : w.ownsRow b2 t2 1 v2 n2 xs2) (ht : t1 ≠ t2) : ∀ k, v1.ownBlock = some k → some k ≠ v2.ownBlock := by
 intro k e e2;obtain ⟨ys, r1⟩ := BF h1 e;obtain ⟨zs, r2⟩ := BF h2 e2.symm;exact Row.qO r1 r2 ht rfl
def OS (c : Nat) (xs : List UInt8) : List (List UInt8) × List (List UInt8) × List Nat := sQ c c (fY (xs.take (c * c)) c c) (HJ c)
def dB.f (a0 a1 : Int) (l : List Int) : Option (Int × Int × List Int × Int) :=
 if PV l = true then (if nY a0 a1 l.length = true then (if (OS a1.toNat (l.map sI)).2.2.length < a1.toNat then some (0, 0, [], 6) else some (a0, a1, nI (CL a0.toNat a1.toNat a1.toNat (l.map sI) (OS a1.toNat (l.map sI)).2.1.flatten), 0)) else some (0, 0, [], 3)) else none
theorem RQ {r c : Int} {n : Nat} (h : nY r c n = true) : ∃ a b : Nat, r = a ∧ c = b ∧ a ≤ 64 ∧ b ≤ a ∧ n = a * b := by
 unfold nY at h;rw [Bool.and_eq_true, decide_eq_true_eq] at h;obtain ⟨a, b, h1, h2, h3, h4, h5⟩ := oG h.1;exact ⟨a, b, h1, h2, h3, by omega, h5⟩
theorem dB.calls (bL : Int) (bI : Int) (dK : Option Addr) (dI : Nat) (bJ : List Int) (r1 : Int) (r2 : Int) (r3 : List Int) (r4 : Int) (w : World) (hr0_2 : Kd.C (Kd.int .u8) w dK bJ.length bJ) (hc0_2 : bJ.length ≤ dI) (h : dB.f bL bI bJ = some (r1, r2, r3, r4)) :
  Calls Try.prog 14 #[.agg #[.int .i64 bL, .int .i64 bI, .slice dK bJ.length dI]] w fun e w' => ∃ qE : Value, e = .returned (.tuple #[.agg #[.int .i64 r1, .int .i64 r2, qE], .int .i64 r4]) ∧ Kd.R (Kd.int .u8) 5 w' w.heap.size (fun _ => True) qE r3 ∧ Below w.heap.size w w' := by
 unfold dB.f at h
 split at h
 ·rename_i hi
  obtain ⟨xs, rfl⟩ := rN hi;simp only [bY, pZ] at h hc0_2 ⊢
  split at h
  ·rename_i hm
   obtain ⟨a, b, rfl, rfl, ha, hb, hn⟩ := RQ hm;simp only [Int.toNat_natCast] at h;refine (VN a b xs.length dI dK xs w (tT hr0_2) (Lib.hid hn) hc0_2 ha hb).mono ?_;rintro e w' ⟨piv, L', A2, hred, hbel, hcase⟩;obtain ⟨_, e2, e3⟩ := hred.a2V;have es : sQ b b (fY (xs.take (b * b)) b b) (HJ b) = OS b xs := rfl;rw [es] at e2 e3
   rcases hcase with ⟨hlt, rfl⟩ | ⟨heq, A', rfl, ho⟩
   ·rw [e3] at hlt
    rw [if_pos hlt] at h;simp only [Option.some.injEq, Prod.mk.injEq] at h;obtain ⟨rfl, rfl, rfl, rfl⟩ := h;exact ⟨_, rfl, Kd.vS _ _ _ _ _, hbel⟩
   ·rw [e3] at heq
    rw [if_neg (by omega)] at h;simp only [Option.some.injEq, Prod.mk.injEq] at h;obtain ⟨rfl, rfl, rfl, rfl⟩ := h;rw [e2] at ho;exact ⟨_, rfl, p8 ho, hbel⟩
  ·rename_i hm
   simp only [Option.some.injEq, Prod.mk.injEq] at h;obtain ⟨rfl, rfl, rfl, rfl⟩ := h;refine (a0F bL bI dK xs.length dI w (Lib.hid (by simpa using hm))).mono ?_;rintro e w' ⟨rfl, hb⟩;exact ⟨_, rfl, Kd.vS _ _ _ _ _, hb⟩
 ·cases h
def P6 (n c : Nat) (xs : List UInt8) : List (List UInt8) × List (List UInt8) × List Nat := sQ n c (fY xs n c) (List.replicate n [])
def eM.f (a0 a1 : Int) (l : List Int) : Option (Int × Int × List Int × List Int × Int) :=
 if PV l = true then (if bC a0 a1 l.length = true then some (a0, a1, nI (P6 a0.toNat a1.toNat (l.map sI)).1.flatten, nZ (P6 a0.toNat a1.toNat (l.map sI)).2.2, 0) else some (0, 0, [], [], 3)) else none
theorem pB.a7u {n c : Nat} {L A1 A2 L1 L2 B1 B2 : List (List UInt8)} {p1 p2 : List Nat} {m1 m2 : Nat} (hL : eG n c L) (hA1 : eG n m1 A1) (YI : eG n m2 A2) (h1 : qF n c 0 0 L A1 [] L1 B1 p1) (h2 : qF n c 0 0 L A2 [] L2 B2 p2) : L1 = L2 ∧ p1 = p2 := by
 obtain ⟨f1, r1, _⟩ := h1.toF hL hA1;obtain ⟨f2, r2, _⟩ := h2.toF hL YI;obtain ⟨e1, e2⟩ := pB.unique (A2 := fH A2) f1 f2;refine ⟨y6 r1.len r2.len fun i hi => ?_, e2⟩;refine List.ext_getElem (by have a := r1.wid i hi; have b := r2.wid i hi; omega) fun j h3 h4 => ?_
 have e := congrFun (congrFun e1 i) j;unfold fH at e;rw [List.getD_eq_getElem?_getD, List.getElem?_eq_getElem h3, List.getD_eq_getElem?_getD (l := L2.getD i []), List.getElem?_eq_getElem h4] at e;exact e
theorem F6 (n : Nat) : eG n 0 (List.replicate n []) := ⟨by simp, fun i hi => by rw [tS]; rfl⟩
theorem VU {n c m : Nat} {xs : List UInt8} {A L' A' : List (List UInt8)} {p : List Nat} (hx : xs.length = n * c) (hA : eG n m A) (h : qF n c 0 0 (fY xs n c) A [] L' A' p) : L' = (P6 n c xs).1 ∧ p = (P6 n c xs).2.2 :=
 pB.a7u (jQ hx) hA (F6 n) h (oH n c (fY xs n c) (List.replicate n []))
theorem eM.calls (bL : Int) (bI : Int) (dK : Option Addr) (dI : Nat) (bJ : List Int) (r1 : Int) (r2 : Int) (r3 : List Int) (r4 : List Int) (r5 : Int) (w : World) (hr0_2 : Kd.C (Kd.int .u8) w dK bJ.length bJ) (hc0_2 : bJ.length ≤ dI) (h : eM.f bL bI bJ = some (r1, r2, r3, r4, r5)) :
  Calls Try.prog 20 #[.agg #[.int .i64 bL, .int .i64 bI, .slice dK bJ.length dI]] w fun e w' => ∃ qE v3_ : Value, e = .returned (.tuple #[.agg #[.int .i64 r1, .int .i64 r2, qE], v3_, .int .i64 r5]) ∧ Kd.R (Kd.int .u8) 5 w' w.heap.size (fun k_ => some k_ ≠ v3_.ownBlock) qE r3 ∧ Kd.R (Kd.int .i64) 3 w' w.heap.size (fun k_ => some k_ ≠ qE.ownBlock) v3_ r4 ∧ Below w.heap.size w w' := by
 unfold eM.f at h
 split at h
 ·rename_i hi
  obtain ⟨xs, rfl⟩ := rN hi;simp only [bY, pZ] at h hc0_2 ⊢
  split at h
  ·rename_i hm
   obtain ⟨a, b, rfl, rfl, ha, hb, hn⟩ := oG hm;simp only [Int.toNat_natCast, Option.some.injEq, Prod.mk.injEq] at h;obtain ⟨rfl, rfl, rfl, rfl, rfl⟩ := h;refine (GP a b xs.length dI dK xs w (tT hr0_2) (Lib.hid hn) hc0_2 ha hb).mono ?_;rintro e w' ⟨A', k', v, piv, L', A2, A3, rfl, ho, hown, hred, hrA, hbel⟩;obtain ⟨e1, e2⟩ := VU hn hrA hred;subst e1 e2;exact ⟨_, _, rfl, KI ho (AU ho.2 hown (by decide)), QL hown (AU hown ho.2 (by decide)), hbel⟩
  ·rename_i hm
   simp only [Option.some.injEq, Prod.mk.injEq] at h;obtain ⟨rfl, rfl, rfl, rfl, rfl⟩ := h;refine (JF bL bI xs.length dI dK w (Lib.hid (by simpa using hm))).mono ?_;rintro e w' ⟨rfl, hb⟩;exact ⟨_, _, rfl, Kd.vS _ _ _ _ _, Kd.vS _ _ _ _ _, hb⟩
 ·cases h
end Go.Proofs.Yteofcbkjhdadpaa
namespace Go.Proofs.Yteofcbkjhdadpaa
open Go.RowKit
theorem PN (a b : UInt8) (w : World) :
  Calls Try.prog 64 #[.int .u8 (a.toNat : Int), .int .u8 (b.toNat : Int)] w fun e w' => e = .returned (.int .u8 ((Gf.mul a b).toNat : Int)) ∧ w = w' := by
 go_enter Try.func64, Try.ntmps64;go_wp2_with fail
 go_loop [0, 1, 5] (fun v0 v1 v5 => ∃ (n : Nat) (x y p : UInt8), v0 = .int .u8 (x.toNat : Int) ∧ v1 = .int .u8 (y.toNat : Int) ∧ v5 = .int .u8 (p.toNat : Int) ∧ Hid (Gf.o6 n x y p = Gf.mul a b ∧ y.toNat < 2 ^ n)) (fun _ v1 _ => (intOf v1).toNat)
 case atStart => exact ⟨8, a, b, 0, rfl, rfl, rfl, rfl, b.toNat_lt⟩
 case round =>
  obtain ⟨n, x, y, p, rfl, rfl, rfl, H⟩ := hrel
  by_cases hy : y = 0
  ·have hy1 : ((y.toNat : Int) != 0) = false := by show (!((y.toNat : Int) == 0)) = false; rw [mM, hy]; rfl
   have HY := Lib.hid hy;clear hy;go_wp2_with fail
   go_ret;obtain ⟨H1, _⟩ := H.out;rw [HY.out, Gf.LX] at H1;exact ⟨C8 (by rw [H1]), rfl⟩
  ·have hy1 : ((y.toNat : Int) != 0) = true := by show (!((y.toNat : Int) == 0)) = true; rw [mM, decide_eq_false hy]; rfl
   have hpos : 0 < y.toNat := Nat.pos_of_ne_zero (fun h => hy ((toNat_zero y).1 h));have hs := L7 y;obtain ⟨m, rfl⟩ : ∃ m, n = m + 1 := by
    cases n with
    | zero => exact absurd H.out.2 (by simp; omega)
    | succ m => exact ⟨m, rfl⟩
   have HS := Lib.hid hs;clear hs
   by_cases h1 : y &&& 1 = 0
   ·have hb : (bits .and .u8 (y.toNat : Int) 1 != 0) = false := by rw [DS, h1]; rfl
    have H1 := Lib.hid h1;clear h1 hy;go_wp2_with (go_at_call 87; refine (rQ _ _).mono ?_; rintro e w' ⟨rfl, rfl⟩)
    go_round
    case rel =>
     refine ⟨m, Gf.EV x, y >>> 1, p, rfl, by rw [HS.out], rfl, ?_, ?_⟩
     ·have h := H.out.1
      simp only [Gf.o6, H1.out, if_true] at h;exact h
     ·have h := H.out.2
      rw [GG];omega
    case measure => simp [intOf]; omega
   ·have hb : (bits .and .u8 (y.toNat : Int) 1 != 0) = true := by rw [DS, decide_eq_false h1]; rfl
    have H1 := Lib.hid h1;clear h1 hy;go_wp2_with (go_at_call 87; refine (rQ _ _).mono ?_; rintro e w' ⟨rfl, rfl⟩)
    go_round
    case rel =>
     refine ⟨m, Gf.EV x, y >>> 1, Gf.add p x, rfl, by rw [HS.out], by rw [yI], ?_, ?_⟩
     ·have h := H.out.1
      simp only [Gf.o6] at h;rw [if_neg H1.out] at h;exact h
     ·have h := H.out.2
      rw [GG];omega
    case measure => simp [intOf]; omega
end Go.Proofs.Yteofcbkjhdadpaa
namespace Go.Proofs.Yteofcbkjhdadpaa
open Go.RowKit Go.Proofs.aD.aT
def kP.f (a b : Int) : Option Int := if (sX a && sX b) = true then some ((Gf.mul (sI a) (sI b)).toNat : Int) else none
theorem kP.calls (a0 : Int) (a1 : Int) (r : Int) (w : World)  (h : kP.f a0 a1 = some r) :
  Calls Try.prog 64 #[.int .u8 a0, .int .u8 a1] w fun e w' => e = .returned (.int .u8 r) ∧ kL w w' := by
 unfold kP.f at h
 split at h
 ·rename_i hi
  rw [Bool.and_eq_true] at hi;obtain rfl := Option.some.inj h;have hc := PN (sI a0) (sI a1) w;rw [yY hi.1, yY hi.2] at hc;refine hc.mono ?_;rintro e w' ⟨rfl, rfl⟩;exact ⟨rfl, 0, rfl⟩
 ·cases h
end Go.Proofs.Yteofcbkjhdadpaa
namespace Go.Proofs.Yteofcbkjhdadpaa
open Go.RowKit Go.Proofs.aD.aT
def jH.f (a : Int) : Option (Int × Int) := if sX a = true then some (((Gf.inv (sI a)).toNat : Int), Gf.zK (sI a)) else none
theorem jH.calls (a0 : Int) (r1 : Int) (r2 : Int) (w : World)  (h : jH.f a0 = some (r1, r2)) :
  Calls Try.prog 46 #[.int .u8 a0] w fun e w' => e = .returned (.tuple #[.int .u8 r1, .int .i64 r2]) ∧ kL w w' := by
 unfold jH.f at h
 split at h
 ·rename_i hi
  simp only [Option.some.injEq, Prod.mk.injEq] at h;obtain ⟨rfl, rfl⟩ := h;have hc := xO (sI a0) w;rw [yY hi] at hc;refine hc.mono ?_;rintro e w' ⟨rfl, rfl⟩;exact ⟨rfl, 0, rfl⟩
 ·cases h
end Go.Proofs.Yteofcbkjhdadpaa
namespace Go.Proofs.Yteofcbkjhdadpaa
open Go.RowKit Go.Proofs.aD.aT
def gH.f (a b : Int) : Option Int := if (sX a && sX b) = true then some ((Gf.mul (sI a) (sI b)).toNat : Int) else none
theorem gH.calls (a0 : Int) (a1 : Int) (r : Int) (w : World)  (h : gH.f a0 a1 = some r) :
  Calls Try.prog 24 #[.int .u8 a0, .int .u8 a1] w fun e w' => e = .returned (.int .u8 r) ∧ kL w w' := by
 unfold gH.f at h
 split at h
 ·rename_i hi
  rw [Bool.and_eq_true] at hi;obtain rfl := Option.some.inj h;have hc := mA (sI a0) (sI a1) w;rw [yY hi.1, yY hi.2] at hc;refine hc.mono ?_;rintro e w' ⟨rfl, rfl⟩;exact ⟨rfl, 0, rfl⟩
 ·cases h
end Go.Proofs.Yteofcbkjhdadpaa
namespace Go.Proofs.Yteofcbkjhdadpaa
open Go.RowKit Go.Proofs.aD.aT
theorem SR (xs : List UInt8) (i : Nat) (x : UInt8) : (nI xs).set i (x.toNat : Int) = nI (xs.set i x) := by simp [nI, List.map_set]
theorem NI (xs : List UInt8) (x : UInt8) : nI xs ++ [(x.toNat : Int)] = nI (xs ++ [x]) := by simp [nI]
theorem SU (xs ys : List UInt8) : nI xs ++ nI ys = nI (xs ++ ys) := by simp [nI]
theorem SS (n : Nat) : List.replicate n (0 : Int) = nI (List.replicate n 0) := by simp [nI]
theorem ZA (xs : List UInt8) (i : Nat) : rd (nI xs) (i : Int) = ((xs.getD i 0).toNat : Int) := by
 unfold rd nI;rw [Int.toNat_natCast, List.getD_eq_getElem?_getD, List.getElem?_map, List.getD_eq_getElem?_getD]
 cases xs[i]? <;> simp
theorem RF {e : Int} (h0 : -9223372036854775808 ≤ e) (h1 : e ≤ 9223372036854775807) : wrap64 e = e := by
 unfold wrap64;omega
theorem VF {n : Nat} (h : n ≤ 9223372036854775807) : wrap64 (n : Int) = (n : Int) := RF (by omega) (by omega)
theorem kW {i : Nat} (h : i ≤ 9223372036854775806) : wrap64 ((i : Int) + 1) = ((i + 1 : Nat) : Int) := by
 rw [RF (by omega) (by omega)]; rfl
theorem GB {i c : Nat} (h : i * c ≤ 9223372036854775807) : wrap64 ((i : Int) * (c : Int)) = ((i * c : Nat) : Int) := by
 rw [← Int.natCast_mul, RF (by omega) (by omega)]
theorem GC {i c : Nat} (h : i + c ≤ 9223372036854775807) : wrap64 ((i : Int) + (c : Int)) = ((i + c : Nat) : Int) := by
 rw [← Int.natCast_add, RF (by omega) (by omega)]
theorem yW {i c j : Nat} (h : i * c + j ≤ 9223372036854775807) : wrap64 (wrap64 ((i : Int) * (c : Int)) + (j : Int)) = ((i * c + j : Nat) : Int) := by
 rw [GB (by omega), GC h]
end Go.Proofs.Yteofcbkjhdadpaa
namespace Go.Proofs.Yteofcbkjhdadpaa
open Go.RowKit Go.Proofs.aD.aT
theorem H4 {xs : List UInt8} {n : Nat} {x : UInt8} (h : x ∈ xs.take n) : ∃ k, k < n ∧ k < xs.length ∧ xs.getD k 0 = x := by
 obtain ⟨k, hk, e⟩ := List.mem_iff_getElem.1 h;rw [List.length_take] at hk;refine ⟨k, by omega, by omega, ?_⟩;rw [List.getElem_take] at e;rw [← e]
 simp [List.getD, show k < xs.length by omega]
def a1i (xs ys : List UInt8) : Int := if nW xs ys = 0 then (xs.length : Int) else 0
def a1j (xs ys : List UInt8) : Int := if nW xs ys = 0 then (ys.length : Int) else 0
def a1k (xs ys : List UInt8) : List UInt8 := if nW xs ys = 0 then yF xs ys else []
theorem TV (xs ys : List UInt8) (hx : xs.length ≤ 140737488355328) (hy : ys.length ≤ 140737488355328) : dS.f (nI xs) (nI ys) = some (a1i xs ys, a1j xs ys, nI (a1k xs ys), nW xs ys) := by
 unfold dS.f;rw [zL, zL, bY, bY, decide_eq_true hx, decide_eq_true hy, pZ, pZ];rfl
end Go.Proofs.Yteofcbkjhdadpaa
namespace Go.Proofs.Yteofcbkjhdadpaa
theorem CU (c : Nat) : eG c c (HJ c) := ⟨HH c, fun i hi => by rw [xY hi, yX]⟩
section
variable {c : Nat} {L : List (List UInt8)} (hL : eG c c L)
abbrev nG (c : Nat) (L : List (List UInt8)) : List (List UInt8) × List (List UInt8) × List Nat := sQ c c L (HJ c)
include hL
theorem TO : eG c c (nG c L).1 ∧ eG c c (nG c L).2.1 := ((oH c c L (HJ c)).toF hL (CU c)).2
omit hL in
theorem TP {c i l : Nat} (hi : i < c) (hl : l < c) : fH (HJ c) i l = if l = i then 1 else 0 := by
 unfold fH;rw [xY hi];unfold AG;rw [List.getD_eq_getElem?_getD, List.getElem?_set, List.length_replicate]
 by_cases e : i = l
 ·rw [if_pos e, if_pos hi, if_pos e.symm]
  rfl
 ·rw [if_neg e, if_neg (fun h => e h.symm), List.getElem?_replicate, if_pos hl]
  rfl
theorem NL (hp : (nG c L).2.2.length = c) (x y : Nat → UInt8) : (∀ i, i < c → x i = kE (fH (nG c L).2.1) c y i) ↔ ∀ i, i < c → kE (fH L) c x i = y i := by
 have hF := ((oH c c L (HJ c)).toF hL (CU c)).1;have hpl : (sQ c c L (HJ c)).2.2.length = c := hp;have hs := hF.sat (m := c) (x := x) (y := y);have h1 : ∀ i, i < c → kE (fH (nG c L).1) c x i = x i := by
  intro i hi;unfold kE;rw [iN hi (fun l hl hne => by
   have h1 := hF.wC.one i l (by omega) (by omega);rw [hF.wC.full hp hl] at h1;rw [h1, if_neg (fun e => hne e.symm), Gf.cC])]
  have h1 := hF.wC.one i i (by omega) (by omega);rw [hF.wC.full hp hi, if_pos rfl] at h1;rw [h1, Gf.one_mul]
 have h2 : ∀ i, i < c → kE (fH (HJ c)) c y i = y i := by
  intro i hi;unfold kE;rw [iN hi (fun l hl hne => by rw [TP hi hl, if_neg hne, Gf.cC]), TP hi hi, if_pos rfl, Gf.one_mul]
 unfold MG at hs
 constructor
 ·intro h i hi
  rw [← h2 i hi];exact hs.1 (fun k hk => by rw [h1 k hk]; exact h k hk) i hi
 ·intro h i hi
  rw [← h1 i hi];exact hs.2 (fun k hk => by rw [h2 k hk]; exact h k hk) i hi
end
end Go.Proofs.Yteofcbkjhdadpaa
namespace Go.Proofs.Yteofcbkjhdadpaa
open Gf
theorem WS {a b : UInt8} (ha : a ≠ 0) (hb : b ≠ 0) : add (inv a) (inv b) = mul (add a b) (mul (inv a) (inv b)) := by
 rw [add_mul, ← mul_assoc a, xT ha, one_mul, mul_left_comm b, xT hb, mul_one, add_comm]
theorem tB {a b : UInt8} (h : a ≠ b) : add a b ≠ 0 := fun e => h ((add_eq_zero _ _).1 e)
theorem nF {a b : UInt8} (ha : a ≠ 0) (h : mul a b = 0) : b = 0 := ((mul_eq_zero _ _).1 h).resolve_left ha
theorem U7 {x y y' z : UInt8} (h : x ≠ y) : mul (add x y') (mul (inv (add x y)) z) = add z (mul (mul (add y y') (inv (add x y))) z) := by
 have e : add x y' = add (add x y) (add y y') := by rw [add_assoc, wQ]
 rw [e, ← mul_assoc, add_mul, xT (tB h), add_mul, one_mul]
theorem O1 : ∀ (m n : Nat) (x y z : Nat → UInt8), m ≤ n → (∀ i i', i < n → i' < n → i ≠ i' → x i ≠ x i') → (∀ j j', j < m → j' < m → j ≠ j' → y j ≠ y j') → (∀ i j, i < n → j < m → x i ≠ y j) →
  (∀ i, i < n → mP (fun j => mul (inv (add (x i) (y j))) (z j)) m = 0) → ∀ j, j < m → z j = 0
 | 0, n, x, y, z, _, _, _, _, _ => fun j hj => by omega
 | m + 1, 0, x, y, z, h, _, _, _, _ => by omega
 | m + 1, n + 1, x, y, z, h, hx, hy, hxy, hk => by
  have hF : ∀ i, i < n + 1 → mP (fun j => mul (mul (add (y j) (y m)) (inv (add (x i) (y j)))) (z j)) m = mP z (m + 1) := by
   intro i hi;have e := congrArg (mul (add (x i) (y m))) (hk i hi);rw [mul_zero, ← oA, dM (g := fun j => add (z j) (mul (mul (add (y j) (y m)) (inv (add (x i) (y j)))) (z j))) (fun j hj => U7 (hxy i j hi hj)), tO] at e;have e2 := (add_eq_zero _ _).1 e;rw [e2, mP, mE, cC, cC, add_zero]
  have hw : ∀ j, j < m → mul (mul (add (y j) (y m)) (z j)) (inv (add (x n) (y j))) = 0 := by
   refine O1 m n x y (fun j => mul (mul (add (y j) (y m)) (z j)) (inv (add (x n) (y j)))) (by omega) (fun i i' h1 h2 => hx i i' (by omega) (by omega)) (fun j j' h1 h2 => hy j j' (by omega) (by omega)) (fun i j h1 h2 => hxy i j (by omega) (by omega)) (fun i hi => ?_);have e1 := hF i (by omega);have e2 := hF n (by omega);rw [← e2] at e1;have e3 := (add_eq_zero _ _).2 e1;rw [← tO] at e3;have e4 : mP (fun j => mul (add (x i) (x n)) (mul (inv (add (x i) (y j))) (mul (mul (add (y j) (y m)) (z j)) (inv (add (x n) (y j)))))) m = 0 := by
    rw [← e3];refine dM fun j hj => ?_
    have n1 := tB (hxy i j (by omega) (by omega));have n2 := tB (hxy n j (by omega) (by omega));have e5 : add (x i) (x n) = add (add (x i) (y j)) (add (x n) (y j)) := by rw [add_comm (x n), add_assoc, wQ]
    have e6 : add (mul (mul (add (y j) (y m)) (inv (add (x i) (y j)))) (z j)) (mul (mul (add (y j) (y m)) (inv (add (x n) (y j)))) (z j)) = mul (add (inv (add (x i) (y j))) (inv (add (x n) (y j)))) (mul (add (y j) (y m)) (z j)) := by
     rw [add_mul (inv (add (x i) (y j))), mul_comm (add (y j) (y m)) (inv (add (x i) (y j))), mul_comm (add (y j) (y m)) (inv (add (x n) (y j))), mul_assoc, mul_assoc]
    rw [e6, WS n1 n2, ← e5, mul_assoc (add (x i) (x n)), mul_assoc (inv (add (x i) (y j))) (inv (add (x n) (y j))), mul_comm (inv (add (x n) (y j)))]
   rw [oA] at e4;exact nF (tB (hx i n (by omega) (by omega) (by omega))) e4
  have hz : ∀ j, j < m → z j = 0 := by
   intro j hj;have e := hw j hj;rw [mul_comm] at e;have e := nF (H8 (tB (hxy n j (by omega) (by omega)))) e;exact nF (tB (hy j m (by omega) (by omega) (by omega))) e
  intro j hj
  rcases Nat.lt_or_ge j m with h1 | h1
  ·exact hz j h1
  ·obtain rfl : j = m := by omega
   have e := hk 0 (by omega);rw [mP, nD (fun i hi => by rw [hz i hi, mul_zero]), zero_add] at e;exact nF (H8 (tB (hxy 0 j (by omega) (by omega)))) e
/-! Vandermonde: what is left of a sum of powers when a root is taken out -/
def AP (a : UInt8) (z : Nat → UInt8) : Nat → Nat → UInt8
 | 0, _ => 0
 | f + 1, j => add (z j) (mul a (AP a z f (j + 1)))
theorem JV (a b : UInt8) (z : Nat → UInt8) : ∀ f j, add (AP b z f j) (AP a z f j) = mul (add b a) (AP b (fun l => AP a z (j + f - 1 - l) (l + 1)) (f - 1) j)
 | 0, j => by rw [AP, AP, add_zero]; show (0 : UInt8) = mul (add b a) 0; rw [mul_zero]
 | 1, j => by
  show add (add (z j) (mul b 0)) (add (z j) (mul a 0)) = mul (add b a) 0;rw [mul_zero, mul_zero, mE, mul_zero]
 | f + 2, j => by
  have ih := JV a b z (f + 1) (j + 1);have e0 : j + (f + 2) - 1 - j = f + 1 := by omega
  show add (add (z j) (mul b (AP b z (f + 1) (j + 1)))) (add (z j) (mul a (AP a z (f + 1) (j + 1)))) = mul (add b a) (add (AP a z (j + (f + 2) - 1 - j) (j + 1)) (mul b (AP b (fun l => AP a z (j + (f + 2) - 1 - l) (l + 1)) f (j + 1))));rw [e0];have e1 : add (add (z j) (mul b (AP b z (f + 1) (j + 1)))) (add (z j) (mul a (AP a z (f + 1) (j + 1)))) = add (mul b (add (AP b z (f + 1) (j + 1)) (AP a z (f + 1) (j + 1)))) (mul (add b a) (AP a z (f + 1) (j + 1))) := by
   rw [add_assoc, add_left_comm (mul b _), ← add_assoc (z j), mE, zero_add, mul_add, add_mul, add_assoc]
   congr 1
   rw [← add_assoc, mE, zero_add]
  rw [e1, ih, show f + 1 - 1 = f from rfl, show j + 1 + (f + 1) - 1 = j + (f + 2) - 1 by omega, mul_left_comm, mul_add, add_comm]
theorem F2 (g : Nat → UInt8) : ∀ n, mP g (n + 1) = add (g 0) (mP (fun i => g (i + 1)) n)
 | 0 => by show add 0 (g 0) = add (g 0) 0; rw [add_zero, zero_add]
 | n + 1 => by
  rw [mP, F2 g n, add_assoc];rfl
theorem I0 (a : UInt8) (z : Nat → UInt8) : ∀ f j, AP a z f j = mP (fun t => mul (npow a t) (z (j + t))) f
 | 0, j => rfl
 | f + 1, j => by
  rw [F2, AP, I0 a z f (j + 1), ← oA]
  congr 1
  ·show z j = mul 1 (z j)
   rw [one_mul]
  ·refine dM fun t _ => ?_
   show mul a (mul (npow a t) (z (j + 1 + t))) = mul (mul (npow a t) a) (z (j + (t + 1)));rw [show j + 1 + t = j + (t + 1) by omega, mul_comm (npow a t) a, mul_assoc]
theorem GD : ∀ (m n : Nat) (x z : Nat → UInt8), m ≤ n → (∀ i i', i < n → i' < n → i ≠ i' → x i ≠ x i') → (∀ i, i < n → AP (x i) z m 0 = 0) → ∀ j, j < m → z j = 0
 | 0, n, x, z, _, _, _ => fun j hj => by omega
 | m + 1, 0, x, z, h, _, _ => by omega
 | m + 1, n + 1, x, z, h, hx, hk => by
  have hq : ∀ l, l < m → AP (x n) z (0 + (m + 1) - 1 - l) (l + 1) = 0 := by
   refine GD m n x (fun l => AP (x n) z (0 + (m + 1) - 1 - l) (l + 1)) (by omega) (fun i i' h1 h2 => hx i i' (by omega) (by omega)) (fun i hi => ?_);have e := JV (x n) (x i) z (m + 1) 0;rw [hk i (by omega), hk n (by omega), add_zero] at e;exact nF (tB (hx i n (by omega) (by omega) (by omega))) e.symm
  have hq' : ∀ j, j ≤ m → AP (x n) z (m - j) (j + 1) = 0 := by
   intro j hj
   rcases Nat.lt_or_ge j m with h1 | h1
   ·have e := hq j h1
    rwa [show 0 + (m + 1) - 1 - j = m - j by omega] at e
   ·rw [show m - j = 0 by omega]
    rfl
  intro j hj
  cases j with
  | zero =>
   have e := hk n (by omega);rw [AP] at e;have e2 := hq' 0 (by omega);rw [Nat.sub_zero] at e2;rw [e2, mul_zero, add_zero] at e;exact e
  | succ j =>
   have e := hq' j (by omega);rw [show m - j = (m - (j + 1)) + 1 by omega, AP, hq' (j + 1) (by omega), mul_zero, add_zero] at e;exact e
end Go.Proofs.Yteofcbkjhdadpaa
namespace Go.Proofs.Yteofcbkjhdadpaa
open Gf
theorem JC (f : Nat → UInt8) : ∀ n, C4 n f = mP f n
 | 0 => rfl
 | n + 1 => by rw [C4, mP, JC f n]
theorem ofNat_inj {a b : Nat} (ha : a < 256) (hb : b < 256) (h : UInt8.ofNat a = UInt8.ofNat b) : a = b := by
 have e := congrArg UInt8.toNat h;rw [UInt8.toNat_ofNat', UInt8.toNat_ofNat'] at e;omega
/-! Reed -/
section
variable {k n : Nat} {V : List UInt8} (hk : k ≤ n) (hn : n ≤ 64) (hV : V.length = n * k) (hv : ∀ i j, i < n → j < k → V.getD (i * k + j) 0 = npow (UInt8.ofNat i) j)
include hk hn hV hv
abbrev vF (k : Nat) (V : List UInt8) : List (List UInt8) := fY (V.take (k * k)) k k
omit hn hv in
theorem xG : eG k k (vF k V) := jQ (by
 rw [List.length_take, hV];have := Nat.mul_le_mul_right k hk;omega)
omit hn in
theorem RP {i j : Nat} (hi : i < k) (hj : j < k) : fH (vF k V) i j = npow (UInt8.ofNat i) j := by
 have hp := jI hi hj;have hle := Nat.mul_le_mul_right k hk;have hl : (V.take (k * k)).length = k * k := by rw [List.length_take, hV]; omega
 rw [← n8 (jQ hl) hi hj, tR hl, ← hv i j (by omega) hj, List.getD_eq_getElem?_getD, List.getElem?_take_of_lt hp, ← List.getD_eq_getElem?_getD]
theorem BU : (nG k (vF k V)).2.2.length = k := by
 have hT := xG hk hV;have hF := ((oH k k (vF k V) (HJ k)).toF hT (CU k)).1;refine hF.F9.2 fun z hz => GD k k (fun i => UInt8.ofNat i) z (Nat.le_refl _) (fun i i' h1 h2 hne e => hne (ofNat_inj (by omega) (by omega) e)) fun i hi => ?_
 rw [I0];refine Eq.trans (dM fun j hj => ?_) (hz i hi);rw [Nat.zero_add, RP hk hV hv hi hj]
omit hn in
theorem CB {i j : Nat} (hi : i < n) (hj : j < k) : (CL n k k V (nG k (vF k V)).2.1.flatten).getD (i * k + j) 0 = mP (fun t => mul (npow (UInt8.ofNat i) t) (fH (nG k (vF k V)).2.1 t j)) k := by
 have hA := (TO (xG hk hV)).2;unfold CL;rw [uF _ hi hj];unfold TF;rw [JC];exact dM fun t ht => by rw [hv i t hi ht, n8 hA ht hj]
omit hn in
theorem S5 (z : Nat → UInt8) {i : Nat} (hi : i < n) : mP (fun j => mul ((CL n k k V (nG k (vF k V)).2.1.flatten).getD (i * k + j) 0) (z j)) k = AP (UInt8.ofNat i) (fun t => kE (fH (nG k (vF k V)).2.1) k z t) k 0 := by
 rw [I0, dM (g := fun j => mP (fun t => mul (mul (npow (UInt8.ofNat i) t) (fH (nG k (vF k V)).2.1 t j)) (z j)) k) (fun j hj => by rw [CB hk hV hv hi hj, EI]), C5];refine dM fun t ht => ?_
 rw [Nat.zero_add];unfold kE;rw [← oA];exact dM fun j hj => by rw [mul_assoc]
theorem S4 (r : Nat → Nat) (h1 : ∀ i, i < k → r i < n) (h2 : ∀ i i', i < k → i' < k → i ≠ i' → r i ≠ r i') (z : Nat → UInt8) (hz : ∀ i, i < k → mP (fun j => mul ((CL n k k V (nG k (vF k V)).2.1.flatten).getD (r i * k + j) 0) (z j)) k = 0) : ∀ j, j < k → z j = 0 := by
 have hq : ∀ t, t < k → kE (fH (nG k (vF k V)).2.1) k z t = 0 := by
  refine GD k k (fun i => UInt8.ofNat (r i)) _ (Nat.le_refl _) (fun i i' a b hne e => h2 i i' a b hne (ofNat_inj (by have := h1 i a; omega) (by have := h1 i' b; omega) e)) fun i hi => ?_
  rw [← S5 hk hV hv z (h1 i hi)];exact hz i hi
 have hs := (NL (xG hk hV) (BU hk hn hV hv) (fun _ => 0) z).1 (fun i hi => (hq i hi).symm);intro j hj;rw [← hs j hj];exact Q4 _ _ (fun _ _ => rfl) _
theorem S3 {i j : Nat} (hi : i < k) (hj : j < k) : (CL n k k V (nG k (vF k V)).2.1.flatten).getD (i * k + j) 0 = if i = j then 1 else 0 := by
 have hs := (NL (xG hk hV) (BU hk hn hV hv) (fun t => fH (nG k (vF k V)).2.1 t j) (BT j)).1 (fun t ht => (zP _ hj t).symm) i hi;rw [CB hk hV hv (by omega) hj];unfold kE at hs;rw [dM (g := fun t => mul (fH (vF k V) i t) (fH (nG k (vF k V)).2.1 t j)) (fun t ht => by rw [RP hk hV hv hi ht]), hs];rfl
end
/-! Cross -/
theorem FD : ∀ {l l' : List Nat}, l.Nodup → (∀ x ∈ l, x ∈ l') → l.length ≤ l'.length
 | [], _, _, _ => Nat.zero_le _
 | x :: t, l', h, hs => by
  have hx := hs x (List.mem_cons_self);have hn := List.nodup_cons.1 h;have h2 := FD (l := t) (l' := l'.erase x) hn.2 (fun y hy => (List.mem_erase_of_ne (fun e => hn.1 (by rw [← e]; exact hy))).2 (hs y (List.mem_cons_of_mem _ hy)));rw [List.length_erase_of_mem hx] at h2;have := List.length_pos_of_mem hx;rw [List.length_cons];omega
theorem sS (p : Nat → Bool) : ∀ l : List Nat, (l.filter p).length + (l.filter fun x => !p x).length = l.length
 | [] => rfl
 | x :: t => by
  have ih := sS p t;rw [List.filter_cons, List.filter_cons, List.length_cons]
  cases p x <;> simp <;> omega
theorem C6 (f : Nat → UInt8) (p : Nat → Bool) : ∀ n, (∀ j, j < n → p j = false → f j = 0) → mP f n = mP (fun t => f (((List.range n).filter p).getD t 0)) ((List.range n).filter p).length
 | 0, _ => rfl
 | n + 1, h => by
  rw [mP, C6 f p n (fun j hj => h j (by omega)), List.range_succ, List.filter_append, List.filter_cons]
  cases hp : p n
  ·rw [h n (by omega) hp, add_zero, if_neg (by simp)]
   simp
  ·rw [if_pos rfl, List.filter_nil, List.length_append, List.length_singleton, mP]
   congr 1
   ·refine dM fun t ht => ?_
    rw [List.getD_eq_getElem?_getD (l := _ ++ _), List.getElem?_append_left ht, ← List.getD_eq_getElem?_getD]
   ·rw [List.getD_eq_getElem?_getD, List.getElem?_append_right (Nat.le_refl _), Nat.sub_self]
    rfl
theorem oY {p : Nat → Bool} {n t : Nat} (h : t < ((List.range n).filter p).length) : ((List.range n).filter p).getD t 0 < n ∧ p (((List.range n).filter p).getD t 0) = true := by
 have hm : ((List.range n).filter p).getD t 0 ∈ (List.range n).filter p := by
  rw [List.getD_eq_getElem?_getD, List.getElem?_eq_getElem h];exact List.getElem_mem h
 have h2 := List.mem_filter.1 hm;exact ⟨List.mem_range.1 h2.1, h2.2⟩
theorem NX {p : Nat → Bool} {n t t' : Nat} (h : t < ((List.range n).filter p).length) (h' : t' < ((List.range n).filter p).length) (hne : t ≠ t') : ((List.range n).filter p).getD t 0 ≠ ((List.range n).filter p).getD t' 0 := by
 have hd : ((List.range n).filter p).Nodup := List.Pairwise.filter _ List.nodup_range;rw [List.getD_eq_getElem?_getD, List.getElem?_eq_getElem h, List.getD_eq_getElem?_getD, List.getElem?_eq_getElem h'];intro e;exact hne ((List.getElem_inj hd).1 e)
theorem YK {p : Nat → Bool} {n j : Nat} (hj : j < n) (hp : p j = true) : ∃ t, t < ((List.range n).filter p).length ∧ ((List.range n).filter p).getD t 0 = j := by
 obtain ⟨t, ht, e⟩ := List.mem_iff_getElem.1 (List.mem_filter.2 ⟨List.mem_range.2 hj, hp⟩ : j ∈ (List.range n).filter p);exact ⟨t, ht, by rw [List.getD_eq_getElem?_getD, List.getElem?_eq_getElem ht]; exact e⟩
def wO (a i j : Nat) : UInt8 := if i < a then (if i = j then 1 else 0) else inv (add (UInt8.ofNat i) (UInt8.ofNat j))
theorem Q8 {a b : Nat} (hab : a + b ≤ 64) (r : Nat → Nat) (h1 : ∀ i, i < a → r i < a + b) (h2 : ∀ i i', i < a → i' < a → i ≠ i' → r i ≠ r i') (z : Nat → UInt8) (hz : ∀ i, i < a → mP (fun j => mul (wO a (r i) j) (z j)) a = 0) : ∀ j, j < a → z j = 0 := by
 -- a chosen row of the unit matrix: its place of z is nothing
 have hu : ∀ i, i < a → r i < a → z (r i) = 0 := by
  intro i hi hr;have e := hz i hi;rw [iN hr (fun j hj hne => by unfold wO; rw [if_pos hr, if_neg (fun e => hne e.symm), cC])] at e;unfold wO at e
  rwa [if_pos hr, if_pos rfl, one_mul] at e
 have hz0 : ∀ j, j < a → decide (∀ i, i < a → r i ≠ j) = false → z j = 0 := by
  intro j hj hd;have h3 := of_decide_eq_false hd
  by_cases h4 : z j = 0
  ·exact h4
  ·exact absurd (fun i hi e => h4 (by rw [← e]; exact hu i hi (by omega))) h3
 have hle : ((List.range a).filter fun j => decide (∀ i, i < a → r i ≠ j)).length ≤ ((List.range a).filter fun i => decide (a ≤ r i)).length := by
  have e1 := sS (fun j => decide (∀ i, i < a → r i ≠ j)) (List.range a);have e2 := sS (fun i => decide (a ≤ r i)) (List.range a);have hd : (((List.range a).filter fun i => !decide (a ≤ r i)).map r).Nodup := by
   refine List.pairwise_map.2 (List.Pairwise.imp_of_mem (fun {x y} hx hy hne => ?_) (List.Pairwise.filter _ List.nodup_range));exact h2 x y (List.mem_range.1 (List.mem_filter.1 hx).1) (List.mem_range.1 (List.mem_filter.1 hy).1) hne
  have h3 := FD (l' := (List.range a).filter fun j => !decide (∀ i, i < a → r i ≠ j)) hd (fun x hx => by
   obtain ⟨i, hi, rfl⟩ := List.mem_map.1 hx;have hi := List.mem_filter.1 hi;have hia := List.mem_range.1 hi.1;have hr : r i < a := by have := hi.2; simp at this; exact this
   refine List.mem_filter.2 ⟨List.mem_range.2 hr, ?_⟩;rw [Bool.not_eq_true', decide_eq_false_iff_not];exact fun h => h i hia rfl)
  rw [List.length_map] at h3;rw [List.length_range] at e1 e2;omega
 have hJ := O1 _ _ (fun t => UInt8.ofNat (r (((List.range a).filter fun i => decide (a ≤ r i)).getD t 0))) (fun t => UInt8.ofNat (((List.range a).filter fun j => decide (∀ i, i < a → r i ≠ j)).getD t 0)) (fun t => z (((List.range a).filter fun j => decide (∀ i, i < a → r i ≠ j)).getD t 0)) hle
  (fun t t' g1 g2 hne e => by
   have q1 := (oY g1).1;have q2 := (oY g2).1;have b1 := h1 _ q1;have b2 := h1 _ q2;exact h2 _ _ q1 q2 (NX g1 g2 hne) (ofNat_inj (by omega) (by omega) e))
  (fun t t' g1 g2 hne e => by
   have q1 := (oY g1).1;have q2 := (oY g2).1;exact NX g1 g2 hne (ofNat_inj (by omega) (by omega) e))
  (fun t t' g1 g2 e => by
   have q1 := oY g1;have q2 := (oY g2).1;have b1 := h1 _ q1.1;have b3 := of_decide_eq_true q1.2;have := ofNat_inj (by omega) (by omega) e;omega)
  (fun t g => by
   have q1 := oY g;have b3 := of_decide_eq_true q1.2;have e := hz _ q1.1;rw [C6 _ (fun j => decide (∀ i, i < a → r i ≠ j)) a (fun j hj hp => by rw [hz0 j hj hp, mul_zero])] at e;rw [← e];refine dM fun t' ht' => ?_
   unfold wO;rw [if_neg (by omega)])
 intro j hj
 cases hp : decide (∀ i, i < a → r i ≠ j)
 ·exact hz0 j hj hp
 ·obtain ⟨t, ht, e⟩ := YK (p := fun j => decide (∀ i, i < a → r i ≠ j)) hj hp
  have := hJ t ht
  rwa [e] at this
end Go.Proofs.Yteofcbkjhdadpaa
namespace Go.Proofs.Yteofcbkjhdadpaa
theorem zM (n : Nat) : ∀ m, m ≤ n → mT n m = jJ n n (fun a b => if a = b ∧ a < m then 1 else 0)
 | 0, _ => by
  rw [mT, zN];exact iO fun a b _ _ => (if_neg (by omega)).symm
 | m + 1, h => by
  rw [mT, zM n m (by omega), DA _ _ (by omega) (by omega)];refine iO fun a b _ _ => ?_
  by_cases h1 : a = m ∧ b = m
  ·rw [if_pos h1, if_pos (by omega)]
  ·rw [if_neg h1]
   by_cases h2 : a = b ∧ a < m
   ·rw [if_pos h2, if_pos (by omega)]
   ·rw [if_neg h2, if_neg (by omega)]
end Go.Proofs.Yteofcbkjhdadpaa
namespace Go.Proofs.Yteofcbkjhdadpaa
open Go.ChangeShapes Go.WideShapes Go.ChangeAt Go.RowKit
theorem SM : ownKnob Try.prog.godebug = none := by kernel_rfl
theorem TM : laidOutB Try.prog = true := by kernel_rfl
theorem RO {n : Int} (h : (Lit.int .u8 n).wf = true) : ∃ u : UInt8, n = (u.toNat : Int) := by
 have hb := bounds_u8 h;refine ⟨UInt8.ofNat n.toNat, ?_⟩;rw [UInt8.toNat_ofNat'];omega
theorem RN : ∀ {zs : List Int}, (∀ n ∈ zs, (Lit.int .u8 n).wf = true) → ∃ xs : List UInt8, zs = xs.map fun x => (x.toNat : Int)
 | [], _ => ⟨[], rfl⟩
 | z :: zs, h => by
  obtain ⟨u, hu⟩ := RO (h z (by simp));obtain ⟨xs, hx⟩ := RN (zs := zs) (fun n hn => h n (by simp [hn]));exact ⟨u :: xs, by simp [hu, hx]⟩
theorem LR {H : Type} {enc : TypeId × Value → H} {W : World} {d : DataW H} {p : List MemPlace} {a : Option Addr} {len cap : Nat}
  (h : DataW.Trod enc Try.prog W 0 (fun _ => true) true 22 (.slice a len cap) d p) :
  ∃ (xs : List UInt8), Rd W W.heap.size a len (dF xs) ∧ len ≤ cap ∧ cap ≤ maxLen ∧ ((d = .nil ∧ cap = 0) ∨ ∃ es rs : List (DataW H), d = .slice es rs ∧ es.length + rs.length = cap) := by
 obtain ⟨fuel, hf⟩ := h;have hlt := DataW.trod_lt fuel _ _ _ hf
 rcases open_ints Try.underlying22 Try.underlying5 (by kernel_rfl) hf with ⟨hcs, hx⟩ | ⟨x, l, c, zs, hcs, _, hl, hm, hz, hx, hcell, hwz⟩
 ·simp [Value.cells] at hcs
  obtain ⟨rfl, rfl, rfl⟩ := hcs;exact ⟨[], Rd.nil, Nat.le_refl _, Nat.zero_le _, .inl ⟨by simpa using congrArg Prod.fst hx, rfl⟩⟩
 ·simp [Value.cells] at hcs
  obtain ⟨rfl, rfl, rfl⟩ := hcs;simp only [if_true] at hz;obtain ⟨xs, rfl⟩ := RN hwz;rw [List.length_map] at hz;refine ⟨xs.take len, ⟨by simp [dF]; omega, fun hn => ?_⟩, hl, hm, .inr ⟨_, _, by simpa using congrArg Prod.fst hx, by simp [lits]; omega⟩⟩;obtain ⟨g, o, rfl, hc⟩ := ints_at hcell (by rw [List.length_map]; omega);refine ⟨g, o, rfl, ?_, fun j u hu => ?_⟩
  ·have hp : p = MemPlace.row ⟨g, o, none⟩ ((xs.map fun x => (x.toNat : Int)).length) := by simpa using congrArg Prod.snd hx
   have := hlt (.cell g o) (by rw [hp]; simp [MemPlace.row]; omega);exact this
  ·have hj : j < (dF (xs.take len)).length := by
    rcases Nat.lt_or_ge j (dF (xs.take len)).length with hlt | hge
    ·exact hlt
    ·rw [List.getElem?_eq_none hge] at hu; cases hu
   rw [b6, List.length_take] at hj;rw [hc j (by rw [List.length_map]; omega)];rw [← hu];have hx : (xs.map fun x => (x.toNat : Int)).getD j 0 = ((xs[j]'(by omega)).toNat : Int) := by simp [List.getD]; rw [List.getElem?_eq_getElem (by omega)]; rfl
   rw [hx, mD _ _ (by rw [List.length_take]; omega), List.getElem_take]
theorem K9 : Try.prog.bytesOf 5 = 1 := by kernel_rfl
end Go.Proofs.Yteofcbkjhdadpaa
