/- What the functions compute that the law MatrixFresh reaches, proved by walking them; conditions stand at each theorem. -/
import Derived.Deep.RegionHeld3
import Derived.Test.YtgcgajeagdaenaaCMatrixFreshA1
namespace Go.Proofs.Ytgcgajeagdaenaa
def stackE (ra ca : Int) (na : Nat) (rb cb : Int) (nb : Nat) : Int := if rightB ra ca na && rightB rb cb nb && (ca == cb) then (if ra + rb ≤ 64 then 0 else 4) else 3
def kronE (ra ca : Int) (na : Nat) (rb cb : Int) (nb : Nat) : Int := if rightB ra ca na && rightB rb cb nb then (if ra * rb ≤ 64 ∧ ca * cb ≤ 64 then 0 else 4) else 3
end Go.Proofs.Ytgcgajeagdaenaa
namespace Go.Proofs.Ytgcgajeagdaenaa
open Go.RowKit
set_option linter.unusedVariables false
set_option linter.unusedSimpArgs false

theorem over_front (n : Nat) (xs : List UInt8) (h : xs.length ≤ n) : over (List.replicate n 0) 0 xs = xs ++ List.replicate (n - xs.length) 0 := by
  simp [over, List.drop_replicate]
theorem over_back (xs ys : List UInt8) (m k : Nat) (hk : xs.length = k) (h : ys.length = m) : over (xs ++ List.replicate m 0) k ys = xs ++ ys := by
  subst hk
  rw [over_end _ _ _ _ rfl, List.drop_replicate, h, Nat.sub_self, List.replicate_zero, List.append_nil]
theorem carryD {x : World} {g : Nat} {t : TypeId} {ys : List Value} (r : Row x g t ys) : Row x.drew g t ys := r
set_option maxRecDepth 100000 in
set_option maxHeartbeats 3200000 in
theorem stack_yes (ra rb c na nb r p : Nat) (A B : Option Addr) (cap capb : Nat) (xs ys : List UInt8) (w : World) (hra : ra ≤ 64) (hrb : rb ≤ 64) (h64 : r ≤ 64) (hc : c ≤ 64) (hsum : (ra : Int) + (rb : Int) = (r : Int)) (hna : Hid (na = ra * c)) (hnb : Hid (nb = rb * c)) (hp : Hid (p = r * c)) (hpp : Hid (p = na + nb))
    (hx : Rd w w.heap.size A na (bVs xs)) (hy : Rd w w.heap.size B nb (bVs ys)) (hcap : na ≤ cap) (hcapb : nb ≤ capb) :
    Calls Try.prog 37 #[mV ra c A na cap, mV rb c B nb capb] w fun e w' => ∃ g, e = .returned (.tuple #[mV r c (some ⟨g, 0, none⟩) p p, .int .i64 0]) ∧ Row w' g 5 (bVs (xs ++ ys)) ∧ w.heap.size ≤ g ∧ Below w.heap.size w w' := by
  have HR1 := Lib.hid (fun w => right_calls ra c A na cap w)
  have HR2 := Lib.hid (fun w => right_calls rb c B nb capb w)
  rw [show rightB ra c na = true by simp [rightB, hna.out]; omega] at HR1
  rw [show rightB rb c nb = true by simp [rightB, hnb.out]; omega] at HR2
  have hsd := sideB_nat h64
  have hpb : p ≤ 4096 := by rw [hp.out]; exact Nat.le_trans (Nat.mul_le_mul h64 hc) (by omega)
  have hq : ((c : Int) != (c : Int)) = false := by rw [bne_eq_false_iff_eq]
  have S := (((Ctx.start w).box [.int .i64 ra, .int .i64 c, .slice A na cap]).box [.int .i64 rb, .int .i64 c, .slice B nb capb]).box [.int .i64 0, .int .i64 0, .slice none 0 0]
  simp only [World.size_alloc] at S
  obtain ⟨c0, c1, c2⟩ := S.cells 2 rfl
  obtain ⟨d0, d1, d2⟩ := S.cells 1 rfl
  have hsz := S.lt 0 rfl
  go_enter Try.func37, Try.ntmps37
  go_wp2_with (first | (go_at_call 17; (first | (with_reducible refine (HR1.out _).mono ?_) | (with_reducible refine (HR2.out _).mono ?_)); rintro e w1 ⟨rfl, hb⟩; replace S := S.go hb; clear hb c0 c1 c2 d0 d1 d2 hsz; have hsz := S.lt 0 rfl; obtain ⟨c0, c1, c2⟩ := S.cells 2 rfl; obtain ⟨d0, d1, d2⟩ := S.cells 1 rfl) | (go_at_call 43; refine (side_calls _ _).mono ?_; rintro e w' ⟨rfl, rfl⟩))
  refine (blank_row r c p _ h64 hc hp).mono ?_
  rintro e w2 ⟨gm, rfl, hrow, hgm, hb⟩
  have hgl := hrow.lt
  replace S := S.go hb
  clear hb c0 c1 c2 d0 d1 d2 HR1 HR2
  replace S := S.box [.int .i64 (r : Int), .int .i64 (c : Int), .slice (some ⟨gm, 0, none⟩) p p]
  replace hrow := hrow.alloc (.cells #[.int .i64 (r : Int), .int .i64 (c : Int), .slice (some ⟨gm, 0, none⟩) p p] 24)
  go_wp2_with fail
  obtain ⟨BS, hBS⟩ : ∃ BS : List (Nat × List Value), BS = [(w2.heap.size, [.int .i64 (r : Int), .int .i64 (c : Int), .slice (some ⟨gm, 0, none⟩) p p]), (w.heap.size + 1 + 1, [.int .i64 0, .int .i64 0, .slice none 0 0]), (w.heap.size + 1, [.int .i64 rb, .int .i64 c, .slice B nb capb]), (w.heap.size, [.int .i64 ra, .int .i64 c, .slice A na cap])] := ⟨_, rfl⟩
  rw [← hBS] at S
  have hxl : xs.length = na := by have := hx.len; rw [bVs_length] at this; exact this
  have hyl : ys.length = nb := by have := hy.len; rw [bVs_length] at this; exact this
  have hpn := hpp.out
  have e1 : over (List.replicate p 0) 0 (xs.take p) = xs ++ List.replicate nb 0 := by rw [List.take_of_length_le (by omega), over_front _ _ (by omega)]; congr 2; omega
  have e2 : over (xs ++ List.replicate nb 0) na (ys.take (p - na)) = xs ++ ys := by rw [List.take_of_length_le (by omega)]; exact over_back _ _ _ _ hxl hyl
  have e3 : (xs.take p).length = na := by rw [List.take_of_length_le (by omega)]; exact hxl
  have e4 : (ys.take (p - na)).length = nb := by rw [List.take_of_length_le (by omega)]; exact hyl
  have e5 : (xs ++ List.replicate nb 0).length = p := by rw [List.length_append, List.length_replicate]; omega
  have E1 := Lib.hid e1
  have E2 := Lib.hid e2
  have E3 := Lib.hid e3
  have E4 := Lib.hid e4
  have E5 := Lib.hid e5
  obtain ⟨P, hP⟩ : ∃ P : World → Prop, P = fun x => Ctx w x BS [] := ⟨_, rfl⟩
  have hp0 : P (w2.alloc (.cells #[.int .i64 (r : Int), .int .i64 (c : Int), .slice (some ⟨gm, 0, none⟩) p p] 24)) := by rw [hP]; exact S
  have HD := Lib.hid (show ∀ x : World, P x → P x.drew by rw [hP]; exact fun x q => q.drew)
  have HG := Lib.hid (show ∀ x y : World, P x → x.grownBy y (some gm) → P y by
    rw [hP]
    refine fun x y q hg => q.grown hg (by omega) ?_
    rw [hBS]
    simp
    omega)
  have HC := Lib.hid (show ∀ x : World, P x → x.cell? ⟨w2.heap.size, 2, none⟩ = some (.slice (some ⟨gm, 0, none⟩) p p) ∧ x.cell? ⟨w.heap.size, 2, none⟩ = some (.slice A na cap) ∧ x.cell? ⟨w.heap.size + 1, 2, none⟩ = some (.slice B nb capb) by
    rw [hP, hBS]
    exact fun x q => ⟨(q.cells 0 rfl).2.2, (q.cells 3 rfl).2.2, (q.cells 2 rfl).2.2⟩)
  have HX := Lib.hid (show ∀ x : World, P x → Rd x x.heap.size A na (bVs xs) ∧ Rd x x.heap.size B nb (bVs ys) by rw [hP]; exact fun x q => ⟨hx.go q.below, hy.go q.below⟩)
  have HF := Lib.hid (show ∀ x : World, P x → Ctx w x BS [] by rw [hP]; exact fun x q => q)
  have HBS := Lib.hid hBS
  have h1 : (0 : Int) ≤ (na : Int) := by omega
  have h2 : (na : Int) ≤ (p : Int) := by omega
  have hrd := carryD hrow
  clear hP S hBS e1 e2 e3 e4 e5 hxl hyl hpn hrow
  have hc := HC.out _ hp0
  go_region_held3 (fun x => P x ∧ x.cell? ⟨w2.heap.size, 2, none⟩ = some (.slice (some ⟨gm, 0, none⟩) p p) ∧ x.cell? ⟨w.heap.size, 2, none⟩ = some (.slice A na cap) ∧ x.cell? ⟨w.heap.size + 1, 2, none⟩ = some (.slice B nb capb))
    (first | (go_split_ands; have q := HD.out _ hp0; exact ⟨q, HC.out _ q⟩) | (go_split_ands; have q := HG.out _ _ (by assumption) hg9; exact ⟨q, HC.out _ q⟩) | (go_split_ands; have q := HG.out _ _ (by assumption) hg8; exact ⟨q, HC.out _ q⟩))
    (first | (go_split_ands; refine step_copy_bytes _ _ (by rfl) (by rfl) (some ⟨gm, 0, none⟩) A p p na cap (by rfl) (by rfl) gm 0 _ xs hrd _ (HX.out _ (by assumption)).1 (fun _ => rfl) (by rw [E3.out, List.length_replicate]; have := hpp.out; omega) ?_; rw [E1.out, E3.out]; intro w8 hrow8 hg8) | (go_split_ands; refine step_copy_bytes _ _ (by rfl) (by rfl) _ B _ _ nb capb (by rfl) (by rfl) gm na _ ys hrow8 _ (HX.out _ (by assumption)).2 (by intro hl; rw [E4.out] at hl; exact if_neg (by have := hpp.out; omega)) (by rw [E4.out, E5.out]; have := hpp.out; omega) ?_; rw [E2.out]; intro w9 hrow9 hg9))
  go_split_ands
  have hF := HF.out w9 (by assumption)
  rw [HBS.out] at hF
  obtain ⟨t0, t1, t2, _, _, _⟩ := (hF.row 0 rfl).three
  obtain ⟨z0, z1, z2, f0, f1, f2⟩ := (hF.row 1 rfl).three
  have hl1 := hF.lt 1 rfl
  have hbel := hF.below
  clear hF
  go_wp2_with fail
  · rename_i h
    have h' : p = na := h
    clear h
    subst h'
    refine bodyPost_ret (v := .tuple #[mV r c (some ⟨gm, 0, none⟩) p p, .int .i64 0]) (by simp [results, Try.results37, go_sem, z0, z1, z2, f0, f1, f2]) rfl ⟨gm, rfl, ?_, by omega, below_set3 hbel (by omega) _ _ _⟩
    exact hrow9.far3 (by omega) _ _ _
  · refine bodyPost_ret (v := .tuple #[mV r c (some ⟨gm, 0, none⟩) p p, .int .i64 0]) (by simp [results, Try.results37, go_sem, z0, z1, z2, f0, f1, f2]) rfl ⟨gm, rfl, ?_, by omega, below_set3 hbel (by omega) _ _ _⟩
    exact hrow9.far3 (by omega) _ _ _
set_option maxRecDepth 100000 in
set_option maxHeartbeats 3200000 in
theorem stack_no (ra ca rb cb : Int) (A B : Option Addr) (na nb cap capb : Nat) (E : Int) (w : World) (h : stackE ra ca na rb cb nb = E) (hE : E ≠ 0) :
    Calls Try.prog 37 #[mV ra ca A na cap, mV rb cb B nb capb] w fun e w' => e = .returned (.tuple #[mV 0 0 none 0 0, .int .i64 E]) ∧ Below w.heap.size w w' := by
  have HR1 := Lib.hid (fun w => right_calls ra ca A na cap w)
  have HR2 := Lib.hid (fun w => right_calls rb cb B nb capb w)
  have S := (((Ctx.start w).box [.int .i64 ra, .int .i64 ca, .slice A na cap]).box [.int .i64 rb, .int .i64 cb, .slice B nb capb]).box [.int .i64 0, .int .i64 0, .slice none 0 0]
  simp only [World.size_alloc] at S
  obtain ⟨c0, c1, c2⟩ := S.cells 2 rfl
  obtain ⟨d0, d1, d2⟩ := S.cells 1 rfl
  obtain ⟨e0, e1, e2, f0, f1, f2⟩ := (S.row 0 rfl).three
  have hsz := S.lt 0 rfl
  have hc : (rightB ra ca na = false ∧ E = 3) ∨ (rightB ra ca na = true ∧ rightB rb cb nb = false ∧ E = 3) ∨ (rightB ra ca na = true ∧ rightB rb cb nb = true ∧ (ca != cb) = true ∧ E = 3) ∨ (rightB ra ca na = true ∧ rightB rb cb nb = true ∧ (ca != cb) = false ∧ sideB (ra + rb) = false ∧ (-9223372036854775808 ≤ ra + rb ∧ ra + rb ≤ 9223372036854775807) ∧ E = 4) := by
    unfold stackE at h
    cases h1 : rightB ra ca na
    · rw [h1] at h; simp at h; exact .inl ⟨rfl, h.symm⟩
    · cases h2 : rightB rb cb nb
      · rw [h1, h2] at h; simp at h; exact .inr (.inl ⟨rfl, rfl, h.symm⟩)
      · by_cases h3 : ca = cb
        · rw [h1, h2, h3] at h
          simp at h
          by_cases h4 : ra + rb ≤ 64
          · rw [if_pos h4] at h; omega
          · rw [if_neg h4] at h
            simp [rightB] at h1 h2
            exact .inr (.inr (.inr ⟨rfl, rfl, by simpa using h3, by simp [sideB]; omega, by omega, h.symm⟩))
        · rw [h1, h2] at h; simp [h3] at h; exact .inr (.inr (.inl ⟨rfl, rfl, by simpa using h3, h.symm⟩))
  clear h hE
  rcases hc with ⟨h1, rfl⟩ | ⟨h1, h2, rfl⟩ | ⟨h1, h2, h3, rfl⟩ | ⟨h1, h2, h3, h4, ⟨h5, h6⟩, rfl⟩
  · rw [h1] at HR1
    clear h1
    go_enter Try.func37, Try.ntmps37
    go_wp2_with (go_at_call 17; refine (HR1.out _).mono ?_; rintro e w1 ⟨rfl, hb⟩; replace S := S.go hb; clear hb c0 c1 c2 d0 d1 d2 e0 e1 e2 f0 f1 f2 hsz; have hsz := S.lt 0 rfl; obtain ⟨c0, c1, c2⟩ := S.cells 2 rfl; obtain ⟨d0, d1, d2⟩ := S.cells 1 rfl; obtain ⟨e0, e1, e2, f0, f1, f2⟩ := (S.row 0 rfl).three)
    exact bodyPost_ret (v := .tuple #[mV 0 0 none 0 0, .int .i64 3]) (by simp [results, Try.results37, go_sem, e0, e1, e2, f0, f1, f2]) rfl ⟨rfl, below_set3 S.below (by omega) _ _ _⟩
  · rw [h1] at HR1
    rw [h2] at HR2
    clear h1 h2
    go_enter Try.func37, Try.ntmps37
    go_wp2_with (go_at_call 17; (first | (with_reducible refine (HR1.out _).mono ?_) | (with_reducible refine (HR2.out _).mono ?_)); rintro e w1 ⟨rfl, hb⟩; replace S := S.go hb; clear hb c0 c1 c2 d0 d1 d2 e0 e1 e2 f0 f1 f2 hsz; have hsz := S.lt 0 rfl; obtain ⟨c0, c1, c2⟩ := S.cells 2 rfl; obtain ⟨d0, d1, d2⟩ := S.cells 1 rfl; obtain ⟨e0, e1, e2, f0, f1, f2⟩ := (S.row 0 rfl).three)
    exact bodyPost_ret (v := .tuple #[mV 0 0 none 0 0, .int .i64 3]) (by simp [results, Try.results37, go_sem, e0, e1, e2, f0, f1, f2]) rfl ⟨rfl, below_set3 S.below (by omega) _ _ _⟩
  · rw [h1] at HR1
    rw [h2] at HR2
    clear h1 h2
    go_enter Try.func37, Try.ntmps37
    go_wp2_with (go_at_call 17; (first | (with_reducible refine (HR1.out _).mono ?_) | (with_reducible refine (HR2.out _).mono ?_)); rintro e w1 ⟨rfl, hb⟩; replace S := S.go hb; clear hb c0 c1 c2 d0 d1 d2 e0 e1 e2 f0 f1 f2 hsz; have hsz := S.lt 0 rfl; obtain ⟨c0, c1, c2⟩ := S.cells 2 rfl; obtain ⟨d0, d1, d2⟩ := S.cells 1 rfl; obtain ⟨e0, e1, e2, f0, f1, f2⟩ := (S.row 0 rfl).three)
    exact bodyPost_ret (v := .tuple #[mV 0 0 none 0 0, .int .i64 3]) (by simp [results, Try.results37, go_sem, e0, e1, e2, f0, f1, f2]) rfl ⟨rfl, below_set3 S.below (by omega) _ _ _⟩
  · rw [h1] at HR1
    rw [h2] at HR2
    clear h1 h2
    have e4 : IntKind.i64.wrap (ra + rb) = ra + rb := by rw [IntKind.wrap_i64]; omega
    clear h5 h6
    go_enter Try.func37, Try.ntmps37
    go_wp2_with (first | (go_at_call 17; (first | (with_reducible refine (HR1.out _).mono ?_) | (with_reducible refine (HR2.out _).mono ?_)); rintro e w1 ⟨rfl, hb⟩; replace S := S.go hb; clear hb c0 c1 c2 d0 d1 d2 e0 e1 e2 f0 f1 f2 hsz; have hsz := S.lt 0 rfl; obtain ⟨c0, c1, c2⟩ := S.cells 2 rfl; obtain ⟨d0, d1, d2⟩ := S.cells 1 rfl; obtain ⟨e0, e1, e2, f0, f1, f2⟩ := (S.row 0 rfl).three) | (go_at_call 43; refine (side_calls _ _).mono ?_; rintro e w' ⟨rfl, rfl⟩))
    exact bodyPost_ret (v := .tuple #[mV 0 0 none 0 0, .int .i64 4]) (by simp [results, Try.results37, go_sem, e0, e1, e2, f0, f1, f2]) rfl ⟨rfl, below_set3 S.below (by omega) _ _ _⟩
end Go.Proofs.Ytgcgajeagdaenaa
namespace Go.Proofs.Ytgcgajeagdaenaa
open Go.RowKit Go.Proofs.YtgcgajeagdaenaaW.PrintWords
set_option linter.unusedVariables false
set_option linter.unusedSimpArgs false

def matrix_Stack.f (a0 a1 : Int) (l : List Int) (b0 b1 : Int) (m : List Int) : Option (Int × Int × List Int × Int) :=
  if (inU l && inU m) = true then (if stackE a0 a1 l.length b0 b1 m.length = 0 then some (a0 + b0, a1, l ++ m, 0) else some (0, 0, [], stackE a0 a1 l.length b0 b1 m.length)) else none
theorem nI_append (xs ys : List UInt8) : nI xs ++ nI ys = nI (xs ++ ys) := by simp [nI]
theorem matrix_Stack.calls (a0_0 : Int) (a0_1 : Int) (A0_2 : Option Addr) (c0_2 : Nat) (l0_2 : List Int) (a1_0 : Int) (a1_1 : Int) (A1_2 : Option Addr) (c1_2 : Nat) (l1_2 : List Int) (r1 : Int) (r2 : Int) (r3 : List Int) (r4 : Int) (w : World) (hr0_2 : Kd.C (Kd.int .u8) w A0_2 l0_2.length l0_2) (hc0_2 : l0_2.length ≤ c0_2) (hr1_2 : Kd.C (Kd.int .u8) w A1_2 l1_2.length l1_2) (hc1_2 : l1_2.length ≤ c1_2) (h : matrix_Stack.f a0_0 a0_1 l0_2 a1_0 a1_1 l1_2 = some (r1, r2, r3, r4)) :
    Calls Try.prog 37 #[.agg #[.int .i64 a0_0, .int .i64 a0_1, .slice A0_2 l0_2.length c0_2], .agg #[.int .i64 a1_0, .int .i64 a1_1, .slice A1_2 l1_2.length c1_2]] w fun e w' => ∃ v2_ : Value, e = .returned (.tuple #[.agg #[.int .i64 r1, .int .i64 r2, v2_], .int .i64 r4]) ∧ Kd.R (Kd.int .u8) 5 w' w.heap.size (fun _ => True) v2_ r3 ∧ Below w.heap.size w w' := by
  unfold matrix_Stack.f at h
  split at h
  · rename_i hi
    simp only [Bool.and_eq_true] at hi
    obtain ⟨xs, rfl⟩ := ints_of hi.1
    obtain ⟨ys, rfl⟩ := ints_of hi.2
    simp only [nI_length] at h hc0_2 hc1_2 ⊢
    split at h
    · rename_i hm
      simp only [Option.some.injEq, Prod.mk.injEq] at h
      obtain ⟨rfl, rfl, rfl, rfl⟩ := h
      unfold stackE at hm
      split at hm
      · rename_i h1
        simp only [Bool.and_eq_true, beq_iff_eq] at h1
        split at hm
        · rename_i h64
          obtain ⟨a, b, rfl, rfl, k1, k2, k3⟩ := right_nat h1.1.1
          obtain ⟨a', b', rfl, k4, k5, k6, k7⟩ := right_nat h1.1.2
          obtain rfl : b' = b := by have := h1.2; omega
          obtain rfl := k4
          have e : (a : Int) + (a' : Int) = ((a + a' : Nat) : Int) := by omega
          refine (stack_yes a a' b' xs.length ys.length (a + a') ((a + a') * b') A0_2 A1_2 c0_2 c1_2 xs ys w k1 k5 (by omega) k2 e (Lib.hid k3) (Lib.hid k7) (Lib.hid rfl) (Lib.hid (by rw [Nat.add_mul, k3, k7])) (rd_of_C hr0_2) (rd_of_C hr1_2) hc0_2 hc1_2).mono ?_
          rintro e' w' ⟨g, rfl, ho, hg, hb⟩
          rw [e]
          have hb4 : (a + a') * b' ≤ 64 * 64 := Nat.mul_le_mul (by omega) k2
          refine ⟨_, rfl, ?_, hb⟩
          rw [nI_append]
          exact R_of_own (ho.ownB hg (by rw [List.length_append, k3, k7, Nat.add_mul]) (by simp only [maxLen]; omega))
        · cases hm
      · cases hm
    · rename_i hm
      simp only [Option.some.injEq, Prod.mk.injEq] at h
      obtain ⟨rfl, rfl, rfl, rfl⟩ := h
      refine (stack_no a0_0 a0_1 a1_0 a1_1 A0_2 A1_2 xs.length ys.length c0_2 c1_2 _ w rfl hm).mono ?_
      rintro e w' ⟨rfl, hb⟩
      exact ⟨_, rfl, Kd.R_nil _ _ _ _ _, hb⟩
  · cases h
end Go.Proofs.Ytgcgajeagdaenaa
namespace Go.Proofs.Ytgcgajeagdaenaa
set_option linter.unusedVariables false
set_option linter.unusedSimpArgs false

def kronF (rb cb ca : Nat) (xs ys : List UInt8) (p q : Nat) : UInt8 := Gf.mul (xs.getD (p / rb * ca + q / cb) 0) (ys.getD (p % rb * cb + q % cb) 0)
def kronD (ra ca rb cb : Nat) (xs ys : List UInt8) : List UInt8 := gridD (ra * rb) (ca * cb) (kronF rb cb ca xs ys)
def doneK (rb cb i j k p q : Nat) : Prop := p / rb < i ∨ (p / rb = i ∧ (q / cb < j ∨ (q / cb = j ∧ p % rb < k)))
instance (rb cb i j k p q : Nat) : Decidable (doneK rb cb i j k p q) := by unfold doneK; infer_instance
def fillK (ra ca rb cb : Nat) (f : Nat → Nat → UInt8) (i j k : Nat) : List UInt8 := gridD (ra * rb) (ca * cb) (fun p q => if doneK rb cb i j k p q then f p q else 0)
theorem fillK_length (ra ca rb cb i j k : Nat) (f : Nat → Nat → UInt8) : (fillK ra ca rb cb f i j k).length = ra * rb * (ca * cb) := grid_length _ _ _
theorem pos_right {a b n : Nat} (h : n < a * b) : 0 < b := Nat.pos_of_ne_zero (by rintro rfl; simp at h)
theorem fillK_start (ra ca rb cb : Nat) (f : Nat → Nat → UInt8) : List.replicate (ra * rb * (ca * cb)) 0 = fillK ra ca rb cb f 0 0 0 := by
  rw [grid_zero]
  refine grid_congr fun p q _ _ => (if_neg ?_).symm
  unfold doneK
  generalize p / rb = u
  generalize q / cb = v
  generalize p % rb = t
  omega
theorem fillK_next1 (ra ca rb cb i j : Nat) (f : Nat → Nat → UInt8) : fillK ra ca rb cb f i j rb = fillK ra ca rb cb f i (j + 1) 0 := by
  refine grid_congr fun p q hp hq => ?_
  have hrb : 0 < rb := by exact pos_right hp
  have hm := Nat.mod_lt p hrb
  have e : doneK rb cb i j rb p q ↔ doneK rb cb i (j + 1) 0 p q := by
    unfold doneK
    generalize p / rb = u
    generalize q / cb = v
    generalize p % rb = t at *
    omega
  by_cases h : doneK rb cb i j rb p q
  · rw [if_pos h, if_pos (e.1 h)]
  · rw [if_neg h, if_neg (fun h2 => h (e.2 h2))]
theorem fillK_next2 (ra ca rb cb i : Nat) (f : Nat → Nat → UInt8) : fillK ra ca rb cb f i ca 0 = fillK ra ca rb cb f (i + 1) 0 0 := by
  refine grid_congr fun p q hp hq => ?_
  have hcb : 0 < cb := by exact pos_right hq
  have hm : q / cb < ca := (Nat.div_lt_iff_lt_mul hcb).2 hq
  have e : doneK rb cb i ca 0 p q ↔ doneK rb cb (i + 1) 0 0 p q := by
    unfold doneK
    generalize p / rb = u
    generalize q / cb = v at *
    generalize p % rb = t
    omega
  by_cases h : doneK rb cb i ca 0 p q
  · rw [if_pos h, if_pos (e.1 h)]
  · rw [if_neg h, if_neg (fun h2 => h (e.2 h2))]
theorem fillK_end (ra ca rb cb : Nat) (f : Nat → Nat → UInt8) : fillK ra ca rb cb f ra 0 0 = gridD (ra * rb) (ca * cb) f := by
  refine grid_congr fun p q hp hq => if_pos ?_
  have hrb : 0 < rb := by exact pos_right hp
  exact .inl ((Nat.div_lt_iff_lt_mul hrb).2 hp)
theorem over_get (xs : List UInt8) (off : Nat) (cs : List UInt8) (h : off + cs.length ≤ xs.length) (n : Nat) : (over xs off cs)[n]? = if off ≤ n ∧ n < off + cs.length then cs[n - off]? else xs[n]? := by
  unfold over
  have hl : (xs.take off).length = off := by rw [List.length_take]; omega
  rcases Nat.lt_or_ge n off with h1 | h1
  · rw [if_neg (by omega), List.getElem?_append_left (by omega), List.getElem?_take, if_pos h1]
  · rw [List.getElem?_append_right (by omega), hl]
    rcases Nat.lt_or_ge n (off + cs.length) with h2 | h2
    · rw [if_pos ⟨h1, h2⟩, List.getElem?_append_left (by omega)]
    · rw [if_neg (by omega), List.getElem?_append_right (by omega), List.getElem?_drop]
      congr 1
      omega
theorem seg_iff {C P p q s cb : Nat} (hq : q < C) (hs : s + cb ≤ C) : (P * C + s ≤ p * C + q ∧ p * C + q < P * C + s + cb) ↔ (p = P ∧ s ≤ q ∧ q < s + cb) := by
  rcases Nat.lt_trichotomy p P with h | h | h
  · have := Nat.mul_le_mul_right C (show p + 1 ≤ P from h)
    rw [Nat.add_mul] at this
    omega
  · subst h; omega
  · have := Nat.mul_le_mul_right C (show P + 1 ≤ p from h)
    rw [Nat.add_mul] at this
    omega
theorem fillK_set {ra ca rb cb i j k : Nat} {xs ys : List UInt8} (hy : ys.length = rb * cb) (hi : i < ra) (hj : j < ca) (hk : k < rb) :
    over (fillK ra ca rb cb (kronF rb cb ca xs ys) i j k) ((i * rb + k) * (ca * cb) + j * cb) (((ys.drop (k * cb)).take cb).map (Gf.mul (xs.getD (i * ca + j) 0))) = fillK ra ca rb cb (kronF rb cb ca xs ys) i j (k + 1) := by
  have hP := place_lt hi hk
  have hs : j * cb + cb ≤ ca * cb := by have := Nat.mul_le_mul_right cb (show j + 1 ≤ ca from hj); rw [Nat.add_mul] at this; omega
  have hyk : k * cb + cb ≤ ys.length := by have := Nat.mul_le_mul_right cb (show k + 1 ≤ rb from hk); rw [Nat.add_mul] at this; omega
  have hcl : (((ys.drop (k * cb)).take cb).map (Gf.mul (xs.getD (i * ca + j) 0))).length = cb := by
    rw [List.length_map, List.length_take, List.length_drop]; omega
  have hfit : (i * rb + k) * (ca * cb) + j * cb + cb ≤ ra * rb * (ca * cb) := by
    have := Nat.mul_le_mul_right (ca * cb) (show i * rb + k + 1 ≤ ra * rb from hP)
    rw [Nat.add_mul] at this
    omega
  have hol : (i * rb + k) * (ca * cb) + j * cb + (((ys.drop (k * cb)).take cb).map (Gf.mul (xs.getD (i * ca + j) 0))).length ≤ (fillK ra ca rb cb (kronF rb cb ca xs ys) i j k).length := by rw [hcl, fillK_length]; exact hfit
  refine grid_ext (by rw [over_length hol, fillK_length]) fun p q hp hq => ?_
  rw [over_get _ _ _ hol, hcl]
  by_cases h : (i * rb + k) * (ca * cb) + j * cb ≤ p * (ca * cb) + q ∧ p * (ca * cb) + q < (i * rb + k) * (ca * cb) + j * cb + cb
  · rw [if_pos h]
    obtain ⟨rfl, h1, h2⟩ := (seg_iff hq hs).1 h
    have e : (i * rb + k) * (ca * cb) + q - ((i * rb + k) * (ca * cb) + j * cb) = q - j * cb := by omega
    obtain ⟨t, rfl⟩ : ∃ t, q = j * cb + t := ⟨q - j * cb, by omega⟩
    have ht : t < cb := by omega
    rw [e, Nat.add_sub_cancel_left, List.getElem?_map, List.getElem?_take, if_pos ht, List.getElem?_drop, List.getElem?_eq_getElem (by omega)]
    have hdiv : (i * rb + k) / rb = i := place_div hk
    have hmod : (i * rb + k) % rb = k := place_mod hk
    have hdiv2 : (j * cb + t) / cb = j := place_div ht
    have hmod2 : (j * cb + t) % cb = t := place_mod ht
    rw [if_pos (show doneK rb cb i j (k + 1) (i * rb + k) (j * cb + t) from .inr ⟨hdiv, .inr ⟨hdiv2, by rw [hmod]; omega⟩⟩)]
    simp only [kronF, Option.map_some, hdiv, hmod, hdiv2, hmod2, Option.some.injEq]
    congr 1
    rw [List.getD_eq_getElem?_getD, List.getElem?_eq_getElem (by omega)]
    rfl
  · rw [if_neg h, fillK, grid_get _ hp hq]
    have hno : ¬ (p = i * rb + k ∧ j * cb ≤ q ∧ q < j * cb + cb) := fun h2 => h ((seg_iff hq hs).2 h2)
    have hrb : 0 < rb := by omega
    have hcb : 0 < cb := by exact pos_right hq
    have e : doneK rb cb i j k p q ↔ doneK rb cb i j (k + 1) p q := by
      unfold doneK
      constructor
      · generalize p / rb = u
        generalize q / cb = v
        generalize p % rb = t
        omega
      · intro h2
        rcases h2 with h2 | ⟨h2, h3 | ⟨h3, h4⟩⟩
        · exact .inl h2
        · exact .inr ⟨h2, .inl h3⟩
        · refine .inr ⟨h2, .inr ⟨h3, ?_⟩⟩
          rcases Nat.lt_or_ge (p % rb) k with h5 | h5
          · exact h5
          · exfalso
            refine hno ⟨?_, ?_, ?_⟩
            · have := Nat.div_add_mod p rb
              rw [Nat.mul_comm, h2] at this
              omega
            · have := Nat.div_mul_le_self q cb
              rw [h3] at this
              exact this
            · have := Nat.div_add_mod q cb
              have hm := Nat.mod_lt q hcb
              rw [Nat.mul_comm, h3] at this
              omega
    by_cases h2 : doneK rb cb i j k p q
    · rw [if_pos h2, if_pos (e.1 h2)]
    · rw [if_neg h2, if_neg (fun h3 => h2 (e.2 h3))]
end Go.Proofs.Ytgcgajeagdaenaa
namespace Go.Proofs.Ytgcgajeagdaenaa
open Go.RowKit
set_option linter.unusedVariables false
set_option linter.unusedSimpArgs false

set_option maxRecDepth 100000 in
set_option maxHeartbeats 800000 in
theorem scale_calls (c : UInt8) (A : Option Addr) (n cap : Nat) (xs : List UInt8) (w : World) (hr : Rd w w.heap.size A n (bVs xs)) (hn : n ≤ 140737488355328) :
    Calls Try.prog 54 #[.int .u8 (c.toNat : Int), .slice A n cap] w fun e w' => ∃ A' cap', e = .returned (.slice A' n cap') ∧ OwnB w' w.heap.size A' n cap' (xs.map (Gf.mul c)) ∧ Below w.heap.size w w' := by
  obtain ⟨Z, hzv, HZ0, HSZ⟩ := zero_tables'
  have hmk := make_bytes n (by omega)
  go_enter Try.func54, Try.ntmps54
  go_wp2_with (first | (go_at_call 55; refine (build_calls _).mono ?_; rintro e w1 ⟨T, hT, rfl, hb1⟩) | (refine wpList_store_tab (.tmp 5) (.tmp 9) rfl rfl T Z hT HZ0 HSZ rfl rfl ?_; intro w2 hs2 hg2 hb2))
  have hrow := row_made_bytes w2 n
  rw [hs2] at hrow
  have hbW : Below w.heap.size w (w2.alloc (.cells (madeCells #[.int .u8 0] n) 5)) := (hb1.trans (hb2.mono hb1.size)).alloc (by have := hb1.size; omega) _
  have ht := (HasTab.mk hT hg2).of_block (w' := w2.alloc (.cells (madeCells #[.int .u8 0] n) 5)) (Below.heap_alloc w2 _ _ (by omega))
  have hsz := hb1.size
  rw [← fill_zero (fun j => Gf.mul c (xs.getD j 0)) n] at hrow
  have HF := Lib.hid (fill_all (fun j => Gf.mul c (xs.getD j 0)) n)
  have HR := Lib.hid (range_map_get xs (Gf.mul c))
  have HL := Lib.hid (show xs.length = n by have := hr.len; rw [bVs_length] at this; exact this)
  have HT := Lib.hid ht
  have HW := Lib.hid hrow
  have HB := Lib.hid hbW
  clear hrow ht hbW hg2 hmk hzv hT HSZ HZ0 hs2 hb2
  go_loopw [15] (fun v15 wr => ∃ i : Nat, i ≤ n ∧ v15 = .int .i64 (i : Int) ∧ Row wr (w1.heap.size + 1) 5 (bVs (fillTo (fun j => Gf.mul c (xs.getD j 0)) n i)) ∧ HasTab wr w1.heap.size ∧ Below w.heap.size w wr) (fun v15 _ => n - (intOf v15).toNat)
  case atStart => exact ⟨0, by omega, rfl, HW.out, HT.out, HB.out⟩
  case round =>
    obtain ⟨i, hi, rfl, hrow, ht, hb⟩ := hrel
    clear HT HW HB
    by_cases hlt : i < n
    · obtain ⟨g, o, rfl, hg, hcell⟩ := rd_get (hr.below hb (Nat.le_refl _)) hlt
      obtain ⟨old, hst⟩ := hrow.has (i := i) (by rw [bVs_length, fill_len _ hi]; exact hlt)
      have hfz := hrow.frozen i
      have HST := Lib.hid hrow
      have HR2 := Lib.hid hr
      have HB := Lib.hid hb
      obtain ⟨x, hx⟩ : ∃ x, x = xs.getD i 0 := ⟨_, rfl⟩
      rw [← hx] at hcell
      have HX := Lib.hid hx
      clear hx hr hrow hb
      go_wp2_with (go_at_call 56; refine (tmul_calls _ _ _ _ ht).mono ?_; rintro e w' ⟨rfl, nd, rfl⟩)
      go_roundw
      case rel =>
        refine ⟨i + 1, by omega, by go_num, ?_, ?_, ?_⟩
        · have h := (HST.out.drewN nd).set i (.int .u8 ((Gf.mul c (xs.getD i 0)).toNat : Int))
          rw [bVs_set] at h
          have e := fill_set (fun j => Gf.mul c (xs.getD j 0)) hlt
          rw [e, ← HX.out] at h
          exact h
        · exact (ht.drewN nd).of_block (Below.heap_setCell _ _ _ _ (by simp))
        · exact (below_drewN HB.out nd).setCell (by simp; omega) _
      case measure => simp [intOf]; omega
    · obtain rfl : i = n := by omega
      rw [HF.out] at hrow
      rw [show (List.range i).map (fun j => Gf.mul c (xs.getD j 0)) = xs.map (Gf.mul c) by rw [← HR.out, HL.out]] at hrow
      go_wp2_with fail
      go_ret
      exact ⟨_, _, rfl, hrow.ownB (by omega) (by rw [List.length_map, HL.out]) (by simp only [maxLen]; omega), hb⟩

end Go.Proofs.Ytgcgajeagdaenaa
