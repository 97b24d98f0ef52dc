/- What the functions compute that the law MatrixFresh reaches, proved by walking them; conditions stand at each theorem. -/
import Derived.Laws.IdiomStrings
import Derived.Laws.BytesArg
import Derived.ProofKit
import Derived.OpenShut
import Derived.ChangeOld
import Derived.SizedLaws
import Derived.Lib.SmallJoins
import Derived.Test.YtgcgajeagdaenaaCMatrixFreshA1
namespace Go.Proofs.Ytgcgajeagdaenaa
open Go.RowKit
set_option linter.unusedVariables false
set_option linter.unusedSimpArgs false

set_option maxHeartbeats 400000 in
theorem copy_calls (A : Option Addr) (n cap : Nat) (xs : List UInt8) (w : World) (hr : Rd w w.heap.size A n (bVs xs)) (hn : n ≤ 140737488355328) :
    Calls Try.prog 53 #[.slice A n cap] w fun e w' => ∃ v, e = .returned v ∧ OwnV w' w.heap.size v xs ∧ Below w.heap.size w w' := by
  go_enter Try.func53, Try.ntmps53
  go_wp2_with (at_builtin; refine wpList_append_rd (.tmp 3) (.tmp 4) rfl rfl w.heap.size _ [] xs rfl (own_empty w _ (Nat.le_refl _) _ rfl) w.heap.size A n cap rfl (hr.below ((Below.refl _ _).alloc (Nat.le_refl _) _) (Nat.le_refl _)) (by simpa using hn) (by simp) ?_; intro v1 w1 ho1 hg1 hat1)
  go_ret
  exact ⟨_, rfl, ho1, ((Below.refl _ _).alloc (Nat.le_refl _) _).trans (grown_below hg1 (by simp) (fun k hk => Nat.le_of_eq (Option.some.inj hk)))⟩

theorem copy_own (A : Option Addr) (n cap : Nat) (xs : List UInt8) (w : World) (hr : Rd w w.heap.size A n (bVs xs)) (hn : n ≤ 140737488355328) :
    Calls Try.prog 53 #[.slice A n cap] w fun e w' => ∃ A' cap', e = .returned (.slice A' n cap') ∧ OwnB w' w.heap.size A' n cap' xs ∧ Below w.heap.size w w' := by
  refine (copy_calls A n cap xs w hr hn).mono ?_
  rintro e w' ⟨v, rfl, ho, hb⟩
  obtain ⟨A', cap', rfl, ho'⟩ := ho.slice' (n := n) (by have := hr.len; rw [bVs_length] at this; exact this)
  exact ⟨A', cap', rfl, ho', hb⟩
end Go.Proofs.Ytgcgajeagdaenaa
namespace Go.Proofs.Ytgcgajeagdaenaa
open Go.RowKit
set_option linter.unusedVariables false
set_option linter.unusedSimpArgs false

theorem own_mark (m i : UInt8) : bits BinOp.xor IntKind.u8 (m.toNat : Int) (i.toNat : Int) = ((Gf.add m i).toNat : Int) := bxor_u8 m i

set_option maxHeartbeats 1600000 in
theorem spoil_calls (A : Option Addr) (n cap base : Nat) (xs : List UInt8) (m : UInt8) (w : World) (ho : OwnB w base A n cap xs) (hbase : base ≤ w.heap.size) (hn : n + 3 ≤ 140737488355328) :
    Calls Try.prog 42 #[.slice A n cap, .int .u8 (m.toNat : Int)] w fun e w' => e = .returned (.tuple #[]) ∧ w.grownBy w' (Value.slice A n cap).ownBlock := by
  obtain ⟨row, hrow⟩ : ∃ row, row = (Value.slice A n cap).ownBlock := ⟨_, rfl⟩
  rw [← hrow]
  have HR := Lib.hid hrow
  clear hrow
  go_enter Try.func42, Try.ntmps42
  go_wp2_with fail
  go_loopw [4] (fun v4 wr => ∃ (i : Nat) (ys : List UInt8), i ≤ n ∧ v4 = .int .i64 (i : Int) ∧ OwnB wr base A n cap ys ∧ w.grownBy wr row) (fun v4 _ => n - (intOf v4).toNat)
  case atStart => exact ⟨0, xs, by omega, rfl, ho, World.grownBy.refl w _⟩
  case round =>
    obtain ⟨i, ys, hi, rfl, hoy, hg⟩ := hrel
    have HO0 := Lib.hid ho
    clear ho
    by_cases hlt : i < n
    · obtain ⟨g, rfl, hg1, hg2, hcell, hfz⟩ := hoy.at_ hlt
      obtain ⟨k, hk⟩ : ∃ k : UInt8, (k.toNat : Int) = (i : Int) % 256 := ⟨UInt8.ofNat i, by rw [UInt8.toNat_ofNat']; omega⟩
      have hx : bits BinOp.xor IntKind.u8 (m.toNat : Int) ((i : Int) % 256) = ((Gf.add m k).toNat : Int) := by rw [← hk]; exact bxor_u8 m k
      have HK := Lib.hid hk
      have HO := Lib.hid hoy
      have HG := Lib.hid hg
      clear hoy hg hk
      go_wp2_with fail
      go_roundw
      case rel => exact ⟨i + 1, _, by omega, by go_num, HO.out.store i (Gf.add m k), grown_setCell HG.out (.inl (by rw [HR.out]; rfl)) _⟩
      case measure => simp [intOf]; omega
    · obtain rfl : i = n := by omega
      have HL := Lib.hid hoy.1
      have HO := Lib.hid hoy
      have HG := Lib.hid hg
      clear hoy hg
      have hsz := HG.out.size
      go_wp2_with (at_builtin; refine wpList_append_rd (.tmp 19) (.tmp 23) rfl rfl base _ ys [m, m, m] rfl (by have h := World.ownsRow.alloc HO.out.2 (.cells (bVs [m, m, m]).toArray 5); unfold OwnV; rw [HL.out]; exact h) (wr.heap.size + 1) (some ⟨wr.heap.size, 0, none⟩) 3 3 rfl (rd_new wr [m, m, m] 3 rfl _) (by rw [HL.out]; exact hn) (by simp; omega) ?_; intro v1 w1 ho1 hg1 hat1; obtain ⟨A1, c1, rfl, hob⟩ := ho1.slice' (n := i + 3) (by rw [List.length_append, HL.out]; rfl))
      have HA := Lib.hid (show ∀ g1, A1 = some ⟨g1, 0, none⟩ → some g1 = row ∨ w.heap.size ≤ g1 by
        intro g1 h
        subst h
        rcases hat1 with e | e
        · exact .inl (by rw [HR.out]; exact e)
        · refine .inr ?_
          simp [Value.ownBlock] at e
          omega)
      have HG1 := Lib.hid (show w.grownBy w1 row by
        have h1 := grown_alloc HG.out (.cells (bVs [m, m, m]).toArray 5)
        rw [HR.out] at h1 ⊢
        exact h1.trans hg1)
      have HOB := Lib.hid hob
      clear hat1 hg1 ho1 hob HG HO HL
      go_loopw [5] (fun v5 wr => ∃ (j : Nat) (zs : List UInt8), j ≤ i + 3 ∧ v5 = .int .i64 (j : Int) ∧ OwnB wr base A1 (i + 3) c1 zs ∧ w.grownBy wr row) (fun v5 _ => (i + 3) - (intOf v5).toNat)
      case atStart => exact ⟨0, _, by omega, rfl, HOB.out, HG1.out⟩
      case round =>
        obtain ⟨j, zs, hj, rfl, hoz, hg⟩ := hrel
        clear HOB HG1
        by_cases hlt : j < i + 3
        · obtain ⟨g, rfl, hg1, hg2, hcell, hfz⟩ := hoz.at_ hlt
          have HO := Lib.hid hoz
          have HG := Lib.hid hg
          clear hoz hg
          go_wp2_with fail
          go_roundw
          case rel => exact ⟨j + 1, _, by omega, by go_num, HO.out.store j m, grown_setCell HG.out (HA.out _ rfl) _⟩
          case measure => simp [intOf]; omega
        · obtain rfl : j = i + 3 := by omega
          go_wp2_with fail
          go_end0
          exact ⟨rfl, hg⟩

end Go.Proofs.Ytgcgajeagdaenaa
namespace Go.Proofs.Ytgcgajeagdaenaa
open Go.RowKit
set_option linter.unusedVariables false
set_option linter.unusedSimpArgs false

/-- a list that was made: where it lies, and what it holds -/
structure Res where
  A : Option Addr
  n : Nat
  cap : Nat
  xs : List UInt8
def Res.v (r : Res) : Value := .slice r.A r.n r.cap
/-- the lists are the call's own, from block B on, and lie apart -/
structure Owned (w : World) (B : Nat) (R : List Res) : Prop where
  own : ∀ r ∈ R, OwnB w B r.A r.n r.cap r.xs
  apart : R.Pairwise fun r s => Apart r.A s.A
section
variable {w w' : World} {B : Nat} {R : List Res}
theorem Owned.nil (w : World) (B : Nat) : Owned w B [] := ⟨fun r h => absurd h (by simp), List.Pairwise.nil⟩
theorem Owned.go (h : Owned w B R) (hb : Below w.heap.size w w') : Owned w' B R := ⟨fun r hr => (h.own r hr).below hb (Nat.le_refl _), h.apart⟩
theorem Owned.drewN (h : Owned w B R) (k : Nat) : Owned (w.drewN k) B R := ⟨fun r hr => (h.own r hr).drewN k, h.apart⟩
theorem Owned.lt (h : Owned w B R) {r : Res} (hr : r ∈ R) {g : Nat} (e : r.A = some ⟨g, 0, none⟩) : B ≤ g ∧ g < w.heap.size := by
  have h1 := h.own r hr
  rw [e] at h1
  exact h1.row g rfl
theorem Owned.snoc (h : Owned w B R) (hb : Below w.heap.size w w') (hB : B ≤ w.heap.size) {A : Option Addr} {n cap : Nat} {xs : List UInt8} (ho : OwnB w' w.heap.size A n cap xs) : Owned w' B (R ++ [⟨A, n, cap, xs⟩]) := by
  refine ⟨fun r hr => ?_, ?_⟩
  · rcases List.mem_append.1 hr with h1 | h1
    · exact (h.own r h1).below hb (Nat.le_refl _)
    · obtain rfl := List.mem_singleton.1 h1
      exact ho.mono hB
  · rw [List.pairwise_append]
    refine ⟨h.apart, List.pairwise_singleton _ _, fun r hr s hs => ?_⟩
    obtain rfl := List.mem_singleton.1 hs
    intro g e1 e2
    have h1 := h.lt hr e1
    subst e2
    have h2 := (ho.row g rfl).1
    omega
theorem Owned.snoc2 (h : Owned w B R) (hb : Below w.heap.size w w') (hB : B ≤ w.heap.size) {A : Option Addr} {n cap : Nat} {xs : List UInt8} (ho : OwnB w' w.heap.size A n cap xs) {A2 : Option Addr} {n2 cap2 : Nat} {xs2 : List UInt8} (ho2 : OwnB w' w.heap.size A2 n2 cap2 xs2) (ha : Apart A A2) :
    Owned w' B (R ++ [⟨A, n, cap, xs⟩, ⟨A2, n2, cap2, xs2⟩]) := by
  refine ⟨fun r hr => ?_, ?_⟩
  · rcases List.mem_append.1 hr with h1 | h1
    · exact (h.own r h1).below hb (Nat.le_refl _)
    · simp only [List.mem_cons, List.not_mem_nil, or_false] at h1
      rcases h1 with rfl | rfl
      · exact ho.mono hB
      · exact ho2.mono hB
  · rw [List.pairwise_append]
    refine ⟨h.apart, by simp; exact ha, fun r hr s hs => ?_⟩
    simp only [List.mem_cons, List.not_mem_nil, or_false] at hs
    intro g e1 e2
    have h1 := h.lt hr e1
    rcases hs with rfl | rfl
    · subst e2
      have h2 := (ho.row g rfl).1
      omega
    · subst e2
      have h2 := (ho2.row g rfl).1
      omega
theorem Res.block {r : Res} {base : Nat} (ho : OwnB w base r.A r.n r.cap r.xs) {k : Nat} (e : r.v.ownBlock = some k) : r.A = some ⟨k, 0, none⟩ := by
  rcases ho.addr with h | ⟨g, h⟩
  · unfold Res.v at e
    rw [h] at e
    cases e
  · unfold Res.v at e
    rw [h] at e ⊢
    simp only [Value.ownBlock, Option.some.injEq] at e
    subst e
    rfl
theorem Owned.spoilt {r : Res} (h : Owned w B (r :: R)) (hg : w.grownBy w' r.v.ownBlock) : Owned w' B R := by
  have hp := List.pairwise_cons.1 h.apart
  refine ⟨fun s hs => (h.own s (List.mem_cons_of_mem _ hs)).keep fun g e => ?_, hp.2⟩
  have hl := h.lt (List.mem_cons_of_mem _ hs) e
  refine hg.block g hl.2 fun e2 => ?_
  have e3 := Res.block (h.own r (List.mem_cons_self ..)) e2.symm
  exact hp.1 s hs g e3 e
theorem Owned.row_spoilt {r : Res} (h : Owned w B (r :: R)) (hg : w.grownBy w' r.v.ownBlock) {gl : Nat} {t : TypeId} {ys : List Value} (hr : Row w gl t ys) (hne : ∀ s ∈ r :: R, s.A ≠ some ⟨gl, 0, none⟩) : Row w' gl t ys := by
  refine hr.of_block (hg.block gl hr.lt fun e2 => ?_)
  exact hne r (List.mem_cons_self ..) (Res.block (h.own r (List.mem_cons_self ..)) e2.symm)
theorem Owned.below_spoilt {r : Res} {w0 : World} (h : Owned w B (r :: R)) (hg : w.grownBy w' r.v.ownBlock) (hb : Below B w0 w) (hB : B ≤ w.heap.size) : Below B w0 w' := by
  refine hb.trans (grown_below hg hB fun k e => ?_)
  exact (h.lt (List.mem_cons_self ..) (Res.block (h.own r (List.mem_cons_self ..)) e)).1
theorem Owned.head {r : Res} (h : Owned w B (r :: R)) : OwnB w B r.A r.n r.cap r.xs := h.own r (List.mem_cons_self ..)
theorem drop_head {R : List Res} {i : Nat} (hi : i < R.length) : ∃ r, R.drop i = r :: R.drop (i + 1) ∧ r ∈ R ∧ (R.map Res.v)[i]? = some (.slice r.A r.n r.cap) := by
  refine ⟨R[i], List.drop_eq_getElem_cons hi, List.getElem_mem _, ?_⟩
  rw [List.getElem?_map, List.getElem?_eq_getElem hi]
  rfl
end
/-- what a walk keeps: lists that read -/
structure Kp (w0 w : World) (rs : List (Option Addr × Nat × List UInt8)) : Prop where
  below : Below w0.heap.size w0 w
  rds : ∀ r ∈ rs, Rd w w.heap.size r.1 r.2.1 (bVs r.2.2)
section
variable {w0 w w' : World} {rs : List (Option Addr × Nat × List UInt8)}
theorem Kp.start (w : World) : Kp w w [] := ⟨Below.refl _ _, fun r h => absurd h (by simp)⟩
theorem Kp.go (h : Kp w0 w rs) (hb : Below w.heap.size w w') : Kp w0 w' rs := ⟨h.below.trans (hb.mono h.below.size), fun r hm => (h.rds r hm).go hb⟩
theorem Kp.add {A : Option Addr} {n : Nat} {xs : List UInt8} (h : Kp w0 w rs) (hr : Rd w w.heap.size A n (bVs xs)) : Kp w0 w ((A, n, xs) :: rs) :=
  ⟨h.below, fun r hm => by
    rcases List.mem_cons.1 hm with rfl | hm
    · exact hr
    · exact h.rds r hm⟩
theorem Kp.rd (h : Kp w0 w rs) (i : Nat) {A : Option Addr} {n : Nat} {xs : List UInt8} (e : rs[i]? = some (A, n, xs)) : Rd w w.heap.size A n (bVs xs) := h.rds _ (List.mem_of_getElem? e)
theorem Kp.drewN (h : Kp w0 w rs) (k : Nat) : Kp w0 (w.drewN k) rs := h.go (below_drewN (Below.refl _ _) k)
end
end Go.Proofs.Ytgcgajeagdaenaa
namespace Go.Proofs.Ytgcgajeagdaenaa
open Go.RowKit
set_option linter.unusedVariables false
set_option linter.unusedSimpArgs false

/-- are two lists of bytes the same -/
def sameB (xs ys : List UInt8) : Bool := xs == ys
theorem sameB_self (xs : List UInt8) : sameB xs xs = true := by simp [sameB]
theorem to_string {w : World} {B : Nat} {A : Option Addr} {n cap : Nat} {xs : List UInt8} (h : Rd w B A n (bVs xs)) :
    (convert 22 9 (.slice A n cap)).run Try.prog w = .ok (.string ⟨xs.toArray⟩) w := by
  rcases Nat.eq_zero_or_pos n with h0 | hp
  · subst h0
    have hx : xs = [] := List.eq_nil_of_length_eq_zero (by have := h.len; rw [bVs_length] at this; exact this)
    subst hx
    cases A with
    | none => 
      have h1 := run_convert_bytes_string (P := Try.prog) w 22 9 5 none 0 cap Try.underlying22 Try.underlying5 Try.underlying9
      rw [h1]
      simp [Conv.bytesToString]
      rfl
    | some a => exact run_convert_bytes_back (P := Try.prog) w 22 9 5 a cap [] Try.underlying22 Try.underlying5 Try.underlying9 (fun j hj => absurd hj (by simp))
  · obtain ⟨g, o, rfl, hg, hc⟩ := h.2 hp
    have hl := h.len
    rw [bVs_length] at hl
    subst hl
    refine run_convert_bytes_back (P := Try.prog) w 22 9 5 ⟨g, o, none⟩ cap xs Try.underlying22 Try.underlying5 Try.underlying9 (fun j hj => ?_)
    have h1 := hc j _ (bVs_get xs j hj)
    unfold Addr.add
    split
    · next h0 => subst h0; simpa using h1
    · exact h1

set_option maxHeartbeats 400000 in
theorem same_calls (A : Option Addr) (n ac : Nat) (B : Option Addr) (m bc : Nat) (xs ys : List UInt8) (w : World) (ha : Rd w w.heap.size A n (bVs xs)) (hb : Rd w w.heap.size B m (bVs ys)) :
    Calls Try.prog 26 #[.slice A n ac, .slice B m bc] w fun e w' => e = .returned (.bool (sameB xs ys)) ∧ w = w' := by
  have h1 := to_string (cap := ac) ha
  have h2 := to_string (cap := bc) hb
  go_enter Try.func26, Try.ntmps26
  go_wp2_with fail
  go_ret
  exact ⟨rfl, rfl⟩
end Go.Proofs.Ytgcgajeagdaenaa
namespace Go.Proofs.Ytgcgajeagdaenaa
open Go.RowKit
set_option linter.unusedVariables false
set_option linter.unusedSimpArgs false

theorem same_self (A : Option Addr) (n ac : Nat) (B : Option Addr) (m bc : Nat) (xs : List UInt8) (w : World) (ha : Rd w w.heap.size A n (bVs xs)) (hb : Rd w w.heap.size B m (bVs xs)) :
    Calls Try.prog 26 #[.slice A n ac, .slice B m bc] w fun e w' => e = .returned (.bool true) ∧ w = w' := by
  have h := same_calls A n ac B m bc xs xs w ha hb
  rw [sameB_self] at h
  exact h
set_option maxHeartbeats 800000 in
theorem like_self (r c : Int) (A : Option Addr) (n ac : Nat) (B : Option Addr) (m bc : Nat) (xs : List UInt8) (w : World) (ha : Rd w w.heap.size A n (bVs xs)) (hb : Rd w w.heap.size B m (bVs xs)) :
    Calls Try.prog 31 #[mV r c A n ac, mV r c B m bc] w fun e w' => e = .returned (.bool true) ∧ Below w.heap.size w w' := by
  have hB : Below w.heap.size w ((w.alloc (Obj.cells #[.int .i64 r, .int .i64 c, .slice A n ac] 24)).alloc (Obj.cells #[.int .i64 r, .int .i64 c, .slice B m bc] 24)) := ((Below.refl _ _).alloc (Nat.le_refl _) _).alloc (by simp) _
  have ra := ha.go hB
  have rb := hb.go hB
  have HB := Lib.hid hB
  clear hB ha hb
  go_enter Try.func31, Try.ntmps31
  go_wp2_with (go_at_call 26; refine (same_self _ _ _ _ _ _ _ _ ra rb).mono ?_; rintro e w' ⟨rfl, rfl⟩)
  go_ret
  exact ⟨rfl, HB.out⟩
end Go.Proofs.Ytgcgajeagdaenaa
namespace Go.Proofs.Ytgcgajeagdaenaa
open Go.RowKit
set_option linter.unusedVariables false
set_option linter.unusedSimpArgs false

theorem bits_1201 : bVs [1, 2, 0, 1] = [.int .u8 1, .int .u8 2, .int .u8 0, .int .u8 1] := by simp [bVs]
theorem bits_1031 : bVs [1, 0, 3, 1] = [.int .u8 1, .int .u8 0, .int .u8 3, .int .u8 1] := by simp [bVs]
theorem bits_7231 : bVs [7, 2, 3, 1] = [.int .u8 7, .int .u8 2, .int .u8 3, .int .u8 1] := by simp [bVs]
theorem mulB_small : mulB 2 2 4 2 2 4 = true := by decide
theorem mulG_small : mulG 2 2 2 [1, 2, 0, 1] [1, 0, 3, 1] = [7, 2, 3, 1] := by decide +kernel
theorem mul_small (A B : Option Addr) (w : World) (hx : Rd w w.heap.size A 4 (bVs [1, 2, 0, 1])) (hy : Rd w w.heap.size B 4 (bVs [1, 0, 3, 1])) :
    Calls Try.prog 29 #[mV 2 2 A 4 4, mV 2 2 B 4 4] w fun e w' => ∃ g, e = .returned (.tuple #[mV 2 2 g 4 4, .int .i64 0]) ∧ OwnB w' w.heap.size g 4 4 [7, 2, 3, 1] ∧ Below w.heap.size w w' := by
  have h := mul_any 2 2 2 2 A B 4 4 4 4 [1, 2, 0, 1] [1, 0, 3, 1] w hx hy (Nat.le_refl _) (Nat.le_refl _)
  rw [mulB_small] at h
  simp only [muR, muE, muN, muD, if_true] at h
  rw [show mulG (2 : Int).toNat (2 : Int).toNat (2 : Int).toNat [1, 2, 0, 1] [1, 0, 3, 1] = [7, 2, 3, 1] from mulG_small] at h
  exact h

set_option maxRecDepth 100000 in
set_option maxHeartbeats 3200000 in
theorem anchored_calls (w : World) : Calls Try.prog 30 #[] w fun e w' => e = .returned (.bool true) ∧ Below w.heap.size w w' := by
  have r1 : Rd (w.alloc (.cells #[.int .u8 1, .int .u8 2, .int .u8 0, .int .u8 1] 5)) (w.heap.size + 1) (some ⟨w.heap.size, 0, none⟩) 4 (bVs [1, 2, 0, 1]) := by
    have r := rd_new w [1, 2, 0, 1] 4 rfl 5
    rwa [show (bVs [1, 2, 0, 1]).toArray = #[.int .u8 1, .int .u8 2, .int .u8 0, .int .u8 1] by rw [bits_1201]] at r
  have HN1 := Lib.hid (fun w : World => show Rd (w.alloc (.cells #[.int .u8 1, .int .u8 0, .int .u8 3, .int .u8 1] 5)) (w.heap.size + 1) (some ⟨w.heap.size, 0, none⟩) 4 (bVs [1, 0, 3, 1]) by
    have r := rd_new w [1, 0, 3, 1] 4 rfl 5
    rwa [show (bVs [1, 0, 3, 1]).toArray = #[.int .u8 1, .int .u8 0, .int .u8 3, .int .u8 1] by rw [bits_1031]] at r)
  have HN2 := Lib.hid (fun w : World => show Rd (w.alloc (.cells #[.int .u8 7, .int .u8 2, .int .u8 3, .int .u8 1] 5)) (w.heap.size + 1) (some ⟨w.heap.size, 0, none⟩) 4 (bVs [7, 2, 3, 1]) by
    have r := rd_new w [7, 2, 3, 1] 4 rfl 5
    rwa [show (bVs [7, 2, 3, 1]).toArray = #[.int .u8 7, .int .u8 2, .int .u8 3, .int .u8 1] by rw [bits_7231]] at r)
  have s1 := World.size_alloc w (.cells #[.int .u8 1, .int .u8 2, .int .u8 0, .int .u8 1] 5)
  have h1 : Below w.heap.size w ((w.alloc (.cells #[.int .u8 1, .int .u8 2, .int .u8 0, .int .u8 1] 5)).alloc (.cells #[.int .u8 1, .int .u8 0, .int .u8 3, .int .u8 1] 5)) := ((Below.refl _ _).alloc (Nat.le_refl _) _).alloc (by simp) _
  have rd1 := (r1.below ((Below.refl _ _).alloc (Nat.le_refl _) (.cells #[.int .u8 1, .int .u8 0, .int .u8 3, .int .u8 1] 5)) (by simp)).more (B' := ((w.alloc (.cells #[.int .u8 1, .int .u8 2, .int .u8 0, .int .u8 1] 5)).alloc (.cells #[.int .u8 1, .int .u8 0, .int .u8 3, .int .u8 1] 5)).heap.size) (by simp)
  have rd2 := (HN1.out (w.alloc (.cells #[.int .u8 1, .int .u8 2, .int .u8 0, .int .u8 1] 5))).more (B' := ((w.alloc (.cells #[.int .u8 1, .int .u8 2, .int .u8 0, .int .u8 1] 5)).alloc (.cells #[.int .u8 1, .int .u8 0, .int .u8 3, .int .u8 1] 5)).heap.size) (by simp)
  rw [s1] at rd2
  clear s1 r1
  go_enter Try.func30, Try.ntmps30
  go_wp2_with fail
  refine (mul_small _ _ _ rd1 rd2).mono ?_
  rintro e w1 ⟨g, rfl, ho, hb⟩
  have S := (((Ctx.start w).go h1).go hb).box [.int .i64 2, .int .i64 2, .slice g 4 4]
  obtain ⟨c0, c1, c2⟩ := S.cells 0 rfl
  have S2 := S.alloc (.cells #[.int .u8 7, .int .u8 2, .int .u8 3, .int .u8 1] 5)
  have r3 := (HN2.out (w1.alloc (.cells #[.int .i64 2, .int .i64 2, .slice g 4 4] 24))).more (B' := ((w1.alloc (.cells #[.int .i64 2, .int .i64 2, .slice g 4 4] 24)).alloc (.cells #[.int .u8 7, .int .u8 2, .int .u8 3, .int .u8 1] 5)).heap.size) (by simp)
  have r4 := ho.rd.go (((Below.refl _ _).alloc (Nat.le_refl _) (.cells #[.int .i64 2, .int .i64 2, .slice g 4 4] 24)).alloc (by simp) (.cells #[.int .u8 7, .int .u8 2, .int .u8 3, .int .u8 1] 5))
  rw [World.size_alloc w1 (.cells #[.int .i64 2, .int .i64 2, .slice g 4 4] 24)] at r3
  have HS2 := Lib.hid S2
  clear rd1 rd2 h1 hb ho S S2
  go_wp2_with fail
  refine (like_self 2 2 g 4 4 _ 4 4 [7, 2, 3, 1] _ r4 r3).mono ?_
  rintro e w2 ⟨rfl, hb⟩
  go_wp2_with fail
  go_ret
  exact ⟨rfl, HS2.out.below.trans (hb.mono HS2.out.below.size)⟩
end Go.Proofs.Ytgcgajeagdaenaa
namespace Go.Proofs.Ytgcgajeagdaenaa
open Go.RowKit
set_option linter.unusedVariables false
set_option linter.unusedSimpArgs false

set_option maxHeartbeats 800000 in
theorem like3_self (r c : Int) (A : Option Addr) (n ac : Nat) (e : Int) (B : Option Addr) (m bc : Nat) (xs : List UInt8) (w : World) (ha : Rd w w.heap.size A n (bVs xs)) (hb : Rd w w.heap.size B m (bVs xs)) :
    Calls Try.prog 19 #[mV r c A n ac, .int .i64 e, mV r c B m bc, .int .i64 e] w fun e w' => e = .returned (.bool true) ∧ Below w.heap.size w w' := by
  have hB : Below w.heap.size w ((w.alloc (Obj.cells #[.int .i64 r, .int .i64 c, .slice A n ac] 24)).alloc (Obj.cells #[.int .i64 r, .int .i64 c, .slice B m bc] 24)) := ((Below.refl _ _).alloc (Nat.le_refl _) _).alloc (by simp) _
  have ra := ha.go hB
  have rb := hb.go hB
  have HB := Lib.hid hB
  clear hB ha hb
  go_enter Try.func19, Try.ntmps19
  go_wp2_with (go_at_call 31; refine (like_self _ _ _ _ _ _ _ _ _ _ ra rb).mono ?_; rintro e w1 ⟨rfl, hb1⟩)
  go_ret
  exact ⟨rfl, HB.out.trans (hb1.mono HB.out.size)⟩
end Go.Proofs.Ytgcgajeagdaenaa
namespace Go.Proofs.Ytgcgajeagdaenaa
open Go.ChangeShapes Go.WideShapes Go.ChangeAt Go.RowKit

theorem own_knob : ownKnob Try.prog.godebug = none := by kernel_rfl
theorem laid_out : laidOutB Try.prog = true := by kernel_rfl
theorem u8_of {n : Int} (h : (Lit.int .u8 n).wf = true) : ∃ u : UInt8, n = (u.toNat : Int) := by
  have hb := bounds_u8 h
  refine ⟨UInt8.ofNat n.toNat, ?_⟩
  rw [UInt8.toNat_ofNat']
  omega
theorem u8s_of : ∀ {zs : List Int}, (∀ n ∈ zs, (Lit.int .u8 n).wf = true) → ∃ xs : List UInt8, zs = xs.map fun x => (x.toNat : Int)
  | [], _ => ⟨[], rfl⟩
  | z :: zs, h => by
    obtain ⟨u, hu⟩ := u8_of (h z (by simp))
    obtain ⟨xs, hx⟩ := u8s_of (zs := zs) (fun n hn => h n (by simp [hn]))
    exact ⟨u :: xs, by simp [hu, hx]⟩
/-- A list of bytes that came in: it reads; its size is within the reach. -/
theorem open_bytes {H : Type} {enc : TypeId × Value → H} {W : World} {d : DataW H} {p : List MemPlace} {a : Option Addr} {len cap : Nat}
    (h : DataW.Trod enc Try.prog W 0 (fun _ => true) true 22 (.slice a len cap) d p) :
    ∃ (xs : List UInt8), Rd W W.heap.size a len (bVs xs) ∧ len ≤ cap ∧ cap ≤ maxLen ∧ ((d = .nil ∧ cap = 0) ∨ ∃ es rs : List (DataW H), d = .slice es rs ∧ es.length + rs.length = cap) := by
  obtain ⟨fuel, hf⟩ := h
  have hlt := DataW.trod_lt fuel _ _ _ hf
  rcases open_ints Try.underlying22 Try.underlying5 (by kernel_rfl) hf with ⟨hcs, hx⟩ | ⟨x, l, c, zs, hcs, _, hl, hm, hz, hx, hcell, hwz⟩
  · simp [Value.cells] at hcs
    obtain ⟨rfl, rfl, rfl⟩ := hcs
    exact ⟨[], Rd.nil, Nat.le_refl _, Nat.zero_le _, .inl ⟨by simpa using congrArg Prod.fst hx, rfl⟩⟩
  · simp [Value.cells] at hcs
    obtain ⟨rfl, rfl, rfl⟩ := hcs
    simp only [if_true] at hz
    obtain ⟨xs, rfl⟩ := u8s_of hwz
    rw [List.length_map] at hz
    refine ⟨xs.take len, ⟨by simp [bVs]; omega, fun hn => ?_⟩, hl, hm, .inr ⟨_, _, by simpa using congrArg Prod.fst hx, by simp [lits]; omega⟩⟩
    obtain ⟨g, o, rfl, hc⟩ := ints_at hcell (by rw [List.length_map]; omega)
    refine ⟨g, o, rfl, ?_, fun j u hu => ?_⟩
    · have hp : p = MemPlace.row ⟨g, o, none⟩ ((xs.map fun x => (x.toNat : Int)).length) := by simpa using congrArg Prod.snd hx
      have := hlt (.cell g o) (by rw [hp]; simp [MemPlace.row]; omega)
      exact this
    · have hj : j < (bVs (xs.take len)).length := by
        rcases Nat.lt_or_ge j (bVs (xs.take len)).length with hlt | hge
        · exact hlt
        · rw [List.getElem?_eq_none hge] at hu; cases hu
      rw [bVs_length, List.length_take] at hj
      rw [hc j (by rw [List.length_map]; omega)]
      rw [← hu]
      have hx : (xs.map fun x => (x.toNat : Int)).getD j 0 = ((xs[j]'(by omega)).toNat : Int) := by simp [List.getD]; rw [List.getElem?_eq_getElem (by omega)]; rfl
      rw [hx, bVs_get _ _ (by rw [List.length_take]; omega), List.getElem_take]
theorem bytes_of_u8 : Try.prog.bytesOf 5 = 1 := by kernel_rfl
end Go.Proofs.Ytgcgajeagdaenaa
namespace Go.Proofs.Ytgcgajeagdaenaa
open Go.ChangeShapes Go.WideShapes Go.ChangeAt Go.RowKit Go.Joins
set_option linter.unusedVariables false
set_option linter.unusedSimpArgs false

theorem cells_matrix : Try.prog.cellsOf 24 = 3 := by kernel_rfl
theorem bytes_field {H : Type} {enc : TypeId × Value → H} {W : World} {fuel : Nat} {v : Value} {y : DataW H × List MemPlace}
    (hf : DataW.trod enc Try.prog W 0 (fun _ => true) true fuel 22 [v] = some y) :
    ∃ (a : Option Addr) (len cap : Nat) (xs : List UInt8), v = .slice a len cap ∧ Rd W W.heap.size a len (bVs xs) ∧ len ≤ cap ∧ cap ≤ maxLen ∧ ((y.1 = .nil ∧ cap = 0) ∨ ∃ es rs : List (DataW H), y.1 = .slice es rs ∧ es.length + rs.length = cap) := by
  have hv : ∃ a len cap, v = .slice a len cap := by
    rcases open_ints Try.underlying22 Try.underlying5 (by kernel_rfl) hf with ⟨hcs, _⟩ | ⟨x, l, c, zs, hcs, _⟩
    · simp at hcs; exact ⟨_, _, _, hcs⟩
    · simp at hcs; exact ⟨_, _, _, hcs⟩
  obtain ⟨a, len, cap, rfl⟩ := hv
  have h : DataW.Trod enc Try.prog W 0 (fun _ => true) true 22 (.slice a len cap) y.1 y.2 := ⟨fuel, hf⟩
  obtain ⟨xs, h1, h2, h3, h4⟩ := open_bytes h
  exact ⟨a, len, cap, xs, rfl, h1, h2, h3, h4⟩
/-- A matrix that came in. -/
theorem open_matrix {H : Type} {enc : TypeId × Value → H} {W : World} {r : Reach} {b0 : Nat} {v : Value} {d : DataW H} {p : List MemPlace}
    (hv : Value.okWide Try.prog W r b0 24 v) (h : DataW.Trod enc Try.prog W 0 (fun _ => true) true 24 v d p) :
    ∃ (rr cc : Int) (a : Option Addr) (n cap : Nat) (xs : List UInt8) (d2 : DataW H), v = mV rr cc a n cap ∧ (Lit.int .i64 rr).wf = true ∧ (Lit.int .i64 cc).wf = true ∧ Rd W W.heap.size a n (bVs xs) ∧ n ≤ cap ∧ cap ≤ maxLen ∧
      d = .agg [.lit (.int .i64 rr), .lit (.int .i64 cc), d2] ∧ ((d2 = .nil ∧ cap = 0) ∨ ∃ es rs : List (DataW H), d2 = .slice es rs ∧ es.length + rs.length = cap) := by
  obtain ⟨v0, v1, v2, y0, y1, y2, m, rfl, rfl, rfl, t0, t1, t2⟩ := open_agg3 Try.underlying24 (by kernel_rfl) cells_matrix hv h
  obtain ⟨rr, e0, rfl, w0⟩ := DataW.trod_int Try.underlying3 t0
  obtain ⟨cc, e1, rfl, w1⟩ := DataW.trod_int Try.underlying3 t1
  obtain ⟨a, n, cap, xs, rfl, h1, h2, h3, h4⟩ := bytes_field t2
  simp at e0 e1
  subst e0; subst e1
  exact ⟨rr, cc, a, n, cap, xs, y2.1, rfl, w0, w1, h1, h2, h3, rfl, h4⟩
theorem sized_matrix {H : Type} {ts : List TypeId} {ds : List (DataW H)} {j : Nat} {a b : DataW H} {d2 : DataW H} {cap : Nat} (h : (DataW.weightsEach Try.prog ts ds).all (· ≤ reachBytes) = true)
    (ht : ts[j]? = some 24) (hd : ds[j]? = some (.agg [a, b, d2])) (hs : (d2 = .nil ∧ cap = 0) ∨ ∃ es rs : List (DataW H), d2 = .slice es rs ∧ es.length + rs.length = cap) : cap ≤ 140737488351232 := by
  rcases hs with ⟨_, h0⟩ | ⟨es, rs, rfl, hl⟩
  · omega
  · have := List.all_eq_true.1 h _ (DataW.weights_mem_each ht hd ((es.length + rs.length) * Try.prog.bytesOf 5) (by
      simp only [DataW.weights, Try.underlying24, DataW.weightsEach, List.map, Array.toList, Try.underlying22]
      simp))
    rw [bytes_of_u8] at this
    simp only [reachBytes] at this
    have h2 := of_decide_eq_true this
    omega
end Go.Proofs.Ytgcgajeagdaenaa
