/- The law VerifyMakes, proved: for every input the call returns true and each argument reads as before. -/
import Derived.Test.YthbjcafldbocpaaMem
import Derived.Laws.IdiomStrings
import Derived.Laws.BytesArg
import Derived.Test.YthbjcafldbocpaaMatW
import Derived.ProofKit
import Derived.OpenShut
import Derived.ChangeOld
import Derived.SizedLaws
import Derived.Test.YthbjcafldbocpaaCtx
import Derived.Test.YthbjcafldbocpaaVcheck
import Derived.Test.YthbjcafldbocpaaVlk0
import Derived.Test.YthbjcafldbocpaaVdo3
import Derived.Test.YthbjcafldbocpaaVrun
import Derived.Stop.BytesEq
import Derived.Test.YthbjcafldbocpaaVfive
import Derived.Lib.SmallJoins
import Derived.Deep.Slices
import Derived.Test.YthbjcafldbocpaaRows
import Derived.WalkKit
import Derived.Below
/- The walk of the document's Same. -/
namespace Go.Proofs.Ythbjcafldbocpaa
open Go.RowKit
set_option linter.unusedVariables false
set_option linter.unusedSimpArgs false

/-- are two lists of bytes the same -/
def sameB (xs ys : List UInt8) : Bool := xs == ys
theorem sameB_self (xs : List UInt8) : sameB xs xs = true := by simp [sameB]
theorem to_string {w : World} {B : Nat} {A : Option Addr} {n cap : Nat} {xs : List UInt8} (h : Rd w B A n (bVs xs)) :
    (convert 35 9 (.slice A n cap)).run Try.prog w = .ok (.string ⟨xs.toArray⟩) w := by
  rcases Nat.eq_zero_or_pos n with h0 | hp
  · subst h0
    have hx : xs = [] := List.eq_nil_of_length_eq_zero (by have := h.len; rw [bVs_length] at this; exact this)
    subst hx
    cases A with
    | none => 
      have h1 := run_convert_bytes_string (P := Try.prog) w 35 9 5 none 0 cap Try.underlying35 Try.underlying5 Try.underlying9
      rw [h1]
      simp [Conv.bytesToString]
      rfl
    | some a => exact run_convert_bytes_back (P := Try.prog) w 35 9 5 a cap [] Try.underlying35 Try.underlying5 Try.underlying9 (fun j hj => absurd hj (by simp))
  · obtain ⟨g, o, rfl, hg, hc⟩ := h.2 hp
    have hl := h.len
    rw [bVs_length] at hl
    subst hl
    refine run_convert_bytes_back (P := Try.prog) w 35 9 5 ⟨g, o, none⟩ cap xs Try.underlying35 Try.underlying5 Try.underlying9 (fun j hj => ?_)
    have h1 := hc j _ (bVs_get xs j hj)
    unfold Addr.add
    split
    · next h0 => subst h0; simpa using h1
    · exact h1

set_option maxHeartbeats 400000 in
theorem same_calls (A : Option Addr) (n ac : Nat) (B : Option Addr) (m bc : Nat) (xs ys : List UInt8) (w : World) (ha : Rd w w.heap.size A n (bVs xs)) (hb : Rd w w.heap.size B m (bVs ys)) :
    Calls Try.prog 35 #[.slice A n ac, .slice B m bc] w fun e w' => e = .returned (.bool (sameB xs ys)) ∧ w = w' := by
  have h1 := to_string (cap := ac) ha
  have h2 := to_string (cap := bc) hb
  go_enter Try.func35, Try.ntmps35
  go_wp2_with fail
  go_ret
  exact ⟨rfl, rfl⟩
end Go.Proofs.Ythbjcafldbocpaa

/- The walk of the document's Like: two matrices that are the same. -/
namespace Go.Proofs.Ythbjcafldbocpaa
open Go.RowKit
set_option linter.unusedVariables false
set_option linter.unusedSimpArgs false

theorem same_self (A : Option Addr) (n ac : Nat) (B : Option Addr) (m bc : Nat) (xs : List UInt8) (w : World) (ha : Rd w w.heap.size A n (bVs xs)) (hb : Rd w w.heap.size B m (bVs xs)) :
    Calls Try.prog 35 #[.slice A n ac, .slice B m bc] w fun e w' => e = .returned (.bool true) ∧ w = w' := by
  have h := same_calls A n ac B m bc xs xs w ha hb
  rw [sameB_self] at h
  exact h
set_option maxHeartbeats 800000 in
theorem like_self (r c : Int) (A : Option Addr) (n ac : Nat) (B : Option Addr) (m bc : Nat) (xs : List UInt8) (w : World) (ha : Rd w w.heap.size A n (bVs xs)) (hb : Rd w w.heap.size B m (bVs xs)) :
    Calls Try.prog 20 #[mV r c A n ac, mV r c B m bc] w fun e w' => e = .returned (.bool true) ∧ Below w.heap.size w w' := by
  have hB : Below w.heap.size w ((w.alloc (Obj.cells #[.int .i64 r, .int .i64 c, .slice A n ac] 37)).alloc (Obj.cells #[.int .i64 r, .int .i64 c, .slice B m bc] 37)) := ((Below.refl _ _).alloc (Nat.le_refl _) _).alloc (by simp) _
  have ra := ha.go hB
  have rb := hb.go hB
  have HB := Lib.hid hB
  clear hB ha hb
  go_enter Try.func20, Try.ntmps20
  go_wp2_with (go_at_call 35; refine (same_self _ _ _ _ _ _ _ _ ra rb).mono ?_; rintro e w' ⟨rfl, rfl⟩)
  go_ret
  exact ⟨rfl, HB.out⟩
end Go.Proofs.Ythbjcafldbocpaa

/- The walk of the document's Like: any two matrices. -/
namespace Go.Proofs.Ythbjcafldbocpaa
open Go.RowKit
set_option linter.unusedVariables false
set_option linter.unusedSimpArgs false
/-- the answer of Like -/
def likeB (r c : Int) (xs : List UInt8) (r' c' : Int) (ys : List UInt8) : Bool := decide (r = r') && (decide (c = c') && sameB xs ys)
set_option maxHeartbeats 1600000 in
theorem likeAny_calls (r c : Int) (A : Option Addr) (n ac : Nat) (r' c' : Int) (B : Option Addr) (m bc : Nat) (xs ys : List UInt8) (w : World) (ha : Rd w w.heap.size A n (bVs xs)) (hb : Rd w w.heap.size B m (bVs ys)) :
    Calls Try.prog 20 #[mV r c A n ac, mV r' c' B m bc] w fun e w' => e = .returned (.bool (likeB r c xs r' c' ys)) ∧ Below w.heap.size w w' := by
  have hB : Below w.heap.size w ((w.alloc (Obj.cells #[.int .i64 r, .int .i64 c, .slice A n ac] 37)).alloc (Obj.cells #[.int .i64 r', .int .i64 c', .slice B m bc] 37)) := ((Below.refl _ _).alloc (Nat.le_refl _) _).alloc (by simp) _
  have ra := ha.go hB
  have rb := hb.go hB
  have HB := Lib.hid hB
  clear hB ha hb
  by_cases h1 : r = r'
  · have e1 : (r == r') = true := by simpa using h1
    by_cases h2 : c = c'
    · have e2 : (c == c') = true := by simpa using h2
      have el : likeB r c xs r' c' ys = sameB xs ys := by simp [likeB, h1, h2]
      rw [el]
      clear el h1 h2
      go_enter Try.func20, Try.ntmps20
      go_wp2_with (go_at_call 35; refine (same_calls _ _ _ _ _ _ _ _ _ ra rb).mono ?_; rintro e w' ⟨rfl, rfl⟩)
      go_ret
      exact ⟨rfl, HB.out⟩
    · have e2 : (c == c') = false := by simpa using h2
      have el : likeB r c xs r' c' ys = false := by simp [likeB, h1, h2]
      rw [el]
      clear el h1 h2
      go_enter Try.func20, Try.ntmps20
      go_wp2_with fail
      go_ret
      exact ⟨rfl, HB.out⟩
  · have e1 : (r == r') = false := by simpa using h1
    have el : likeB r c xs r' c' ys = false := by simp [likeB, h1]
    rw [el]
    clear el h1
    go_enter Try.func20, Try.ntmps20
    go_wp2_with fail
    go_ret
    exact ⟨rfl, HB.out⟩
end Go.Proofs.Ythbjcafldbocpaa

/- Words for the rows: how arguments read. -/
namespace Go.Proofs.Ythbjcafldbocpaa
open Go.ChangeShapes Go.WideShapes Go.ChangeAt Go.RowKit

theorem own_knob : ownKnob Try.prog.godebug = none := by kernel_rfl
theorem laid_out : laidOutB Try.prog = true := by kernel_rfl
theorem u8_of {n : Int} (h : (Lit.int .u8 n).wf = true) : ∃ u : UInt8, n = (u.toNat : Int) := by
  have hb := bounds_u8 h
  refine ⟨UInt8.ofNat n.toNat, ?_⟩
  rw [UInt8.toNat_ofNat']
  omega
theorem u8s_of : ∀ {zs : List Int}, (∀ n ∈ zs, (Lit.int .u8 n).wf = true) → ∃ xs : List UInt8, zs = xs.map fun x => (x.toNat : Int)
  | [], _ => ⟨[], rfl⟩
  | z :: zs, h => by
    obtain ⟨u, hu⟩ := u8_of (h z (by simp))
    obtain ⟨xs, hx⟩ := u8s_of (zs := zs) (fun n hn => h n (by simp [hn]))
    exact ⟨u :: xs, by simp [hu, hx]⟩
/-- A list of bytes that came in: it reads; its size is within the reach. -/
theorem open_bytes {H : Type} {enc : TypeId × Value → H} {W : World} {d : DataW H} {p : List MemPlace} {a : Option Addr} {len cap : Nat}
    (h : DataW.Trod enc Try.prog W 0 (fun _ => true) true 35 (.slice a len cap) d p) :
    ∃ (xs : List UInt8), Rd W W.heap.size a len (bVs xs) ∧ len ≤ cap ∧ cap ≤ maxLen ∧ ((d = .nil ∧ cap = 0) ∨ ∃ es rs : List (DataW H), d = .slice es rs ∧ es.length + rs.length = cap) := by
  obtain ⟨fuel, hf⟩ := h
  have hlt := DataW.trod_lt fuel _ _ _ hf
  rcases open_ints Try.underlying35 Try.underlying5 (by kernel_rfl) hf with ⟨hcs, hx⟩ | ⟨x, l, c, zs, hcs, _, hl, hm, hz, hx, hcell, hwz⟩
  · simp [Value.cells] at hcs
    obtain ⟨rfl, rfl, rfl⟩ := hcs
    exact ⟨[], Rd.nil, Nat.le_refl _, Nat.zero_le _, .inl ⟨by simpa using congrArg Prod.fst hx, rfl⟩⟩
  · simp [Value.cells] at hcs
    obtain ⟨rfl, rfl, rfl⟩ := hcs
    simp only [if_true] at hz
    obtain ⟨xs, rfl⟩ := u8s_of hwz
    rw [List.length_map] at hz
    refine ⟨xs.take len, ⟨by simp [bVs]; omega, fun hn => ?_⟩, hl, hm, .inr ⟨_, _, by simpa using congrArg Prod.fst hx, by simp [lits]; omega⟩⟩
    obtain ⟨g, o, rfl, hc⟩ := ints_at hcell (by rw [List.length_map]; omega)
    refine ⟨g, o, rfl, ?_, fun j u hu => ?_⟩
    · have hp : p = MemPlace.row ⟨g, o, none⟩ ((xs.map fun x => (x.toNat : Int)).length) := by simpa using congrArg Prod.snd hx
      have := hlt (.cell g o) (by rw [hp]; simp [MemPlace.row]; omega)
      exact this
    · have hj : j < (bVs (xs.take len)).length := by
        rcases Nat.lt_or_ge j (bVs (xs.take len)).length with hlt | hge
        · exact hlt
        · rw [List.getElem?_eq_none hge] at hu; cases hu
      rw [bVs_length, List.length_take] at hj
      rw [hc j (by rw [List.length_map]; omega)]
      rw [← hu]
      have hx : (xs.map fun x => (x.toNat : Int)).getD j 0 = ((xs[j]'(by omega)).toNat : Int) := by simp [List.getD]; rw [List.getElem?_eq_getElem (by omega)]; rfl
      rw [hx, bVs_get _ _ (by rw [List.length_take]; omega), List.getElem_take]
theorem bytes_of_u8 : Try.prog.bytesOf 5 = 1 := by kernel_rfl
end Go.Proofs.Ythbjcafldbocpaa

/- Boxes of any type and readable lists, carried over calls that only make memory. -/
namespace Go.Proofs.Ythbjcafldbocpaa
open Go.RowKit
set_option linter.unusedVariables false
set_option linter.unusedSimpArgs false
structure Cx (w0 w : World) (bs : List (Nat × TypeId × List Value)) (rs : List (Option Addr × Nat × List UInt8)) : Prop where
  below : Below w0.heap.size w0 w
  rows : ∀ b ∈ bs, Row w b.1 b.2.1 b.2.2
  rds : ∀ r ∈ rs, Rd w w.heap.size r.1 r.2.1 (bVs r.2.2)
section
variable {w0 w w' : World} {bs : List (Nat × TypeId × List Value)} {rs : List (Option Addr × Nat × List UInt8)}
theorem Cx.start (w : World) : Cx w w [] [] := ⟨Below.refl _ _, fun b h => absurd h (by simp), fun r h => absurd h (by simp)⟩
theorem Cx.go (h : Cx w0 w bs rs) (hb : Below w.heap.size w w') : Cx w0 w' bs rs :=
  ⟨h.below.trans (hb.mono h.below.size), fun b hm => (h.rows b hm).below hb (h.rows b hm).lt, fun r hm => (h.rds r hm).go hb⟩
theorem Cx.add {A : Option Addr} {n : Nat} {xs : List UInt8} (h : Cx w0 w bs rs) (hr : Rd w w.heap.size A n (bVs xs)) : Cx w0 w bs ((A, n, xs) :: rs) :=
  ⟨h.below, h.rows, fun r hm => by
    rcases List.mem_cons.1 hm with rfl | hm
    · exact hr
    · exact h.rds r hm⟩
theorem Cx.row0 {g : Nat} {t : TypeId} {cs : List Value} (h : Cx w0 w bs rs) (hr : Row w g t cs) : Cx w0 w ((g, t, cs) :: bs) rs :=
  ⟨h.below, fun b hm => by
    rcases List.mem_cons.1 hm with rfl | hm
    · exact hr
    · exact h.rows b hm, h.rds⟩
theorem Cx.box (h : Cx w0 w bs rs) (t : TypeId) (cs : List Value) : Cx w0 (w.alloc (.cells cs.toArray t)) ((w.heap.size, t, cs) :: bs) rs :=
  (h.go ((Below.refl _ _).alloc (Nat.le_refl _) _)).row0 (Row.new w cs t)
theorem Cx.alloc (h : Cx w0 w bs rs) (o : Obj) : Cx w0 (w.alloc o) bs rs := h.go ((Below.refl _ _).alloc (Nat.le_refl _) o)
theorem Cx.drewN (h : Cx w0 w bs rs) (n : Nat) : Cx w0 (w.drewN n) bs rs := h.go (below_drewN (Below.refl _ _) n)
theorem Cx.drew (h : Cx w0 w bs rs) : Cx w0 w.drew bs rs := h.go (Below.drew (Below.refl _ _))
theorem Cx.row (h : Cx w0 w bs rs) (i : Nat) {g : Nat} {t : TypeId} {cs : List Value} (e : bs[i]? = some (g, t, cs)) : Row w g t cs := h.rows _ (List.mem_of_getElem? e)
theorem Cx.rd (h : Cx w0 w bs rs) (i : Nat) {A : Option Addr} {n : Nat} {xs : List UInt8} (e : rs[i]? = some (A, n, xs)) : Rd w w.heap.size A n (bVs xs) := h.rds _ (List.mem_of_getElem? e)
theorem Cx.lt (h : Cx w0 w bs rs) (i : Nat) {g : Nat} {t : TypeId} {cs : List Value} (e : bs[i]? = some (g, t, cs)) : g < w.heap.size := (h.row i e).lt
theorem Cx.cells3 (h : Cx w0 w bs rs) (i : Nat) {g : Nat} {t : TypeId} {a b c : Value} (e : bs[i]? = some (g, t, [a, b, c])) : w.cell? ⟨g, 0, none⟩ = some a ∧ w.cell? ⟨g, 1, none⟩ = some b ∧ w.cell? ⟨g, 2, none⟩ = some c :=
  ⟨(h.row i e).cell 0, (h.row i e).cell 1, (h.row i e).cell 2⟩
theorem Cx.cells4 (h : Cx w0 w bs rs) (i : Nat) {g : Nat} {t : TypeId} {a b c d : Value} (e : bs[i]? = some (g, t, [a, b, c, d])) : w.cell? ⟨g, 0, none⟩ = some a ∧ w.cell? ⟨g, 1, none⟩ = some b ∧ w.cell? ⟨g, 2, none⟩ = some c ∧ w.cell? ⟨g, 3, none⟩ = some d :=
  ⟨(h.row i e).cell 0, (h.row i e).cell 1, (h.row i e).cell 2, (h.row i e).cell 3⟩
end
end Go.Proofs.Ythbjcafldbocpaa

/- The walk of verify.Makes. -/
namespace Go.Proofs.Ythbjcafldbocpaa
open Go.RowKit Go.Proofs.YthbjcafldbocpaaW.PrintWords Go.Proofs.Ythbjcafldbocpaa.P0
set_option linter.unusedVariables false
set_option linter.unusedSimpArgs false
/-- the rows that came out, one behind the other -/
def outsD (rs : List (Option (List UInt8))) : List UInt8 := (rs.map (·.getD [])).flatten
/-- what a matrix of the call's own looks like -/
def MatE (w' : World) (base : Nat) (o n : Int) (l : List UInt8) (code : Int) (e : Ending) : Prop := ∃ v b, base ≤ b ∧ e = .returned (.tuple #[.agg #[.int .i64 o, .int .i64 n, v], .int .i64 code]) ∧ OwnV w' b v l
theorem vAll_some {nr no reads n i : Nat} {l : List PS} {st : VS} (h : vAll nr no reads n l = (i, some st)) : (∀ o ∈ st.outs, o.isSome = true) ∧ st.loads = reads := by
  unfold vAll at h
  split at h
  · split at h
    · rename_i hc
      injection h with _ h
      injection h with h
      rw [← h]
      exact hc
    · injection h with _ h; cases h
  · injection h with _ h; cases h
theorem out_row {rs : List (Option (List UInt8))} (h : ∀ o ∈ rs, o.isSome = true) {j : Nat} (hj : j < rs.length) : ∃ x, rs.getD j none = some x ∧ outsD (rs.take (j + 1)) = outsD (rs.take j) ++ x := by
  have h1 := h _ (List.getElem_mem hj)
  obtain ⟨x, hx⟩ := Option.isSome_iff_exists.1 h1
  refine ⟨x, by rw [List.getD_eq_getElem?_getD, List.getElem?_eq_getElem hj]; exact hx, ?_⟩
  unfold outsD
  rw [List.take_succ_eq_append_getElem hj, hx]
  simp
theorem pad_take {x : List UInt8} {n : Nat} (h : x.length = n) : (pad (some x)).take n = x := by
  show (x ++ List.replicate (64 - x.length) 0).take n = x
  rw [List.take_append_of_le_length (by omega), List.take_of_length_le (by omega)]
theorem layAt_all (zs vs : List Value) (h : zs.length = vs.length) : layAt zs 0 vs = vs := by
  unfold layAt
  rw [List.take_zero, List.nil_append, Nat.zero_add, List.drop_eq_nil_of_le (by omega), List.append_nil]
theorem rd_pre {w : World} {g n : Nat} {t : TypeId} {ys : List UInt8} (h : Row w g t (bVs ys)) (hn : n ≤ ys.length) : Rd w w.heap.size (some ⟨g, 0, none⟩) n (bVs (ys.take n)) := by
  refine ⟨by rw [bVs_length, List.length_take]; omega, fun _ => ⟨g, 0, rfl, h.lt, fun j u hu => ?_⟩⟩
  rw [Nat.zero_add, h.cell, ← hu]
  have hj : j < n := by
    rcases Nat.lt_or_ge j n with hlt | hge
    · exact hlt
    · rw [List.getElem?_eq_none (by rw [bVs_length, List.length_take]; omega)] at hu; cases hu
  simp only [bVs, List.getElem?_map, List.getElem?_take, if_pos hj]
theorem own_far2 {w : World} {base g i : Nat} {v : Value} {xs : List UInt8} (h : OwnV w base v xs) (hg : g < base) (u : Value) : OwnV (w.setCell ⟨g, i, none⟩ u) base v xs :=
  h.kept (row := some g) (grown_setCell (p := ⟨g, i, none⟩) (World.grownBy.refl w (some g)) (.inl rfl) u) (.inr (by intro e; have := (World.ownsRow.lt h g e).1; omega))
theorem new_there (w : World) (cs : List Value) (t : TypeId) (n : Nat) (h : n ≤ cs.length) : (w.alloc (.cells cs.toArray t)).there w.heap.size 0 n := by
  intro j hj
  have hr := Row.new w cs t
  refine ⟨?_, hr.frozen _⟩
  rw [hr.cell, List.getElem?_eq_getElem (by omega)]
  rfl
set_option maxHeartbeats 4000000 in
set_option maxRecDepth 100000 in
theorem makes_yes {w : World} {A : Option Addr} {c : Nat} {l : List S59} {r o q n : Int} (hC : Kd.C k59 w A l.length l) (hc : l.length ≤ c) (hb : ∀ s ∈ l, byteB s.f3 = true) (hq : 0 ≤ q) (hq2 : q < 2 ^ 64) (hn : 0 ≤ n) (hn2 : n ≤ 64) (hm : mayB l r o = true) (st : VS) (i : Nat) (hv : vAll r.toNat o.toNat q.toNat n.toNat (l.map psOf) = (i, some st)) :
    Calls Try.prog 13 #[progV A l.length c r o q, .int .i64 n] w fun e w' => MatE w' w.heap.size o n (outsD st.outs) 0 e ∧ Below w.heap.size w w' := by
  obtain ⟨nn, rfl⟩ : ∃ nn : Nat, n = (nn : Int) := ⟨n.toNat, (Int.toNat_of_nonneg hn).symm⟩
  unfold progV
  have ho0 : 0 ≤ o ∧ o ≤ 64 := by
    unfold mayB at hm
    rw [Bool.and_eq_true, decide_eq_true_eq] at hm
    omega
  go_enter Try.func13, Try.ntmps13
  go_wp2_with fail
  obtain ⟨W1, hW1⟩ : ∃ W1, W1 = (w.alloc (.cells #[.slice A l.length c, .int .i64 r, .int .i64 o, .int .u64 q] 26)).alloc (.cells #[.int .i64 0, .int .i64 0, .slice none 0 0] 37) := ⟨_, rfl⟩
  have q1 : Below w.heap.size w W1 := by rw [hW1]; exact ((Below.refl _ _).alloc (Nat.le_refl _) _).alloc (by simp) _
  have hp : Row W1 w.heap.size 26 [.slice A l.length c, .int .i64 r, .int .i64 o, .int .u64 q] := by rw [hW1]; exact (Row.new w _ _).alloc _
  have hm4 : Row W1 (w.heap.size + 1) 37 [.int .i64 0, .int .i64 0, .slice none 0 0] := by
    rw [hW1]
    have := Row.new (w.alloc (.cells #[.slice A l.length c, .int .i64 r, .int .i64 o, .int .u64 q] 26)) [.int .i64 0, .int .i64 0, .slice none 0 0] 37
    simpa using this
  rw [← hW1]
  clear hW1
  refine (look_all (Kd.C_below hC q1) hc hb hq hq2 hn hn2 hm).mono ?_
  rintro e w' ⟨gk, gr, gs, go, gd, G, hbl, hy, hno⟩
  rw [hv] at hy
  obtain ⟨rfl, hK⟩ := hy st rfl
  clear hno hy
  have hp2 := hp.below hbl hp.lt
  have hm2 := hm4.below hbl hm4.lt
  have p2 : w'.cell? ⟨w.heap.size, 2, none⟩ = some (.int .i64 o) := hp2.cell 2
  have q2 : Below w.heap.size w w' := q1.trans (hbl.mono q1.size)
  have k8 : w'.cell? ⟨gk, 8, none⟩ = some (.slice (some ⟨go, 0, none⟩) o.toNat o.toNat) := hK.hk.cell 8
  have HK := Lib.hid hK
  have HM := Lib.hid hm2
  have HQ := Lib.hid q2
  have hG := hK.ho
  have hok := hK.ok
  clear hp hm4 hp2 hbl q1 k8
  obtain ⟨no, hno⟩ : ∃ no, no = o.toNat := ⟨_, rfl⟩
  have eno : (no : Int) = o := by rw [hno]; exact Int.toNat_of_nonneg ho0.1
  have k8 : (w'.alloc (.cells #[.int .i64 o, .int .i64 (nn : Int), .slice none 0 0] 37)).cell? ⟨gk, 8, none⟩ = some (.slice (some ⟨go, 0, none⟩) no no) := by rw [hno]; exact (hK.hk.alloc _).cell 8
  have hm3 := Row.new w' [.int .i64 o, .int .i64 (nn : Int), .slice none 0 0] 37
  have hg3 := hG.alloc (.cells #[.int .i64 o, .int .i64 (nn : Int), .slice none 0 0] 37)
  have hr3 := hm2.alloc (.cells #[.int .i64 o, .int .i64 (nn : Int), .slice none 0 0] 37)
  have lgm := hm2.lt
  have lgo := hG.lt
  have q3 : Below w.heap.size w (w'.alloc (.cells #[.int .i64 o, .int .i64 (nn : Int), .slice none 0 0] 37)) := q2.alloc q2.size _
  have HM3 := Lib.hid hm3
  have HG3 := Lib.hid hg3
  have HR3 := Lib.hid hr3
  have HQ3 := Lib.hid q3
  have lno : st.outs.length = no := by rw [hok.lo, hno]
  have HOK := Lib.hid hok
  have HNO := Lib.hid hno
  clear hK hm2 hG hok hm3 hg3 hr3 q3 q2 hno
  go_wp2_with fail
  go_loopw [30] (fun v30 wr => ∃ (j : Nat) (v : Value), j ≤ no ∧ v30 = .int .i64 (j : Int) ∧ Row wr w'.heap.size 37 [.int .i64 o, .int .i64 (nn : Int), v] ∧ OwnV wr (w'.heap.size + 1) v (outsD (st.outs.take j)) ∧ (outsD (st.outs.take j)).length = j * nn ∧ Row wr go 87 (bVs (flatR st.outs)) ∧ Row wr (w.heap.size + 1) 37 [.int .i64 0, .int .i64 0, .slice none 0 0] ∧ Below w.heap.size w wr ∧ w'.heap.size + 1 ≤ wr.heap.size) (fun v30 _ => no - (intOf v30).toNat)
  case atStart => exact ⟨0, _, by omega, rfl, HM3.out, OwnV.nil _ _, by simp [outsD], HG3.out, HR3.out, HQ3.out, by simp⟩
  case round =>
    obtain ⟨j, v, hj, rfl, hmm, how, hjl, hgg, hrr, hqq, hss⟩ := hrel
    clear HM3 HG3 HR3 HQ3 k8
    have HMM := Lib.hid hmm
    have HOW := Lib.hid how
    have HGG := Lib.hid hgg
    have HRR := Lib.hid hrr
    have HQQ := Lib.hid hqq
    by_cases hlt : j < no
    · have i0 : (0 : Int) ≤ (j : Int) := by omega
      have i1 : (j : Int) < (no : Int) := by omega
      have so := Short.of_ok' HOK.out (n := (nn : Int).toNat) (by omega)
      have lf : (flatR st.outs).length = no * 64 := by rw [flatR_length so, lno]
      obtain ⟨cs, hcs⟩ : ∃ cs, cs = bVs (seg (flatR st.outs) j) := ⟨_, rfl⟩
      have lcs : cs.length = 64 := by rw [hcs, bVs_length, seg_length lf hlt]
      have z1 : ∀ v ∈ cs, v.oneCell' = true := by intro v hv; rw [hcs] at hv; exact bVs_one hv
      have z2 : (Try.prog.info? 87).map (·.size) = some cs.length := by rw [lcs]; kernel_rfl
      have z3 : Try.prog.underlying 87 = some (.array 64 5) := by kernel_rfl
      have z4 : (Try.prog.info? 87).map (·.size) = some cs.toArray.size := by rw [List.size_toArray]; exact z2
      have hra : wr.rangeAt go (j * 64) cs := by rw [hcs]; exact seg_cells hgg lf hlt
      have HCS := Lib.hid hcs
      have LCZ := Lib.hid (show cs.toArray.size = 64 by rw [List.size_toArray]; exact lcs)
      clear hcs hmm how hgg hrr hqq
      go_wp2_with (first | (refine wpList_load_mid rfl 87 (.tmp 32) rfl go (j * 64) rfl cs _ hra z3 rfl z2 ?_) | (refine wpList_store_mid rfl 87 (.tmp 10) (.tmp 33) rfl wr.heap.size 0 cs.toArray rfl rfl (by rw [LCZ.out]; exact new_there wr _ _ 64 (by decide)) z4 (all_oneCell_toArray z1) ?_; simp only [Act.put, List.setIfInBounds_toArray, List.set_cons_zero, List.set_cons_succ, List.toList_toArray]))
      obtain ⟨zs, hzs⟩ : ∃ zs : List Value, zs = [.int .u8 0, .int .u8 0, .int .u8 0, .int .u8 0, .int .u8 0, .int .u8 0, .int .u8 0, .int .u8 0, .int .u8 0, .int .u8 0, .int .u8 0, .int .u8 0, .int .u8 0, .int .u8 0, .int .u8 0, .int .u8 0, .int .u8 0, .int .u8 0, .int .u8 0, .int .u8 0, .int .u8 0, .int .u8 0, .int .u8 0, .int .u8 0, .int .u8 0, .int .u8 0, .int .u8 0, .int .u8 0, .int .u8 0, .int .u8 0, .int .u8 0, .int .u8 0, .int .u8 0, .int .u8 0, .int .u8 0, .int .u8 0, .int .u8 0, .int .u8 0, .int .u8 0, .int .u8 0, .int .u8 0, .int .u8 0, .int .u8 0, .int .u8 0, .int .u8 0, .int .u8 0, .int .u8 0, .int .u8 0, .int .u8 0, .int .u8 0, .int .u8 0, .int .u8 0, .int .u8 0, .int .u8 0, .int .u8 0, .int .u8 0, .int .u8 0, .int .u8 0, .int .u8 0, .int .u8 0, .int .u8 0, .int .u8 0, .int .u8 0, .int .u8 0] := ⟨_, rfl⟩
      have lzs : zs.length = 64 := by rw [hzs]; rfl
      obtain ⟨W4, hW4⟩ : ∃ W4, W4 = (wr.alloc (.cells zs.toArray 87)).setCells wr.heap.size 0 cs := ⟨_, rfl⟩
      have hrc : Row W4 wr.heap.size 87 cs := by
        have h9 := (Row.new wr zs 87).lay 0 cs (by rw [lcs, lzs]; decide)
        rw [layAt_all _ _ (by rw [lcs, lzs]), ← hW4] at h9
        exact h9
      have e4 : ∀ k, k < wr.heap.size → W4.heap[k]? = wr.heap[k]? := by
        intro k hk
        rw [hW4]
        exact (Go.Proofs.YthbjcafldbocpaaW.PrintWords.setCells_far cs 0 k (by omega)).trans (Below.heap_alloc wr _ k hk)
      have o4 : Below wr.heap.size wr W4 := by
        obtain ⟨g1, g2, g3, g4⟩ := Go.Proofs.YthbjcafldbocpaaW.PrintWords.setCells_same wr.heap.size cs 0 (wr.alloc (.cells zs.toArray 87))
        rw [hW4]
        exact ⟨g1, g2, g3, by rw [g4]; simp, fun k hk => by rw [← hW4]; exact e4 k hk⟩
      rw [← hzs, ← hW4]
      have HRC := Lib.hid hrc
      have HE4 := Lib.hid e4
      have HO4 := Lib.hid o4
      have HALL := Lib.hid (vAll_some hv).1
      clear hzs hW4 lzs hrc e4 o4 hra z1 z2 z3 z4
      obtain ⟨x, hx, hxo⟩ := out_row HALL.out (j := j) (by rw [lno]; exact hlt)
      have lx : x.length = nn := by have := HOK.out.wo j x hx; simpa using this
      have hm4 := HMM.out.below HO4.out HMM.out.lt
      have how4 := HOW.out.below HO4.out
      have hrd : Rd W4 W4.heap.size (some ⟨wr.heap.size, 0, none⟩) nn (bVs x) := by
        have h9 := HRC.out
        rw [HCS.out] at h9
        have h8 := rd_pre h9 (n := nn) (by rw [seg_length lf hlt]; omega)
        rw [seg_flat so (by rw [lno]; exact hlt), hx, pad_take lx] at h8
        exact h8
      have m0 : W4.cell? ⟨w'.heap.size, 2, none⟩ = some v := hm4.cell 2
      have hlo : (outsD (st.outs.take j)).length ≤ 4096 := by rw [hjl]; exact Nat.mul_le_mul (show j ≤ 64 by omega) (show nn ≤ 64 by omega)
      have b4 : w'.heap.size + 1 ≤ W4.heap.size := Nat.le_trans hss HO4.out.size
      have HM4 := Lib.hid hm4
      have HOW4 := Lib.hid how4
      have HRD := Lib.hid hrd
      have n0 : (0 : Int) ≤ (nn : Int) := by omega
      clear hm4 how4 hrd
      refine wp_region_held_drew (S := fun _ => True) (by kernel_rfl) trivial (fun hHeld => ?_)
      refine wpAnyH_take (i := 0) (v := ?_) rfl (by kernel_rfl) (by kernel_rfl) (by kernel_rfl) (fun _ _ _ h => h) (Or.inl ⟨by kernel_rfl, ?_⟩) (by assumption) ?_
      rotate_left
      · (intro w hSw; (try dsimp only at hSw); go_simp; (try with_reducible rfl))
      try simp only [List.getElem_toArray, List.getElem_cons_succ, List.getElem_cons_zero, Act.put, List.setIfInBounds_toArray, List.set_cons_zero, List.set_cons_succ]
      refine wpAnyH_take (i := 2) (v := ?_) rfl (by kernel_rfl) (by kernel_rfl) (by kernel_rfl) (fun _ _ _ h => h) (Or.inl ⟨by kernel_rfl, ?_⟩) (by assumption) ?_
      rotate_left
      · (intro w hSw; (try dsimp only at hSw); go_simp; (try with_reducible rfl))
      try simp only [List.getElem_toArray, List.getElem_cons_succ, List.getElem_cons_zero, Act.put, List.setIfInBounds_toArray, List.set_cons_zero, List.set_cons_succ]
      refine wpAnyH_take (i := 3) (v := ?_) rfl (by kernel_rfl) (by kernel_rfl) (by kernel_rfl) (fun _ _ _ h => h) (Or.inl ⟨by kernel_rfl, ?_⟩) (by assumption) ?_
      rotate_left
      · (intro w hSw; (try dsimp only at hSw); go_simp; (try with_reducible rfl))
      try simp only [List.getElem_toArray, List.getElem_cons_succ, List.getElem_cons_zero, Act.put, List.setIfInBounds_toArray, List.set_cons_zero, List.set_cons_succ]
      refine wpAnyH_ready (rs := [1]) (by kernel_rfl) (by simp) ?_
      refine AllReadyH.cons rfl (fun K hK => ?_) AllReadyH.nil
      go_simp
      refine hK.out _ _ trivial (fun hHeld => ?_)
      clear hK K
      try simp only [List.getElem_toArray, List.getElem_cons_succ, List.getElem_cons_zero, Act.put, List.setIfInBounds_toArray, List.set_cons_zero, List.set_cons_succ]
      refine wpAnyH_ready (rs := [4]) (by kernel_rfl) (by simp) ?_
      refine AllReadyH.cons rfl (fun K hK => ?_) AllReadyH.nil
      refine step_append_rd (.tmp 35) (.tmp 37) rfl rfl (w'.heap.size + 1) v _ x rfl (HOW4.out.drewN 1) _ (some ⟨wr.heap.size, 0, none⟩) nn 64 rfl HRD.out (by omega) b4 ?_
      intro v6 w6 ho6 hg6 hat6
      obtain ⟨A6, c6, rfl, _⟩ := ho6.slice
      generalize hm6 : (outsD (st.outs.take j) ++ x).length = m6 at *
      have HM6 := Lib.hid hm6
      clear hm6
      have hb6 : Below (w'.heap.size + 1) W4.drew w6 := grown_below hg6 b4 (fun k hk => (World.ownsRow.lt HOW4.out k hk).1)
      have hb6' : Below (w'.heap.size + 1) W4 w6 := ⟨hb6.os, hb6.tape, hb6.output, hb6.size, hb6.block⟩
      have hm6r := HM4.out.below hb6' (by omega)
      have c62 : w6.cell? ⟨w'.heap.size, 2, none⟩ = some v := hm6r.cell 2
      have f62 : w6.frozen? ⟨w'.heap.size, 2, none⟩ = false := hm6r.frozen 2
      have HF1 := Lib.hid (hm6r.set 2 (.slice A6 m6 c6))
      have HF2 := Lib.hid (own_far2 (g := w'.heap.size) (i := 2) ho6 (by omega) (.slice A6 m6 c6))
      have HF3 := Lib.hid (((HGG.out.below HO4.out HGG.out.lt).below hb6' (by omega)).far (p := ⟨w'.heap.size, 2, none⟩) (by simp; omega) (.slice A6 m6 c6))
      have HF4 := Lib.hid (((HRR.out.below HO4.out HRR.out.lt).below hb6' (by omega)).far (p := ⟨w'.heap.size, 2, none⟩) (by simp; omega) (.slice A6 m6 c6))
      have HF5 := Lib.hid (show Below w.heap.size w (w6.setCell ⟨w'.heap.size, 2, none⟩ (.slice A6 m6 c6)) from ((HQQ.out.trans (HO4.out.mono HQQ.out.size)).trans (hb6'.mono (by omega))).setCell (by simp; omega) _)
      have HF6 := Lib.hid (show w'.heap.size + 1 ≤ (w6.setCell ⟨w'.heap.size, 2, none⟩ (.slice A6 m6 c6)).heap.size by have := hb6'.size; simp [World.setCell]; omega)
      clear ho6 hg6 hat6 hb6 hb6' hm6r
      refine hK.out _ _ trivial (fun hHeld => ?_)
      clear hK K
      try simp only [List.getElem_toArray, List.getElem_cons_succ, List.getElem_cons_zero, Act.put, List.setIfInBounds_toArray, List.set_cons_zero, List.set_cons_succ]
      refine wpAnyH_take (i := 5) (v := ?_) rfl (by kernel_rfl) (by kernel_rfl) (by kernel_rfl) (fun _ _ _ h => h) (Or.inl ⟨by kernel_rfl, ?_⟩) (by assumption) ?_
      rotate_left
      · (intro w hSw; (try dsimp only at hSw); go_simp; (try with_reducible rfl))
      try simp only [List.getElem_toArray, List.getElem_cons_succ, List.getElem_cons_zero, Act.put, List.setIfInBounds_toArray, List.set_cons_zero, List.set_cons_succ]
      refine wpAnyH_ready (rs := [6]) (by kernel_rfl) (by simp) ?_
      refine AllReadyH.cons rfl (fun K hK => ?_) AllReadyH.nil
      go_simp
      refine hK.out _ _ trivial (fun hHeld => ?_)
      clear hK K
      try simp only [List.getElem_toArray, List.getElem_cons_succ, List.getElem_cons_zero, Act.put, List.setIfInBounds_toArray, List.set_cons_zero, List.set_cons_succ]
      refine wpAnyH_done (by kernel_rfl) ?_ _
      go_wp2_with fail
      go_roundw
      case rel => exact ⟨j + 1, _, by omega, by go_num, HF1.out, by rw [hxo]; exact HF2.out, by rw [hxo, List.length_append, hjl, lx, Nat.add_mul, Nat.one_mul], HF3.out, HF4.out, HF5.out, HF6.out⟩
      case measure => simp [intOf] <;> omega
    · obtain rfl : j = no := by omega
      rw [← lno, List.take_length] at how
      have m0 : wr.cell? ⟨w'.heap.size, 0, none⟩ = some (.int .i64 o) := hmm.cell 0
      have m1 : wr.cell? ⟨w'.heap.size, 1, none⟩ = some (.int .i64 (nn : Int)) := hmm.cell 1
      have m2 : wr.cell? ⟨w'.heap.size, 2, none⟩ = some v := hmm.cell 2
      obtain ⟨c40, c41, c42, f40, f41, f42⟩ := hrr.three
      obtain ⟨Av, cv, rfl, _⟩ := how.slice
      generalize hmv : (outsD st.outs).length = mv at *
      have HMV := Lib.hid hmv
      clear hmv
      have HOWF := Lib.hid how
      have R4 := hrr.set3 (.int .i64 o) (.int .i64 (nn : Int)) (.slice Av mv cv)
      obtain ⟨d0, d1, d2, _, _, _⟩ := R4.three
      have H9 := Lib.hid (own_far2 (i := 2) (own_far2 (i := 1) (own_far2 (i := 0) how (show w.heap.size + 1 < w'.heap.size + 1 by omega) (.int .i64 o)) (show w.heap.size + 1 < w'.heap.size + 1 by omega) (.int .i64 (nn : Int))) (show w.heap.size + 1 < w'.heap.size + 1 by omega) (.slice Av mv cv))
      have H10 := Lib.hid (((hqq.setCell (p := ⟨w.heap.size + 1, 0, none⟩) (by simp) (.int .i64 o)).setCell (p := ⟨w.heap.size + 1, 1, none⟩) (by simp) (.int .i64 (nn : Int))).setCell (p := ⟨w.heap.size + 1, 2, none⟩) (by simp) (.slice Av mv cv))
      clear hmm how hgg hrr hqq
      go_wp2_with fail
      refine bodyPost_ret (v := .tuple #[.agg #[.int .i64 o, .int .i64 (nn : Int), .slice Av mv cv], .int .i64 0]) (by simp [results, Try.results13, go_sem, d0, d1, d2]) rfl ?_
      exact ⟨⟨_, w'.heap.size + 1, by omega, rfl, H9.out⟩, H10.out⟩
end Go.Proofs.Ythbjcafldbocpaa

/- The walk of verify.Makes where the program is not sound. -/
namespace Go.Proofs.Ythbjcafldbocpaa
open Go.RowKit Go.Proofs.YthbjcafldbocpaaW.PrintWords Go.Proofs.Ythbjcafldbocpaa.P0
set_option linter.unusedVariables false
set_option linter.unusedSimpArgs false
set_option maxRecDepth 100000 in
theorem makes_no {w : World} {A : Option Addr} {c : Nat} {l : List S59} {r o q n code : Int} (hcode : code ≠ 0)
    (hlook : ∀ w1, Below w.heap.size w w1 → Calls Try.prog 30 #[.agg #[.slice A l.length c, .int .i64 r, .int .i64 o, .int .u64 q], .int .i64 n] w1 fun e w' => ∃ p, e = .returned (.tuple #[.pointer p, .int .i64 code]) ∧ Below w1.heap.size w1 w') :
    Calls Try.prog 13 #[progV A l.length c r o q, .int .i64 n] w fun e w' => e = .returned (.tuple #[.agg #[.int .i64 0, .int .i64 0, .slice none 0 0], .int .i64 code]) ∧ Below w.heap.size w w' := by
  unfold progV
  have hcn : (code != 0) = true := by simpa using hcode
  go_enter Try.func13, Try.ntmps13
  go_wp2_with fail
  obtain ⟨W1, hW1⟩ : ∃ W1, W1 = (w.alloc (.cells #[.slice A l.length c, .int .i64 r, .int .i64 o, .int .u64 q] 26)).alloc (.cells #[.int .i64 0, .int .i64 0, .slice none 0 0] 37) := ⟨_, rfl⟩
  have q1 : Below w.heap.size w W1 := by rw [hW1]; exact ((Below.refl _ _).alloc (Nat.le_refl _) _).alloc (by simp) _
  have hm4 : Row W1 (w.heap.size + 1) 37 [.int .i64 0, .int .i64 0, .slice none 0 0] := by
    rw [hW1]
    have := Row.new (w.alloc (.cells #[.slice A l.length c, .int .i64 r, .int .i64 o, .int .u64 q] 26)) [.int .i64 0, .int .i64 0, .slice none 0 0] 37
    simpa using this
  rw [← hW1]
  clear hW1
  refine (hlook W1 q1).mono ?_
  rintro e w' ⟨p, rfl, hbl⟩
  have hm2 := hm4.below hbl hm4.lt
  have q2 : Below w.heap.size w w' := q1.trans (hbl.mono q1.size)
  obtain ⟨c40, c41, c42, f40, f41, f42⟩ := hm2.three
  have R4 := hm2.set3 (.int .i64 0) (.int .i64 0) (.slice none 0 0)
  obtain ⟨d0, d1, d2, _, _, _⟩ := R4.three
  have H10 := Lib.hid (((q2.setCell (p := ⟨w.heap.size + 1, 0, none⟩) (by simp) (.int .i64 0)).setCell (p := ⟨w.heap.size + 1, 1, none⟩) (by simp) (.int .i64 0)).setCell (p := ⟨w.heap.size + 1, 2, none⟩) (by simp) (.slice none 0 0))
  clear hm4 hm2 q1 q2 hbl R4 hlook
  go_wp2_with fail
  refine bodyPost_ret (v := .tuple #[.agg #[.int .i64 0, .int .i64 0, .slice none 0 0], .int .i64 code]) (by simp [results, Try.results13, go_sem, d0, d1, d2]) rfl ?_
  exact ⟨rfl, H10.out⟩
/-- the answer of Makes: the matrix, and the error -/
def makesV (l : List S59) (r o q n : Int) : Int × Int × List UInt8 × Int :=
  if n < 0 ∨ 64 < n ∨ mayB l r o = false then (0, 0, [], 2)
  else match vAll r.toNat o.toNat q.toNat n.toNat (l.map psOf) with
    | (_, some st) => (o, n, outsD st.outs, 0)
    | (_, none) => (0, 0, [], 250)
theorem makes_calls {w : World} {A : Option Addr} {c : Nat} {l : List S59} {r o q n : Int} (hC : Kd.C k59 w A l.length l) (hc : l.length ≤ c) (hb : ∀ s ∈ l, byteB s.f3 = true) (hq : 0 ≤ q) (hq2 : q < 2 ^ 64) :
    Calls Try.prog 13 #[progV A l.length c r o q, .int .i64 n] w fun e w' => MatE w' w.heap.size (makesV l r o q n).1 (makesV l r o q n).2.1 (makesV l r o q n).2.2.1 (makesV l r o q n).2.2.2 e ∧ Below w.heap.size w w' := by
  by_cases h : n < 0 ∨ 64 < n ∨ mayB l r o = false
  · have e : makesV l r o q n = (0, 0, [], 2) := by unfold makesV; exact if_pos h
    rw [e]
    refine (makes_no (code := 2) (by decide) (fun w1 h1 => ((look_bad (r := r) (o := o) (q := q) (n := n) (Kd.C_below hC h1) hc h).mono ?_))).mono ?_
    · rintro e w' ⟨rfl, hbl⟩
      exact ⟨none, rfl, hbl⟩
    · rintro e w' ⟨rfl, hbl⟩
      exact ⟨⟨_, w.heap.size, Nat.le_refl _, rfl, OwnV.nil _ _⟩, hbl⟩
  · have h' : mayB l r o = true := by
      cases hm : mayB l r o
      · exact absurd (.inr (.inr hm)) h
      · rfl
    cases hv : vAll r.toNat o.toNat q.toNat n.toNat (l.map psOf) with
    | mk i st =>
      cases st with
      | some st =>
        have e : makesV l r o q n = (o, n, outsD st.outs, 0) := by unfold makesV; rw [if_neg h, hv]
        rw [e]
        exact makes_yes hC hc hb hq hq2 (by omega) (by omega) h' st i hv
      | none =>
        have e : makesV l r o q n = (0, 0, [], 250) := by unfold makesV; rw [if_neg h, hv]
        rw [e]
        refine (makes_no (code := 250) (by decide) (fun w1 h1 => ((look_all (r := r) (o := o) (q := q) (n := n) (Kd.C_below hC h1) hc hb hq hq2 (by omega) (by omega) h').mono ?_))).mono ?_
        · rintro e w' ⟨gk, gr, gs, go, gd, G, hbl, hy, hno⟩
          rw [hv] at hno
          obtain ⟨rfl, _⟩ := hno rfl
          exact ⟨_, rfl, hbl⟩
        · rintro e w' ⟨rfl, hbl⟩
          exact ⟨⟨_, w.heap.size, Nat.le_refl _, rfl, OwnV.nil _ _⟩, hbl⟩
end Go.Proofs.Ythbjcafldbocpaa

/- The walks of the document's run where it refuses, and of its Check. -/
namespace Go.Proofs.Ythbjcafldbocpaa
open Go.RowKit Go.Proofs.YthbjcafldbocpaaW.PrintWords Go.Proofs.Ythbjcafldbocpaa.P0
set_option linter.unusedVariables false
set_option linter.unusedSimpArgs false
theorem run_bad {w : World} {A : Option Addr} {c : Nat} {l : List S59} {r o q n : Int} (hC : Kd.C k59 w A l.length l) (hc : l.length ≤ c) (h : n < 0 ∨ 64 < n ∨ mayB l r o = false) :
    Calls Try.prog 31 #[.agg #[.slice A l.length c, .int .i64 r, .int .i64 o, .int .u64 q], .int .i64 n] w fun e w' => e = .returned (.tuple #[.slice none 0 0, .int .i64 0, .int .i64 2]) ∧ Below w.heap.size w w' := by
  have q0 : ∀ o, Below w.heap.size w (w.alloc o) := fun o => (Below.refl _ _).alloc (Nat.le_refl _) _
  obtain ⟨b, hb⟩ : ∃ b, mayB l r o = b := ⟨_, rfl⟩
  have hcan := fun w1 h1 => can_ok (w := w) r o q hC hc w1 h1
  rw [hb] at hcan
  cases b with
  | false =>
    go_enter Try.func31, Try.ntmps31
    go_wp2_with fail
    refine (hcan _ (q0 _)).mono ?_
    rintro e w1 ⟨rfl, hb1⟩
    go_wp2_with fail
    go_ret3
    exact ⟨rfl, (q0 _).trans (hb1.mono (by simp))⟩
  | true =>
    by_cases h0 : n < 0
    · have h1 : decide (n < 0) = true := decide_eq_true h0
      go_enter Try.func31, Try.ntmps31
      go_wp2_with fail
      refine (hcan _ (q0 _)).mono ?_
      rintro e w1 ⟨rfl, hb1⟩
      go_wp2_with fail
      go_ret3
      exact ⟨rfl, (q0 _).trans (hb1.mono (by simp))⟩
    · have h1 : decide (n < 0) = false := decide_eq_false h0
      have h2 : decide (64 < n) = true := decide_eq_true (by rcases h with h | h | h; exact absurd h h0; exact h; rw [hb] at h; cases h)
      go_enter Try.func31, Try.ntmps31
      go_wp2_with fail
      refine (hcan _ (q0 _)).mono ?_
      rintro e w1 ⟨rfl, hb1⟩
      go_wp2_with fail
      go_ret3
      exact ⟨rfl, (q0 _).trans (hb1.mono (by simp))⟩
theorem run_all {w : World} {A : Option Addr} {c : Nat} {l : List S59} {r o q n : Int} (hC : Kd.C k59 w A l.length l) (hc : l.length ≤ c) (hb : ∀ s ∈ l, byteB s.f3 = true) (hq : 0 ≤ q) (hq2 : q < 2 ^ 64) (hn : 0 ≤ n) (hn2 : n ≤ 64) (hm : mayB l r o = true) :
    Calls Try.prog 31 #[.agg #[.slice A l.length c, .int .i64 r, .int .i64 o, .int .u64 q], .int .i64 n] w fun e w' => RunPost w r.toNat o.toNat q.toNat n.toNat (l.map psOf) e w' := by
  have h1 := hm
  unfold mayB at h1
  rw [Bool.and_eq_true, decide_eq_true_eq, List.all_eq_true] at h1
  obtain ⟨⟨r1, r2, o1, o2, hl⟩, ho⟩ := h1
  have hst := steps_of hC ho hb
  have er : ((r.toNat : Nat) : Int) = r := Int.toNat_of_nonneg r1
  have eo : ((o.toNat : Nat) : Int) = o := Int.toNat_of_nonneg o1
  have eq : ((q.toNat : Nat) : Int) = q := Int.toNat_of_nonneg hq
  have en : ((n.toNat : Nat) : Int) = n := Int.toNat_of_nonneg hn
  have el : (l.map psOf).length = l.length := List.length_map _
  have hok : ∀ s ∈ l.map psOf, s.Ok := by
    intro s hs
    obtain ⟨x, hx, rfl⟩ := List.mem_map.1 hs
    exact psOf_ok (ho x hx)
  have hcan := can_ok (w := w) r o q hC hc
  rw [hm] at hcan
  have H := run_yes A (l.map psOf) c r.toNat o.toNat q.toNat n.toNat w hst (by omega) (by omega) (by rw [el]; exact hl) (by omega) (by omega) hok (by rw [el, er, eo, eq]; exact hcan)
  rw [el, er, eo, eq, en] at H
  exact H
set_option maxRecDepth 100000 in
theorem rcheck_calls {w : World} {A : Option Addr} {c : Nat} {l : List S59} {r o q n : Int} (hC : Kd.C k59 w A l.length l) (hc : l.length ≤ c) (hb : ∀ s ∈ l, byteB s.f3 = true) (hq : 0 ≤ q) (hq2 : q < 2 ^ 64) :
    Calls Try.prog 11 #[progV A l.length c r o q, .int .i64 n] w fun e w' => e = .returned (.tuple #[.int .i64 (checkV l r o q n).1, .int .i64 (checkV l r o q n).2]) ∧ Below w.heap.size w w' := by
  have q0 : ∀ o, Below w.heap.size w (w.alloc o) := fun o => (Below.refl _ _).alloc (Nat.le_refl _) _
  by_cases h : n < 0 ∨ 64 < n ∨ mayB l r o = false
  · have e : checkV l r o q n = (0, 2) := by unfold checkV; exact if_pos h
    rw [e]
    unfold progV
    go_enter Try.func11, Try.ntmps11
    go_wp2_with fail
    refine (run_bad (Kd.C_below hC (q0 _)) hc h).mono ?_
    rintro e w' ⟨rfl, hb'⟩
    go_wp2_with fail
    go_ret2
    exact ⟨rfl, (q0 _).trans (hb'.mono (by simp))⟩
  · have h' : mayB l r o = true := by
      cases hm : mayB l r o
      · exact absurd (.inr (.inr hm)) h
      · rfl
    have e : checkV l r o q n = match vAll r.toNat o.toNat q.toNat n.toNat (l.map psOf) with
      | (i, some _) => ((i : Int), 0)
      | (i, none) => ((i : Int), 250) := by unfold checkV; exact if_neg h
    rw [e]
    obtain ⟨⟨pl, st⟩, hv⟩ : ∃ v, v = vAll r.toNat o.toNat q.toNat n.toNat (l.map psOf) := ⟨_, rfl⟩
    rw [← hv]
    unfold progV
    go_enter Try.func11, Try.ntmps11
    go_wp2_with fail
    refine (run_all (Kd.C_below hC (q0 _)) hc hb hq hq2 (by omega) (by omega) h').mono ?_
    rintro e w' ⟨hbl, hy, hno⟩
    rw [← hv] at hy hno
    have hbl' := (q0 (.cells #[.slice A l.length c, .int .i64 r, .int .i64 o, .int .u64 q] 26)).trans (hbl.mono (by simp))
    cases st with
    | some st =>
      obtain ⟨gt, ga, gz, rfl, _, _⟩ := hy st rfl
      clear hy hno
      go_wp2_with fail
      go_ret2
      exact ⟨rfl, hbl'⟩
    | none =>
      obtain rfl := hno rfl
      clear hy hno
      go_wp2_with fail
      go_ret2
      exact ⟨rfl, hbl'⟩
end Go.Proofs.Ythbjcafldbocpaa

/- The walk of the document's Makes of a sound program. -/
namespace Go.Proofs.Ythbjcafldbocpaa
open Go.RowKit Go.Proofs.YthbjcafldbocpaaW.PrintWords Go.Proofs.Ythbjcafldbocpaa.P0
set_option linter.unusedVariables false
set_option linter.unusedSimpArgs false
set_option maxHeartbeats 4000000 in
set_option maxRecDepth 100000 in
theorem rmakes_yes {w : World} {A : Option Addr} {c : Nat} {l : List S59} {r o q n : Int} (hC : Kd.C k59 w A l.length l) (hc : l.length ≤ c) (hb : ∀ s ∈ l, byteB s.f3 = true) (hq : 0 ≤ q) (hq2 : q < 2 ^ 64) (hn : 0 ≤ n) (hn2 : n ≤ 64) (hm : mayB l r o = true) (st : VS) (i : Nat) (hv : vAll r.toNat o.toNat q.toNat n.toNat (l.map psOf) = (i, some st)) :
    Calls Try.prog 23 #[progV A l.length c r o q, .int .i64 n] w fun e w' => MatE w' w.heap.size o n (outsD st.outs) 0 e ∧ Below w.heap.size w w' := by
  obtain ⟨nn, rfl⟩ : ∃ nn : Nat, n = (nn : Int) := ⟨n.toNat, (Int.toNat_of_nonneg hn).symm⟩
  unfold progV
  have ho0 : 0 ≤ o ∧ o ≤ 64 := by
    unfold mayB at hm
    rw [Bool.and_eq_true, decide_eq_true_eq] at hm
    omega
  go_enter Try.func23, Try.ntmps23
  go_wp2_with fail
  obtain ⟨W1, hW1⟩ : ∃ W1, W1 = (w.alloc (.cells #[.slice A l.length c, .int .i64 r, .int .i64 o, .int .u64 q] 26)).alloc (.cells #[.int .i64 0, .int .i64 0, .slice none 0 0] 37) := ⟨_, rfl⟩
  have q1 : Below w.heap.size w W1 := by rw [hW1]; exact ((Below.refl _ _).alloc (Nat.le_refl _) _).alloc (by simp) _
  have hm4 : Row W1 (w.heap.size + 1) 37 [.int .i64 0, .int .i64 0, .slice none 0 0] := by
    rw [hW1]
    have := Row.new (w.alloc (.cells #[.slice A l.length c, .int .i64 r, .int .i64 o, .int .u64 q] 26)) [.int .i64 0, .int .i64 0, .slice none 0 0] 37
    simpa using this
  rw [← hW1]
  clear hW1
  refine (run_all (Kd.C_below hC q1) hc hb hq hq2 hn hn2 hm).mono ?_
  rintro e w' ⟨hbl, hy, hno⟩
  rw [hv] at hy
  obtain ⟨gt, ga, gz, rfl, hD, hgz⟩ := hy st rfl
  clear hno hy
  have hm2 := hm4.below hbl hm4.lt
  have q2 : Below w.heap.size w w' := q1.trans (hbl.mono q1.size)
  obtain ⟨no, hno⟩ : ∃ no, no = o.toNat := ⟨_, rfl⟩
  have eno : (no : Int) = o := by rw [hno]; exact Int.toNat_of_nonneg ho0.1
  obtain ⟨lz, hrz, hvz⟩ := hD.lz
  have hok := hD.ok
  have lno : st.outs.length = no := by rw [hok.lo, hno]
  rw [← hno]
  have hm3 := Row.new w' [.int .i64 (no : Int), .int .i64 (nn : Int), .slice none 0 0] 37
  have hr3 := hm2.alloc (.cells #[.int .i64 (no : Int), .int .i64 (nn : Int), .slice none 0 0] 37)
  have lgm := hm2.lt
  have lgz := hrz.lt
  have q3 : Below w.heap.size w (w'.alloc (.cells #[.int .i64 (no : Int), .int .i64 (nn : Int), .slice none 0 0] 37)) := q2.alloc q2.size _
  have HM3 := Lib.hid hm3
  have HZ3 := Lib.hid hrz
  have HV3 := Lib.hid hvz
  have HR3 := Lib.hid hr3
  have HQ3 := Lib.hid q3
  have HOK := Lib.hid hok
  have HNO := Lib.hid hno
  have HENO := Lib.hid eno
  have HALL := Lib.hid (vAll_some hv).1
  clear hm4 hm2 hD hrz hvz hok hm3 hr3 q3 q2 q1 hbl hno eno
  go_wp2_with fail
  go_loopw [10] (fun v10 wr => ∃ (j : Nat) (v : Value), j ≤ no ∧ v10 = .int .i64 (j : Int) ∧ Row wr w'.heap.size 37 [.int .i64 (no : Int), .int .i64 (nn : Int), v] ∧ OwnV wr (w'.heap.size + 1) v (outsD (st.outs.take j)) ∧ (outsD (st.outs.take j)).length = j * nn ∧ Below w'.heap.size w' wr ∧ Row wr (w.heap.size + 1) 37 [.int .i64 0, .int .i64 0, .slice none 0 0] ∧ Below w.heap.size w wr ∧ w'.heap.size + 1 ≤ wr.heap.size) (fun v10 _ => no - (intOf v10).toNat)
  case atStart => exact ⟨0, _, by omega, rfl, HM3.out, OwnV.nil _ _, by simp [outsD], (Below.refl _ _).alloc (Nat.le_refl _) _, HR3.out, HQ3.out, by simp⟩
  case round =>
    obtain ⟨j, v, hj, rfl, hmm, how, hjl, hww, hrr, hqq, hss⟩ := hrel
    clear HM3 HR3 HQ3
    have HMM := Lib.hid hmm
    have HOW := Lib.hid how
    have HWW := Lib.hid hww
    have HRR := Lib.hid hrr
    have HQQ := Lib.hid hqq
    have hno64 : no ≤ 64 := by have := HENO.out; omega
    by_cases hlt : j < no
    · have i0 : (0 : Int) ≤ (j : Int) := by omega
      have i1 : (j : Int) < (no : Int) := by omega
      obtain ⟨x, hx, hxo⟩ := out_row HALL.out (j := j) (by rw [lno]; exact hlt)
      have lx : x.length = nn := by have := HOK.out.wo j x hx; simpa using this
      have hvw : Vals wr lz st.outs := HV3.out.keep (fun g cells hg => hww.block g (heap_lt hg))
      obtain ⟨vx, cx, ox⟩ := hvw.cell (HZ3.out.below hww HZ3.out.lt) (i := j) (by rw [lno]; exact hlt)
      rw [hx] at ox
      obtain ⟨gx, kx, rfl, _, rx⟩ := ox
      rw [lx] at cx
      have hrd := rx.rd
      rw [lx] at hrd
      have HRD := Lib.hid (show Rd wr.drew wr.drew.heap.size (some ⟨gx, 0, none⟩) nn (bVs x) from hrd)
      have m0 : wr.cell? ⟨w'.heap.size, 2, none⟩ = some v := hmm.cell 2
      have hlo : (outsD (st.outs.take j)).length ≤ 4096 := by rw [hjl]; exact Nat.mul_le_mul (show j ≤ 64 by have := HENO.out; omega) (show nn ≤ 64 by omega)
      clear hmm how hww hrr hqq hvw rx hrd
      go_wp2_with fail
      refine wp_region_held_drew (S := fun x => x.cell? ⟨gz, j, none⟩ = some (.slice (some ⟨gx, 0, none⟩) nn kx)) (by kernel_rfl) cx (fun hHeld => ?_)
      refine wpAnyH_take (i := 0) (v := ?_) rfl (by kernel_rfl) (by kernel_rfl) (by kernel_rfl) (fun _ _ _ h => h) (Or.inl ⟨by kernel_rfl, ?_⟩) (by assumption) ?_
      rotate_left
      · (intro w hSw; (try dsimp only at hSw); go_simp; (try with_reducible rfl))
      try simp only [List.getElem_toArray, List.getElem_cons_succ, List.getElem_cons_zero, Act.put, List.setIfInBounds_toArray, List.set_cons_zero, List.set_cons_succ]
      refine wpAnyH_take (i := 2) (v := ?_) rfl (by kernel_rfl) (by kernel_rfl) (by kernel_rfl) (fun _ _ _ h => h) (Or.inl ⟨by kernel_rfl, ?_⟩) (by assumption) ?_
      rotate_left
      · (intro w hSw; (try dsimp only at hSw); go_simp; (try with_reducible rfl))
      try simp only [List.getElem_toArray, List.getElem_cons_succ, List.getElem_cons_zero, Act.put, List.setIfInBounds_toArray, List.set_cons_zero, List.set_cons_succ]
      refine wpAnyH_take (i := 3) (v := ?_) rfl (by kernel_rfl) (by kernel_rfl) (by kernel_rfl) (fun _ _ _ h => h) (Or.inl ⟨by kernel_rfl, ?_⟩) (by assumption) ?_
      rotate_left
      · (intro w hSw; (try dsimp only at hSw); go_simp; (try with_reducible rfl))
      try simp only [List.getElem_toArray, List.getElem_cons_succ, List.getElem_cons_zero, Act.put, List.setIfInBounds_toArray, List.set_cons_zero, List.set_cons_succ]
      refine wpAnyH_take (i := 4) (v := ?_) rfl (by kernel_rfl) (by kernel_rfl) (by kernel_rfl) (fun _ _ _ h => h) (Or.inl ⟨by kernel_rfl, ?_⟩) (by assumption) ?_
      rotate_left
      · (intro w hSw; (try dsimp only at hSw); go_simp; (try with_reducible rfl))
      try simp only [List.getElem_toArray, List.getElem_cons_succ, List.getElem_cons_zero, Act.put, List.setIfInBounds_toArray, List.set_cons_zero, List.set_cons_succ]
      refine wpAnyH_take (i := 5) (v := ?_) rfl (by kernel_rfl) (by kernel_rfl) (by kernel_rfl) (fun _ _ _ h => h) (Or.inl ⟨by kernel_rfl, ?_⟩) (by assumption) ?_
      rotate_left
      · (intro w hSw; (try dsimp only at hSw); go_simp; (try with_reducible rfl))
      try simp only [List.getElem_toArray, List.getElem_cons_succ, List.getElem_cons_zero, Act.put, List.setIfInBounds_toArray, List.set_cons_zero, List.set_cons_succ]
      refine wpAnyH_ready (rs := [1]) (by kernel_rfl) (by simp) ?_
      refine AllReadyH.cons rfl (fun K hK => ?_) AllReadyH.nil
      go_simp
      refine hK.out _ _ hHeld (fun hHeld => ?_)
      clear hK K
      try simp only [List.getElem_toArray, List.getElem_cons_succ, List.getElem_cons_zero, Act.put, List.setIfInBounds_toArray, List.set_cons_zero, List.set_cons_succ]
      refine wpAnyH_ready (rs := [6]) (by kernel_rfl) (by simp) ?_
      refine AllReadyH.cons rfl (fun K hK => ?_) AllReadyH.nil
      refine step_append_rd (.tmp 33) (.tmp 37) rfl rfl (w'.heap.size + 1) v _ x rfl (HOW.out.drewN 1) _ (some ⟨gx, 0, none⟩) nn kx rfl HRD.out (by omega) hss ?_
      intro v6 w6 ho6 hg6 hat6
      obtain ⟨A6, c6, rfl, _⟩ := ho6.slice
      generalize hm6 : (outsD (st.outs.take j) ++ x).length = m6 at *
      have HM6 := Lib.hid hm6
      clear hm6
      have hb6 : Below (w'.heap.size + 1) wr.drew w6 := grown_below hg6 hss (fun k hk => (World.ownsRow.lt HOW.out k hk).1)
      have hb6' : Below (w'.heap.size + 1) wr w6 := ⟨hb6.os, hb6.tape, hb6.output, hb6.size, hb6.block⟩
      have hm6r := HMM.out.below hb6' (by omega)
      have c62 : w6.cell? ⟨w'.heap.size, 2, none⟩ = some v := hm6r.cell 2
      have f62 : w6.frozen? ⟨w'.heap.size, 2, none⟩ = false := hm6r.frozen 2
      have cx6 : w6.cell? ⟨gz, j, none⟩ = some (.slice (some ⟨gx, 0, none⟩) nn kx) := (hb6'.cell (p := ⟨gz, j, none⟩) (by simp; omega)).trans cx
      have cx7 : (w6.setCell ⟨w'.heap.size, 2, none⟩ (.slice A6 m6 c6)).cell? ⟨gz, j, none⟩ = some (.slice (some ⟨gx, 0, none⟩) nn kx) := (World.cell?_setCell_other w6 _ ⟨gz, j, none⟩ _ (by intro e; injection e with e; omega)).trans cx6
      have HF1 := Lib.hid (hm6r.set 2 (.slice A6 m6 c6))
      have HF2 := Lib.hid (own_far2 (g := w'.heap.size) (i := 2) ho6 (by omega) (.slice A6 m6 c6))
      have HF3 := Lib.hid (show Below w'.heap.size w' (w6.setCell ⟨w'.heap.size, 2, none⟩ (.slice A6 m6 c6)) from (HWW.out.trans (hb6'.mono (by omega))).setCell (by simp) _)
      have HF4 := Lib.hid ((HRR.out.below hb6' (by omega)).far (p := ⟨w'.heap.size, 2, none⟩) (by simp; omega) (.slice A6 m6 c6))
      have HF5 := Lib.hid (show Below w.heap.size w (w6.setCell ⟨w'.heap.size, 2, none⟩ (.slice A6 m6 c6)) from (HQQ.out.trans (hb6'.mono (by omega))).setCell (by simp; omega) _)
      have HF6 := Lib.hid (show w'.heap.size + 1 ≤ (w6.setCell ⟨w'.heap.size, 2, none⟩ (.slice A6 m6 c6)).heap.size by have := hb6'.size; simp [World.setCell]; omega)
      clear ho6 hg6 hat6 hb6 hb6' hm6r
      refine hK.out _ _ cx6 (fun hHeld => ?_)
      clear hK K
      try simp only [List.getElem_toArray, List.getElem_cons_succ, List.getElem_cons_zero, Act.put, List.setIfInBounds_toArray, List.set_cons_zero, List.set_cons_succ]
      refine wpAnyH_take (i := 7) (v := ?_) rfl (by kernel_rfl) (by kernel_rfl) (by kernel_rfl) (fun _ _ _ h => h) (Or.inl ⟨by kernel_rfl, ?_⟩) (by assumption) ?_
      rotate_left
      · (intro w hSw; (try dsimp only at hSw); go_simp; (try with_reducible rfl))
      try simp only [List.getElem_toArray, List.getElem_cons_succ, List.getElem_cons_zero, Act.put, List.setIfInBounds_toArray, List.set_cons_zero, List.set_cons_succ]
      refine wpAnyH_ready (rs := [8]) (by kernel_rfl) (by simp) ?_
      refine AllReadyH.cons rfl (fun K hK => ?_) AllReadyH.nil
      go_simp
      refine hK.out _ _ cx7 (fun hHeld => ?_)
      clear hK K
      try simp only [List.getElem_toArray, List.getElem_cons_succ, List.getElem_cons_zero, Act.put, List.setIfInBounds_toArray, List.set_cons_zero, List.set_cons_succ]
      refine wpAnyH_done (by kernel_rfl) ?_ _
      go_wp2_with fail
      go_roundw
      case rel =>
        exact ⟨j + 1, _, by omega, by go_num, HF1.out, by rw [hxo]; exact HF2.out, by rw [hxo, List.length_append, hjl, lx, Nat.add_mul, Nat.one_mul], HF3.out, HF4.out, HF5.out, HF6.out⟩
      case measure => simp [intOf] <;> omega
    · obtain rfl : j = no := by omega
      rw [← lno, List.take_length] at how
      have m0 : wr.cell? ⟨w'.heap.size, 0, none⟩ = some (.int .i64 (j : Int)) := hmm.cell 0
      have m1 : wr.cell? ⟨w'.heap.size, 1, none⟩ = some (.int .i64 (nn : Int)) := hmm.cell 1
      have m2 : wr.cell? ⟨w'.heap.size, 2, none⟩ = some v := hmm.cell 2
      obtain ⟨c40, c41, c42, f40, f41, f42⟩ := hrr.three
      obtain ⟨Av, cv, rfl, _⟩ := how.slice
      generalize hmv : (outsD st.outs).length = mv at *
      have HMV := Lib.hid hmv
      clear hmv
      have R4 := hrr.set3 (.int .i64 (j : Int)) (.int .i64 (nn : Int)) (.slice Av mv cv)
      obtain ⟨d0, d1, d2, _, _, _⟩ := R4.three
      have H9 := Lib.hid (own_far2 (i := 2) (own_far2 (i := 1) (own_far2 (i := 0) how (show w.heap.size + 1 < w'.heap.size + 1 by omega) (.int .i64 (j : Int))) (show w.heap.size + 1 < w'.heap.size + 1 by omega) (.int .i64 (nn : Int))) (show w.heap.size + 1 < w'.heap.size + 1 by omega) (.slice Av mv cv))
      have H10 := Lib.hid (((hqq.setCell (p := ⟨w.heap.size + 1, 0, none⟩) (by simp) (.int .i64 (j : Int))).setCell (p := ⟨w.heap.size + 1, 1, none⟩) (by simp) (.int .i64 (nn : Int))).setCell (p := ⟨w.heap.size + 1, 2, none⟩) (by simp) (.slice Av mv cv))
      clear hmm how hww hrr hqq
      go_wp2_with fail
      refine bodyPost_ret (v := .tuple #[.agg #[.int .i64 (j : Int), .int .i64 (nn : Int), .slice Av mv cv], .int .i64 0]) (by simp [results, Try.results23, go_sem, d0, d1, d2]) rfl ?_
      rw [← HENO.out]
      exact ⟨⟨_, w'.heap.size + 1, by omega, rfl, H9.out⟩, H10.out⟩
end Go.Proofs.Ythbjcafldbocpaa

/- The walk of the document's Makes, all ways: the same plain answer as the program's. -/
namespace Go.Proofs.Ythbjcafldbocpaa
open Go.RowKit Go.Proofs.YthbjcafldbocpaaW.PrintWords Go.Proofs.Ythbjcafldbocpaa.P0
set_option linter.unusedVariables false
set_option linter.unusedSimpArgs false
set_option maxRecDepth 100000 in
theorem rmakes_no {w : World} {A : Option Addr} {c : Nat} {l : List S59} {r o q n code : Int} (hcode : code ≠ 0)
    (hrun : ∀ w1, Below w.heap.size w w1 → Calls Try.prog 31 #[.agg #[.slice A l.length c, .int .i64 r, .int .i64 o, .int .u64 q], .int .i64 n] w1 fun e w' => ∃ p : Int, e = .returned (.tuple #[.slice none 0 0, .int .i64 p, .int .i64 code]) ∧ Below w1.heap.size w1 w') :
    Calls Try.prog 23 #[progV A l.length c r o q, .int .i64 n] w fun e w' => e = .returned (.tuple #[.agg #[.int .i64 0, .int .i64 0, .slice none 0 0], .int .i64 code]) ∧ Below w.heap.size w w' := by
  unfold progV
  have hcn : (code != 0) = true := by simpa using hcode
  go_enter Try.func23, Try.ntmps23
  go_wp2_with fail
  obtain ⟨W1, hW1⟩ : ∃ W1, W1 = (w.alloc (.cells #[.slice A l.length c, .int .i64 r, .int .i64 o, .int .u64 q] 26)).alloc (.cells #[.int .i64 0, .int .i64 0, .slice none 0 0] 37) := ⟨_, rfl⟩
  have q1 : Below w.heap.size w W1 := by rw [hW1]; exact ((Below.refl _ _).alloc (Nat.le_refl _) _).alloc (by simp) _
  have hm4 : Row W1 (w.heap.size + 1) 37 [.int .i64 0, .int .i64 0, .slice none 0 0] := by
    rw [hW1]
    have := Row.new (w.alloc (.cells #[.slice A l.length c, .int .i64 r, .int .i64 o, .int .u64 q] 26)) [.int .i64 0, .int .i64 0, .slice none 0 0] 37
    simpa using this
  rw [← hW1]
  clear hW1
  refine (hrun W1 q1).mono ?_
  rintro e w' ⟨p, rfl, hbl⟩
  have hm2 := hm4.below hbl hm4.lt
  have q2 : Below w.heap.size w w' := q1.trans (hbl.mono q1.size)
  obtain ⟨c40, c41, c42, f40, f41, f42⟩ := hm2.three
  have R4 := hm2.set3 (.int .i64 0) (.int .i64 0) (.slice none 0 0)
  obtain ⟨d0, d1, d2, _, _, _⟩ := R4.three
  have H10 := Lib.hid (((q2.setCell (p := ⟨w.heap.size + 1, 0, none⟩) (by simp) (.int .i64 0)).setCell (p := ⟨w.heap.size + 1, 1, none⟩) (by simp) (.int .i64 0)).setCell (p := ⟨w.heap.size + 1, 2, none⟩) (by simp) (.slice none 0 0))
  clear hm4 hm2 q1 q2 hbl R4 hrun
  go_wp2_with fail
  refine bodyPost_ret (v := .tuple #[.agg #[.int .i64 0, .int .i64 0, .slice none 0 0], .int .i64 code]) (by simp [results, Try.results23, go_sem, d0, d1, d2]) rfl ?_
  exact ⟨rfl, H10.out⟩
theorem rmakes_calls {w : World} {A : Option Addr} {c : Nat} {l : List S59} {r o q n : Int} (hC : Kd.C k59 w A l.length l) (hc : l.length ≤ c) (hb : ∀ s ∈ l, byteB s.f3 = true) (hq : 0 ≤ q) (hq2 : q < 2 ^ 64) :
    Calls Try.prog 23 #[progV A l.length c r o q, .int .i64 n] w fun e w' => MatE w' w.heap.size (makesV l r o q n).1 (makesV l r o q n).2.1 (makesV l r o q n).2.2.1 (makesV l r o q n).2.2.2 e ∧ Below w.heap.size w w' := by
  by_cases h : n < 0 ∨ 64 < n ∨ mayB l r o = false
  · have e : makesV l r o q n = (0, 0, [], 2) := by unfold makesV; exact if_pos h
    rw [e]
    refine (rmakes_no (code := 2) (by decide) (fun w1 h1 => ((run_bad (r := r) (o := o) (q := q) (n := n) (Kd.C_below hC h1) hc h).mono ?_))).mono ?_
    · rintro e w' ⟨rfl, hbl⟩
      exact ⟨0, rfl, hbl⟩
    · rintro e w' ⟨rfl, hbl⟩
      exact ⟨⟨_, w.heap.size, Nat.le_refl _, rfl, OwnV.nil _ _⟩, hbl⟩
  · have h' : mayB l r o = true := by
      cases hm : mayB l r o
      · exact absurd (.inr (.inr hm)) h
      · rfl
    cases hv : vAll r.toNat o.toNat q.toNat n.toNat (l.map psOf) with
    | mk i st =>
      cases st with
      | some st =>
        have e : makesV l r o q n = (o, n, outsD st.outs, 0) := by unfold makesV; rw [if_neg h, hv]
        rw [e]
        exact rmakes_yes hC hc hb hq hq2 (by omega) (by omega) h' st i hv
      | none =>
        have e : makesV l r o q n = (0, 0, [], 250) := by unfold makesV; rw [if_neg h, hv]
        rw [e]
        refine (rmakes_no (code := 250) (by decide) (fun w1 h1 => ((run_all (r := r) (o := o) (q := q) (n := n) (Kd.C_below hC h1) hc hb hq hq2 (by omega) (by omega) h').mono ?_))).mono ?_
        · rintro e w' ⟨hbl, hy, hno⟩
          rw [hv] at hno
          obtain rfl := hno rfl
          exact ⟨_, rfl, hbl⟩
        · rintro e w' ⟨rfl, hbl⟩
          exact ⟨⟨_, w.heap.size, Nat.le_refl _, rfl, OwnV.nil _ _⟩, hbl⟩
end Go.Proofs.Ythbjcafldbocpaa

/- Two contents compared; when the outs of two programs are the same. -/
namespace Go.Proofs.Ythbjcafldbocpaa
open Go.RowKit Go.Proofs.YthbjcafldbocpaaW.PrintWords Go.Proofs.Ythbjcafldbocpaa.P0
set_option linter.unusedVariables false
set_option linter.unusedSimpArgs false
theorem bVs_cell (xs : List UInt8) : bVs xs = xs.map Go.Extern.Stop.cell := rfl
theorem u8_size (w : World) : (sizeOf 5).run Try.prog w = .ok 1 w := by
  obtain ⟨i, hi, hz, hs, hb⟩ := info_parts u8_info
  simp [sizeOf, run_typeInfo w hi, hs]
theorem neq_content (w : World) (xs ys : List UInt8) (hx : xs.length = 64) (hy : ys.length = 64) : (binOp .neq 87 (.agg (bVs xs).toArray) (.agg (bVs ys).toArray)).run Try.prog w = .ok (.bool (!(xs == ys))) w := by
  rw [run_neq_struct, bVs_cell, bVs_cell, run_equalIn_bytes w 9998 87 5 64 (by kernel_rfl) (by kernel_rfl) u8_size xs ys hx hy]
  rfl
theorem content_guard : Try.prog.eqGuardType Try.prog.depth 87 = false := by kernel_rfl
theorem flat_iff {n : Nat} (hn : n ≤ 64) : ∀ (sa sb : List (Option (List UInt8))), sa.length = sb.length → (∀ o ∈ sa, ∃ x, o = some x ∧ x.length = n) → (∀ o ∈ sb, ∃ x, o = some x ∧ x.length = n) → (flatR sa = flatR sb ↔ outsD sa = outsD sb)
  | [], [], _, _, _ => by simp [outsD]
  | a :: sa, b :: sb, hl, ha, hb => by
    obtain ⟨x, rfl, lx⟩ := ha a (by simp)
    obtain ⟨y, rfl, ly⟩ := hb b (by simp)
    have ih := flat_iff hn sa sb (by simpa using hl) (fun o h => ha o (by simp [h])) (fun o h => hb o (by simp [h]))
    have px : (pad (some x)).length = 64 := pad_length (by intro l h; cases h; omega)
    have py : (pad (some y)).length = 64 := pad_length (by intro l h; cases h; omega)
    have e1 : flatR (some x :: sa) = pad (some x) ++ flatR sa := rfl
    have e2 : flatR (some y :: sb) = pad (some y) ++ flatR sb := rfl
    have e3 : outsD (some x :: sa) = x ++ outsD sa := rfl
    have e4 : outsD (some y :: sb) = y ++ outsD sb := rfl
    rw [e1, e2, e3, e4]
    constructor
    · intro h
      obtain ⟨h1, h2⟩ := List.append_inj h (by rw [px, py])
      have h3 : x = y := (List.append_inj (show x ++ List.replicate (64 - x.length) 0 = y ++ List.replicate (64 - y.length) 0 from h1) (by rw [lx, ly])).1
      rw [h3, ih.1 h2]
    · intro h
      obtain ⟨h1, h2⟩ := List.append_inj h (by rw [lx, ly])
      rw [h1, ih.2 h2]
  | [], _ :: _, hl, _, _ => by simp at hl
  | _ :: _, [], hl, _, _ => by simp at hl
theorem outs_all {st : VS} {nr no n : Nat} (hok : st.Ok nr no n) (h : ∀ o ∈ st.outs, o.isSome = true) : ∀ o ∈ st.outs, ∃ x, o = some x ∧ x.length = n := by
  intro o ho
  obtain ⟨x, hx⟩ := Option.isSome_iff_exists.1 (h o ho)
  obtain ⟨i, hi, rfl⟩ := List.getElem_of_mem ho
  exact ⟨x, hx, hok.wo i x (by rw [List.getD_eq_getElem?_getD, List.getElem?_eq_getElem hi]; simpa using hx)⟩
theorem take_seg (xs : List UInt8) (j : Nat) : xs.take ((j + 1) * 64) = xs.take (j * 64) ++ seg xs j := by
  rw [seg, Nat.add_mul, Nat.one_mul, List.take_add]
theorem ne_of_seg {xs ys : List UInt8} {j : Nat} (h : seg xs j ≠ seg ys j) : xs ≠ ys := by
  rintro rfl; exact h rfl
end Go.Proofs.Ythbjcafldbocpaa

/- The walk of verify.Alike. -/
namespace Go.Proofs.Ythbjcafldbocpaa
open Go.RowKit Go.Proofs.YthbjcafldbocpaaW.PrintWords Go.Proofs.Ythbjcafldbocpaa.P0
set_option linter.unusedVariables false
set_option linter.unusedSimpArgs false
/-- a looker that is through -/
def LookOk (w : World) (no n : Nat) (st : VS) (e : Ending) (w' : World) : Prop :=
  ∃ gk go nr rd : Nat, ∃ lk : List Value, e = .returned (.tuple #[.pointer (some ⟨gk, 0, none⟩), .int .i64 0]) ∧ Row w' gk 82 lk ∧ lk[8]? = some (.slice (some ⟨go, 0, none⟩) no no) ∧ Row w' go 87 (bVs (flatR st.outs)) ∧ (flatR st.outs).length = no * 64 ∧ Below w.heap.size w w'
theorem lookOk_of {w : World} {A : Option Addr} {c : Nat} {l : List S59} {r o q n : Int} (hC : Kd.C k59 w A l.length l) (hc : l.length ≤ c) (hb : ∀ s ∈ l, byteB s.f3 = true) (hq : 0 ≤ q) (hq2 : q < 2 ^ 64) (hn : 0 ≤ n) (hn2 : n ≤ 64) (hm : mayB l r o = true) (st : VS) (i : Nat) (hv : vAll r.toNat o.toNat q.toNat n.toNat (l.map psOf) = (i, some st)) :
    Calls Try.prog 30 #[.agg #[.slice A l.length c, .int .i64 r, .int .i64 o, .int .u64 q], .int .i64 n] w (LookOk w o.toNat n.toNat st) := by
  refine (look_all hC hc hb hq hq2 hn hn2 hm).mono ?_
  rintro e w' ⟨gk, gr, gs, go, gd, G, hbl, hy, hno⟩
  rw [hv] at hy
  obtain ⟨rfl, hK⟩ := hy st rfl
  exact ⟨gk, go, 0, 0, _, rfl, hK.hk, rfl, hK.ho, by rw [flatR_length (Short.of_ok' hK.ok (by omega)), hK.ok.lo], hbl⟩
set_option maxRecDepth 100000 in
set_option maxHeartbeats 4000000 in
theorem alike_yes {w : World} {A A' : Option Addr} {c c' nl nl' : Nat} {r o q r' o' q' n : Int} {no no' m : Nat} {sa sb : VS} (hno64 : no ≤ 64)
    (H1 : Hid (∀ w1, Below w.heap.size w w1 → Calls Try.prog 30 #[.agg #[.slice A nl c, .int .i64 r, .int .i64 o, .int .u64 q], .int .i64 n] w1 (LookOk w1 no m sa)))
    (H2 : Hid (∀ w1, Below w.heap.size w w1 → Calls Try.prog 30 #[.agg #[.slice A' nl' c', .int .i64 r', .int .i64 o', .int .u64 q'], .int .i64 n] w1 (LookOk w1 no' m sb))) :
    Calls Try.prog 24 #[progV A nl c r o q, progV A' nl' c' r' o' q', .int .i64 n] w fun e w' => e = .returned (.tuple #[.bool (decide (no = no') && (flatR sa.outs == flatR sb.outs)), .int .i64 0]) ∧ Below w.heap.size w w' := by
  unfold progV
  go_enter Try.func24, Try.ntmps24
  go_wp2_with fail
  obtain ⟨W1, hW1⟩ : ∃ W1, W1 = (w.alloc (.cells #[.slice A nl c, .int .i64 r, .int .i64 o, .int .u64 q] 26)).alloc (.cells #[.slice A' nl' c', .int .i64 r', .int .i64 o', .int .u64 q'] 26) := ⟨_, rfl⟩
  have q1 : Below w.heap.size w W1 := by rw [hW1]; exact ((Below.refl _ _).alloc (Nat.le_refl _) _).alloc (by simp) _
  have hp : Row W1 (w.heap.size + 1) 26 [.slice A' nl' c', .int .i64 r', .int .i64 o', .int .u64 q'] := by
    rw [hW1]
    have := Row.new (w.alloc (.cells #[.slice A nl c, .int .i64 r, .int .i64 o, .int .u64 q] 26)) [.slice A' nl' c', .int .i64 r', .int .i64 o', .int .u64 q'] 26
    simpa using this
  rw [← hW1]
  clear hW1
  refine (H1.out W1 q1).mono ?_
  rintro e w1 ⟨gk, go, nr, rd, lk, rfl, hk, hk8, ho, hfl, hb1⟩
  have q2 : Below w.heap.size w w1 := q1.trans (hb1.mono q1.size)
  have hp1 := hp.below hb1 hp.lt
  have p0 : w1.cell? ⟨w.heap.size + 1, 0, none⟩ = some (.slice A' nl' c') := hp1.cell 0
  have p1 : w1.cell? ⟨w.heap.size + 1, 1, none⟩ = some (.int .i64 r') := hp1.cell 1
  have p2 : w1.cell? ⟨w.heap.size + 1, 2, none⟩ = some (.int .i64 o') := hp1.cell 2
  have p3 : w1.cell? ⟨w.heap.size + 1, 3, none⟩ = some (.int .u64 q') := hp1.cell 3
  have HQ := Lib.hid q2
  have HK := Lib.hid hk
  have HK8 := Lib.hid hk8
  have HO := Lib.hid ho
  have HF := Lib.hid hfl
  clear q1 hp hb1 q2 hp1 hk hk8 ho hfl
  go_wp2_with fail
  refine (H2.out w1 HQ.out).mono ?_
  rintro e w2 ⟨gl, gp, nr2, rd2, lk2, rfl, hk, hk8, ho, hfl, hb2⟩
  have k8 : w2.cell? ⟨gk, 8, none⟩ = some (.slice (some ⟨go, 0, none⟩) no no) := ((HK.out.below hb2 HK.out.lt).cell 8).trans HK8.out
  have l8 : w2.cell? ⟨gl, 8, none⟩ = some (.slice (some ⟨gp, 0, none⟩) no' no') := (hk.cell 8).trans hk8
  have HO2 := Lib.hid (HO.out.below hb2 HO.out.lt)
  have HQ2 := Lib.hid (HQ.out.trans (hb2.mono HQ.out.size))
  have HL := Lib.hid hk
  have HL8 := Lib.hid hk8
  have HP := Lib.hid ho
  have HG := Lib.hid hfl
  clear hk hk8 ho hfl hb2 p0 p1 p2 p3
  go_wp2_with fail
  by_cases hne : no = no'
  · subst hne
    have e1 : ((no : Int) != (no : Int)) = false := by simp
    go_region_held3 (fun x => x.cell? ⟨gk, 8, none⟩ = some (.slice (some ⟨go, 0, none⟩) no no) ∧ x.cell? ⟨gl, 8, none⟩ = some (.slice (some ⟨gp, 0, none⟩) no no)) (go_keep) (fail)
    have hk8 : w2.drew.cell? ⟨gl, 8, none⟩ = some (.slice (some ⟨gp, 0, none⟩) no no) := l8
    have HO3 := Lib.hid (show Row w2.drew go 87 (bVs (flatR sa.outs)) from HO2.out.drewN 1)
    have HP3 := Lib.hid (show Row w2.drew gp 87 (bVs (flatR sb.outs)) from HP.out.drewN 1)
    have HL3 := Lib.hid (show Row w2.drew gl 82 lk2 from HL.out.drewN 1)
    have HQ3 := Lib.hid (Below.drew HQ2.out)
    have k83 : w2.drew.cell? ⟨gk, 8, none⟩ = some (.slice (some ⟨go, 0, none⟩) no no) := k8
    have hl2 := HP.out.lt
    have hl1 := HO2.out.lt
    have ll1 := HL.out.lt
    clear k8 l8 hk8
    generalize hw3 : w2.drew = w3 at *
    clear hw3
    go_wp2_with fail
    go_loopw [47] (fun v47 wr => ∃ j : Nat, j ≤ no ∧ v47 = .int .i64 (j : Int) ∧ (flatR sa.outs).take (j * 64) = (flatR sb.outs).take (j * 64) ∧ Row wr go 87 (bVs (flatR sa.outs)) ∧ Row wr gp 87 (bVs (flatR sb.outs)) ∧ Row wr gl 82 lk2 ∧ Below w.heap.size w wr) (fun v47 _ => no - (intOf v47).toNat)
    case atStart => exact ⟨0, by omega, rfl, by simp, HO3.out, HP3.out, HL3.out, HQ3.out⟩
    case round =>
      obtain ⟨j, hj, rfl, htk, hgo, hgp, hgl, hqq⟩ := hrel
      clear HO2 HP HL HQ2 HO3 HP3 HL3 HQ3 k83
      have HTK := Lib.hid htk
      have HGO := Lib.hid hgo
      have HGP := Lib.hid hgp
      have HGL := Lib.hid hgl
      have HQQ := Lib.hid hqq
      by_cases hlt : j < no
      · have i0 : (0 : Int) ≤ (j : Int) := by omega
        have i1 : (j : Int) < (no : Int) := by omega
        obtain ⟨cs, hcs⟩ : ∃ cs, cs = bVs (seg (flatR sa.outs) j) := ⟨_, rfl⟩
        have lcs : cs.length = 64 := by rw [hcs, bVs_length, seg_length HF.out hlt]
        have z1 : ∀ v ∈ cs, v.oneCell' = true := by intro v hv; rw [hcs] at hv; exact bVs_one hv
        have z2 : (Try.prog.info? 87).map (·.size) = some cs.length := by rw [lcs]; kernel_rfl
        have z3 : Try.prog.underlying 87 = some (.array 64 5) := by kernel_rfl
        have z4 : (Try.prog.info? 87).map (·.size) = some cs.toArray.size := by rw [List.size_toArray]; exact z2
        have hra : wr.rangeAt go (j * 64) cs := by rw [hcs]; exact seg_cells hgo HF.out hlt
        have LCZ := Lib.hid (show cs.toArray.size = 64 by rw [List.size_toArray]; exact lcs)
        have HCS := Lib.hid hcs
        clear hcs htk hgo hgp hgl hqq
        go_wp2_with (first | (refine wpList_load_mid rfl 87 (.tmp 50) rfl go (j * 64) rfl cs _ hra z3 rfl z2 ?_) | (refine wpList_store_mid rfl 87 (.tmp 12) (.tmp 51) rfl wr.heap.size 0 cs.toArray rfl rfl (by rw [LCZ.out]; exact new_there wr _ _ 64 (by decide)) z4 (all_oneCell_toArray z1) ?_; simp only [Act.put, List.setIfInBounds_toArray, List.set_cons_zero, List.set_cons_succ, List.toList_toArray]))
        obtain ⟨zs, hzs⟩ : ∃ zs : List Value, zs = [.int .u8 0, .int .u8 0, .int .u8 0, .int .u8 0, .int .u8 0, .int .u8 0, .int .u8 0, .int .u8 0, .int .u8 0, .int .u8 0, .int .u8 0, .int .u8 0, .int .u8 0, .int .u8 0, .int .u8 0, .int .u8 0, .int .u8 0, .int .u8 0, .int .u8 0, .int .u8 0, .int .u8 0, .int .u8 0, .int .u8 0, .int .u8 0, .int .u8 0, .int .u8 0, .int .u8 0, .int .u8 0, .int .u8 0, .int .u8 0, .int .u8 0, .int .u8 0, .int .u8 0, .int .u8 0, .int .u8 0, .int .u8 0, .int .u8 0, .int .u8 0, .int .u8 0, .int .u8 0, .int .u8 0, .int .u8 0, .int .u8 0, .int .u8 0, .int .u8 0, .int .u8 0, .int .u8 0, .int .u8 0, .int .u8 0, .int .u8 0, .int .u8 0, .int .u8 0, .int .u8 0, .int .u8 0, .int .u8 0, .int .u8 0, .int .u8 0, .int .u8 0, .int .u8 0, .int .u8 0, .int .u8 0, .int .u8 0, .int .u8 0, .int .u8 0] := ⟨_, rfl⟩
        have lzs : zs.length = 64 := by rw [hzs]; rfl
        obtain ⟨W4, hW4⟩ : ∃ W4, W4 = (wr.alloc (.cells zs.toArray 87)).setCells wr.heap.size 0 cs := ⟨_, rfl⟩
        have hrc : Row W4 wr.heap.size 87 cs := by
          have h9 := (Row.new wr zs 87).lay 0 cs (by rw [lcs, lzs]; decide)
          rw [layAt_all _ _ (by rw [lcs, lzs]), ← hW4] at h9
          exact h9
        have e4 : ∀ k, k < wr.heap.size → W4.heap[k]? = wr.heap[k]? := by
          intro k hk
          rw [hW4]
          exact (Go.Proofs.YthbjcafldbocpaaW.PrintWords.setCells_far cs 0 k (by omega)).trans (Below.heap_alloc wr _ k hk)
        have o4 : Below wr.heap.size wr W4 := by
          obtain ⟨g1, g2, g3, g4⟩ := Go.Proofs.YthbjcafldbocpaaW.PrintWords.setCells_same wr.heap.size cs 0 (wr.alloc (.cells zs.toArray 87))
          rw [hW4]
          exact ⟨g1, g2, g3, by rw [g4]; simp, fun k hk => by rw [← hW4]; exact e4 k hk⟩
        rw [← hzs, ← hW4]
        have hbx : W4.rangeAt wr.heap.size 0 cs := fun k v hk => by rw [Nat.zero_add, hrc.cell]; exact hk
        have hgo4 := HGO.out.below o4 HGO.out.lt
        have hgp4 := HGP.out.below o4 HGP.out.lt
        have hgl4 := HGL.out.below o4 HGL.out.lt
        have l8 : W4.cell? ⟨gl, 8, none⟩ = some (.slice (some ⟨gp, 0, none⟩) no no) := (hgl4.cell 8).trans HL8.out
        obtain ⟨ds, hds⟩ : ∃ ds, ds = bVs (seg (flatR sb.outs) j) := ⟨_, rfl⟩
        have lds : ds.length = 64 := by rw [hds, bVs_length, seg_length HG.out hlt]
        have hrb : W4.rangeAt gp (j * 64) ds := by rw [hds]; exact seg_cells hgp4 HG.out hlt
        have z5 : (Try.prog.info? 87).map (·.size) = some ds.length := by rw [lds]; kernel_rfl
        have zq := content_guard
        obtain ⟨bb, hbb⟩ : ∃ bb, bb = (seg (flatR sa.outs) j == seg (flatR sb.outs) j) := ⟨_, rfl⟩
        have zn : ∀ x : World, (binOp .neq 87 (.agg cs.toArray) (.agg ds.toArray)).run Try.prog x = .ok (.bool (!bb)) x := by
          intro x
          rw [HCS.out, hds, hbb]
          exact neq_content x _ _ (seg_length HF.out hlt) (seg_length HG.out hlt)
        have HGO4 := Lib.hid hgo4
        have HGP4 := Lib.hid hgp4
        have HGL4 := Lib.hid hgl4
        have HQ4 := Lib.hid (HQQ.out.trans (o4.mono HQQ.out.size))
        have HBB := Lib.hid hbb
        clear hzs hW4 lzs hrc e4 o4 hra z1 z4 hgo4 hgp4 hgl4 hds hbb
        cases bb with
        | true =>
          refine wp_region_held_drew (S := fun x => x.cell? ⟨gl, 8, none⟩ = some (.slice (some ⟨gp, 0, none⟩) no no) ∧ x.rangeAt gp (j * 64) ds ∧ x.rangeAt wr.heap.size 0 cs) (by kernel_rfl) ⟨l8, hrb, hbx⟩ (fun hHeld => ?_)
          refine wpAnyH_take (i := 0) (v := .agg cs.toArray) rfl (by kernel_rfl) (by kernel_rfl) (by kernel_rfl) (fun _ _ _ h => h) (yieldsIf_load_mid (by rfl) _ _ rfl wr.heap.size 0 rfl cs _ (fun w h => h.2.2) z3 rfl z2) (by assumption) ?_
          simp only [Act.put, List.setIfInBounds_toArray, List.set_cons_zero, List.set_cons_succ]
          refine wpAnyH_take (i := 1) (v := ?_) rfl (by kernel_rfl) (by kernel_rfl) (by kernel_rfl) (fun _ _ _ h => h) (Or.inl ⟨by kernel_rfl, ?_⟩) (by assumption) ?_
          rotate_left
          · (intro w hSw; (try dsimp only at hSw); go_simp; (try with_reducible rfl))
          try simp only [List.getElem_toArray, List.getElem_cons_succ, List.getElem_cons_zero, Act.put, List.setIfInBounds_toArray, List.set_cons_zero, List.set_cons_succ]
          refine wpAnyH_take (i := 2) (v := ?_) rfl (by kernel_rfl) (by kernel_rfl) (by kernel_rfl) (fun _ _ _ h => h) (Or.inl ⟨by kernel_rfl, ?_⟩) (by assumption) ?_
          rotate_left
          · (intro w hSw; (try dsimp only at hSw); go_simp; (try with_reducible rfl))
          try simp only [List.getElem_toArray, List.getElem_cons_succ, List.getElem_cons_zero, Act.put, List.setIfInBounds_toArray, List.set_cons_zero, List.set_cons_succ]
          refine wpAnyH_take (i := 3) (v := ?_) rfl (by kernel_rfl) (by kernel_rfl) (by kernel_rfl) (fun _ _ _ h => h) (Or.inl ⟨by kernel_rfl, ?_⟩) (by assumption) ?_
          rotate_left
          · (intro w hSw; (try dsimp only at hSw); go_simp; (try with_reducible rfl))
          try simp only [List.getElem_toArray, List.getElem_cons_succ, List.getElem_cons_zero, Act.put, List.setIfInBounds_toArray, List.set_cons_zero, List.set_cons_succ]
          refine wpAnyH_take (i := 4) (v := ?_) rfl (by kernel_rfl) (by kernel_rfl) (by kernel_rfl) (fun _ _ _ h => h) (Or.inl ⟨by kernel_rfl, ?_⟩) (by assumption) ?_
          rotate_left
          · (intro w hSw; (try dsimp only at hSw); go_simp; (try with_reducible rfl))
          try simp only [List.getElem_toArray, List.getElem_cons_succ, List.getElem_cons_zero, Act.put, List.setIfInBounds_toArray, List.set_cons_zero, List.set_cons_succ]
          refine wpAnyH_take (i := 5) (v := ?_) rfl (by kernel_rfl) (by kernel_rfl) (by kernel_rfl) (fun _ _ _ h => h) (Or.inl ⟨by kernel_rfl, ?_⟩) (by assumption) ?_
          rotate_left
          · (intro w hSw; (try dsimp only at hSw); go_simp; (try with_reducible rfl))
          try simp only [List.getElem_toArray, List.getElem_cons_succ, List.getElem_cons_zero, Act.put, List.setIfInBounds_toArray, List.set_cons_zero, List.set_cons_succ]
          refine wpAnyH_take (i := 6) (v := ?_) rfl (by kernel_rfl) (by kernel_rfl) (by kernel_rfl) (fun _ _ _ h => h) (Or.inl ⟨by kernel_rfl, ?_⟩) (by assumption) ?_
          rotate_left
          · (intro w hSw; (try dsimp only at hSw); go_simp; (try with_reducible rfl))
          try simp only [List.getElem_toArray, List.getElem_cons_succ, List.getElem_cons_zero, Act.put, List.setIfInBounds_toArray, List.set_cons_zero, List.set_cons_succ]
          refine wpAnyH_take (i := 7) (v := .agg ds.toArray) rfl (by kernel_rfl) (by kernel_rfl) (by kernel_rfl) (fun _ _ _ h => h) (yieldsIf_load_mid (by rfl) _ _ rfl gp (j * 64) rfl ds _ (fun w h => h.2.1) z3 rfl z5) (by assumption) ?_
          simp only [Act.put, List.setIfInBounds_toArray, List.set_cons_zero, List.set_cons_succ]
          refine wpAnyH_take (i := 8) (v := ?_) rfl (by kernel_rfl) (by kernel_rfl) (by kernel_rfl) (fun _ _ _ h => h) (Or.inl ⟨by kernel_rfl, ?_⟩) (by assumption) ?_
          rotate_left
          · (intro w hSw; (try dsimp only at hSw); go_simp; (try with_reducible rfl))
          try simp only [List.getElem_toArray, List.getElem_cons_succ, List.getElem_cons_zero, Act.put, List.setIfInBounds_toArray, List.set_cons_zero, List.set_cons_succ]
          refine wpAnyH_done (by kernel_rfl) ?_ _
          go_wp2_with fail
          go_roundw
          case rel => exact ⟨j + 1, by omega, by go_num, by rw [take_seg, take_seg, HTK.out, eq_of_beq HBB.out.symm], HGO4.out.drewN 1, HGP4.out.drewN 1, HGL4.out.drewN 1, Below.drew HQ4.out⟩
          case measure => simp [intOf] <;> omega
        | false =>
          refine wp_region_held_drew (S := fun x => x.cell? ⟨gl, 8, none⟩ = some (.slice (some ⟨gp, 0, none⟩) no no) ∧ x.rangeAt gp (j * 64) ds ∧ x.rangeAt wr.heap.size 0 cs) (by kernel_rfl) ⟨l8, hrb, hbx⟩ (fun hHeld => ?_)
          refine wpAnyH_take (i := 0) (v := .agg cs.toArray) rfl (by kernel_rfl) (by kernel_rfl) (by kernel_rfl) (fun _ _ _ h => h) (yieldsIf_load_mid (by rfl) _ _ rfl wr.heap.size 0 rfl cs _ (fun w h => h.2.2) z3 rfl z2) (by assumption) ?_
          simp only [Act.put, List.setIfInBounds_toArray, List.set_cons_zero, List.set_cons_succ]
          refine wpAnyH_take (i := 1) (v := ?_) rfl (by kernel_rfl) (by kernel_rfl) (by kernel_rfl) (fun _ _ _ h => h) (Or.inl ⟨by kernel_rfl, ?_⟩) (by assumption) ?_
          rotate_left
          · (intro w hSw; (try dsimp only at hSw); go_simp; (try with_reducible rfl))
          try simp only [List.getElem_toArray, List.getElem_cons_succ, List.getElem_cons_zero, Act.put, List.setIfInBounds_toArray, List.set_cons_zero, List.set_cons_succ]
          refine wpAnyH_take (i := 2) (v := ?_) rfl (by kernel_rfl) (by kernel_rfl) (by kernel_rfl) (fun _ _ _ h => h) (Or.inl ⟨by kernel_rfl, ?_⟩) (by assumption) ?_
          rotate_left
          · (intro w hSw; (try dsimp only at hSw); go_simp; (try with_reducible rfl))
          try simp only [List.getElem_toArray, List.getElem_cons_succ, List.getElem_cons_zero, Act.put, List.setIfInBounds_toArray, List.set_cons_zero, List.set_cons_succ]
          refine wpAnyH_take (i := 3) (v := ?_) rfl (by kernel_rfl) (by kernel_rfl) (by kernel_rfl) (fun _ _ _ h => h) (Or.inl ⟨by kernel_rfl, ?_⟩) (by assumption) ?_
          rotate_left
          · (intro w hSw; (try dsimp only at hSw); go_simp; (try with_reducible rfl))
          try simp only [List.getElem_toArray, List.getElem_cons_succ, List.getElem_cons_zero, Act.put, List.setIfInBounds_toArray, List.set_cons_zero, List.set_cons_succ]
          refine wpAnyH_take (i := 4) (v := ?_) rfl (by kernel_rfl) (by kernel_rfl) (by kernel_rfl) (fun _ _ _ h => h) (Or.inl ⟨by kernel_rfl, ?_⟩) (by assumption) ?_
          rotate_left
          · (intro w hSw; (try dsimp only at hSw); go_simp; (try with_reducible rfl))
          try simp only [List.getElem_toArray, List.getElem_cons_succ, List.getElem_cons_zero, Act.put, List.setIfInBounds_toArray, List.set_cons_zero, List.set_cons_succ]
          refine wpAnyH_take (i := 5) (v := ?_) rfl (by kernel_rfl) (by kernel_rfl) (by kernel_rfl) (fun _ _ _ h => h) (Or.inl ⟨by kernel_rfl, ?_⟩) (by assumption) ?_
          rotate_left
          · (intro w hSw; (try dsimp only at hSw); go_simp; (try with_reducible rfl))
          try simp only [List.getElem_toArray, List.getElem_cons_succ, List.getElem_cons_zero, Act.put, List.setIfInBounds_toArray, List.set_cons_zero, List.set_cons_succ]
          refine wpAnyH_take (i := 6) (v := ?_) rfl (by kernel_rfl) (by kernel_rfl) (by kernel_rfl) (fun _ _ _ h => h) (Or.inl ⟨by kernel_rfl, ?_⟩) (by assumption) ?_
          rotate_left
          · (intro w hSw; (try dsimp only at hSw); go_simp; (try with_reducible rfl))
          try simp only [List.getElem_toArray, List.getElem_cons_succ, List.getElem_cons_zero, Act.put, List.setIfInBounds_toArray, List.set_cons_zero, List.set_cons_succ]
          refine wpAnyH_take (i := 7) (v := .agg ds.toArray) rfl (by kernel_rfl) (by kernel_rfl) (by kernel_rfl) (fun _ _ _ h => h) (yieldsIf_load_mid (by rfl) _ _ rfl gp (j * 64) rfl ds _ (fun w h => h.2.1) z3 rfl z5) (by assumption) ?_
          simp only [Act.put, List.setIfInBounds_toArray, List.set_cons_zero, List.set_cons_succ]
          refine wpAnyH_take (i := 8) (v := ?_) rfl (by kernel_rfl) (by kernel_rfl) (by kernel_rfl) (fun _ _ _ h => h) (Or.inl ⟨by kernel_rfl, ?_⟩) (by assumption) ?_
          rotate_left
          · (intro w hSw; (try dsimp only at hSw); go_simp; (try with_reducible rfl))
          try simp only [List.getElem_toArray, List.getElem_cons_succ, List.getElem_cons_zero, Act.put, List.setIfInBounds_toArray, List.set_cons_zero, List.set_cons_succ]
          refine wpAnyH_done (by kernel_rfl) ?_ _
          go_wp2_with fail
          go_ret2
          have hA : (flatR sa.outs == flatR sb.outs) = false := by
            rw [beq_eq_false_iff_ne]
            exact ne_of_seg (by rw [← beq_eq_false_iff_ne]; exact HBB.out.symm)
          refine ⟨?_, Below.drew HQ4.out⟩
          rw [hA]
          simp
      · obtain rfl : j = no := by omega
        rw [← HF.out, List.take_length, HF.out, ← HG.out, List.take_length] at htk
        have HQF := Lib.hid hqq
        clear hqq hgo hgp hgl
        go_wp2_with fail
        go_ret2
        exact ⟨rfl, HQF.out⟩
  · have e1 : ((no : Int) != (no' : Int)) = true := by simpa using (fun h => hne (Int.ofNat_inj.1 h))
    go_region_held3 (fun x => x.cell? ⟨gk, 8, none⟩ = some (.slice (some ⟨go, 0, none⟩) no no) ∧ x.cell? ⟨gl, 8, none⟩ = some (.slice (some ⟨gp, 0, none⟩) no' no')) (go_keep) (fail)
    go_wp2_with fail
    go_ret2
    refine ⟨by simp [hne], ?_⟩
    exact Below.drew HQ2.out
end Go.Proofs.Ythbjcafldbocpaa

/- The walk of the document's Alike, by its plain answer. -/
namespace Go.Proofs.Ythbjcafldbocpaa
open Go.RowKit Go.Proofs.YthbjcafldbocpaaW.PrintWords Go.Proofs.Ythbjcafldbocpaa.P0
set_option linter.unusedVariables false
set_option linter.unusedSimpArgs false
/-- the answer of Alike, of two answers of Makes -/
def alikeM (a b : Int × Int × List UInt8 × Int) : Bool × Int :=
  if a.2.2.2 ≠ 0 then (false, a.2.2.2) else if b.2.2.2 ≠ 0 then (false, b.2.2.2) else (likeB a.1 a.2.1 a.2.2.1 b.1 b.2.1 b.2.2.1, 0)
theorem alikeM_1 {a b : Int × Int × List UInt8 × Int} (h : a.2.2.2 ≠ 0) : alikeM a b = (false, a.2.2.2) := by unfold alikeM; exact if_pos h
theorem alikeM_2 {a b : Int × Int × List UInt8 × Int} (h : a.2.2.2 = 0) (h2 : b.2.2.2 ≠ 0) : alikeM a b = (false, b.2.2.2) := by unfold alikeM; rw [if_neg (fun x => x h)]; exact if_pos h2
theorem alikeM_3 {a b : Int × Int × List UInt8 × Int} (h : a.2.2.2 = 0) (h2 : b.2.2.2 = 0) : alikeM a b = (likeB a.1 a.2.1 a.2.2.1 b.1 b.2.1 b.2.2.1, 0) := by unfold alikeM; rw [if_neg (fun x => x h)]; exact if_neg (fun x => x h2)
set_option maxRecDepth 100000 in
set_option maxHeartbeats 1600000 in
theorem ralike_core {w : World} {A A' : Option Addr} {c c' nl nl' : Nat} {r o q r' o' q' n : Int} (a b : Int × Int × List UInt8 × Int)
    (H1 : Hid (∀ w1, Below w.heap.size w w1 → Calls Try.prog 23 #[.agg #[.slice A nl c, .int .i64 r, .int .i64 o, .int .u64 q], .int .i64 n] w1 fun e w' => MatE w' w1.heap.size a.1 a.2.1 a.2.2.1 a.2.2.2 e ∧ Below w1.heap.size w1 w'))
    (H2 : Hid (∀ w1, Below w.heap.size w w1 → Calls Try.prog 23 #[.agg #[.slice A' nl' c', .int .i64 r', .int .i64 o', .int .u64 q'], .int .i64 n] w1 fun e w' => MatE w' w1.heap.size b.1 b.2.1 b.2.2.1 b.2.2.2 e ∧ Below w1.heap.size w1 w')) :
    Calls Try.prog 25 #[progV A nl c r o q, progV A' nl' c' r' o' q', .int .i64 n] w fun e w' => e = .returned (.tuple #[.bool (alikeM a b).1, .int .i64 (alikeM a b).2]) ∧ Below w.heap.size w w' := by
  obtain ⟨ar, ac, ad, ae⟩ := a
  obtain ⟨br, bc, bd, be⟩ := b
  unfold progV
  go_enter Try.func25, Try.ntmps25
  go_wp2_with fail
  obtain ⟨W1, hW1⟩ : ∃ W1, W1 = (w.alloc (.cells #[.slice A nl c, .int .i64 r, .int .i64 o, .int .u64 q] 26)).alloc (.cells #[.slice A' nl' c', .int .i64 r', .int .i64 o', .int .u64 q'] 26) := ⟨_, rfl⟩
  have q1 : Below w.heap.size w W1 := by rw [hW1]; exact ((Below.refl _ _).alloc (Nat.le_refl _) _).alloc (by simp) _
  have hp : Row W1 (w.heap.size + 1) 26 [.slice A' nl' c', .int .i64 r', .int .i64 o', .int .u64 q'] := by
    rw [hW1]
    have := Row.new (w.alloc (.cells #[.slice A nl c, .int .i64 r, .int .i64 o, .int .u64 q] 26)) [.slice A' nl' c', .int .i64 r', .int .i64 o', .int .u64 q'] 26
    simpa using this
  rw [← hW1]
  clear hW1
  refine (H1.out W1 q1).mono ?_
  rintro e w1 ⟨⟨va, ba, hba, rfl, oa⟩, hb1⟩
  obtain ⟨Aa, ca, rfl, hxa⟩ := oa.slice
  have q2 : Below w.heap.size w w1 := q1.trans (hb1.mono q1.size)
  have hp1 := hp.below hb1 hp.lt
  obtain ⟨W2, hW2⟩ : ∃ W2, W2 = w1.alloc (.cells #[.int .i64 ar, .int .i64 ac, .slice Aa ad.length ca] 37) := ⟨_, rfl⟩
  have q3 : Below w.heap.size w W2 := by rw [hW2]; exact q2.alloc q2.size _
  have hb12 : Below w1.heap.size w1 W2 := by rw [hW2]; exact (Below.refl _ _).alloc (Nat.le_refl _) _
  have hm2 : Row W2 w1.heap.size 37 [.int .i64 ar, .int .i64 ac, .slice Aa ad.length ca] := by rw [hW2]; exact Row.new w1 _ _
  have hp2 := hp1.below hb12 hp1.lt
  have p0 : W2.cell? ⟨w.heap.size + 1, 0, none⟩ = some (.slice A' nl' c') := hp2.cell 0
  have p1 : W2.cell? ⟨w.heap.size + 1, 1, none⟩ = some (.int .i64 r') := hp2.cell 1
  have p2 : W2.cell? ⟨w.heap.size + 1, 2, none⟩ = some (.int .i64 o') := hp2.cell 2
  have p3 : W2.cell? ⟨w.heap.size + 1, 3, none⟩ = some (.int .u64 q') := hp2.cell 3
  have rda : Rd W2 W2.heap.size Aa ad.length (bVs ad) := (hxa.rd).go hb12
  have HQ3 := Lib.hid q3
  have HM2 := Lib.hid hm2
  have HRD := Lib.hid rda
  generalize hna : ad.length = na at *
  have HNA := Lib.hid hna
  clear hna q1 hp hb1 oa q2 hp1 hp2 hm2 rda q3 hb12 hxa
  subst hW2
  by_cases h0 : ae = 0
  · subst h0
    go_wp2_with fail
    refine (H2.out _ HQ3.out).mono ?_
    rintro e w3 ⟨⟨vb, bb, hbb, rfl, ob⟩, hb3⟩
    obtain ⟨Ab, cb, rfl, hxb⟩ := ob.slice
    obtain ⟨W4, hW4⟩ : ∃ W4, W4 = w3.alloc (.cells #[.int .i64 br, .int .i64 bc, .slice Ab bd.length cb] 37) := ⟨_, rfl⟩
    have hb34 : Below w3.heap.size w3 W4 := by rw [hW4]; exact (Below.refl _ _).alloc (Nat.le_refl _) _
    have hb24 := hb3.trans (hb34.mono hb3.size)
    have HR4 := Lib.hid (show Row W4 w3.heap.size 37 [.int .i64 br, .int .i64 bc, .slice Ab bd.length cb] by rw [hW4]; exact Row.new w3 _ _)
    have HM4 := Lib.hid (HM2.out.below hb24 HM2.out.lt)
    have HQ4 := Lib.hid (HQ3.out.trans (hb24.mono HQ3.out.size))
    have HRA := Lib.hid (HRD.out.go hb24)
    have HRB := Lib.hid (show Rd W4 W4.heap.size Ab bd.length (bVs bd) from hxb.rd.go hb34)
    generalize hnb : bd.length = nb at *
    have HNB := Lib.hid hnb
    clear hnb ob hxb hb3 hb34 hb24 p0 p1 p2 p3
    subst hW4
    by_cases h1 : be = 0
    · subst h1
      have m0 := HM4.out.cell 0
      have m1 := HM4.out.cell 1
      have m2 := HM4.out.cell 2
      have k0 := HR4.out.cell 0
      have k1 := HR4.out.cell 1
      have k2 := HR4.out.cell 2
      simp only [List.getElem?_cons_zero, List.getElem?_cons_succ] at m0 m1 m2 k0 k1 k2
      go_wp2_with fail
      refine (likeAny_calls _ _ _ _ _ _ _ _ _ _ _ _ _ HRA.out HRB.out).mono ?_
      rintro e w6 ⟨rfl, hb6⟩
      have HB6 := Lib.hid hb6
      clear hb6
      go_wp2_with fail
      go_ret2
      rw [alikeM_3 rfl rfl]
      exact ⟨rfl, HQ4.out.trans (HB6.out.mono HQ4.out.size)⟩
    · have e2 : (be == 0) = false := by simpa using h1
      go_wp2_with fail
      go_ret2
      rw [alikeM_2 rfl h1]
      exact ⟨rfl, HQ4.out⟩
  · have e1 : (ae != 0) = true := by simpa using h0
    go_wp2_with fail
    go_ret2
    rw [alikeM_1 h0]
    exact ⟨rfl, HQ3.out⟩
end Go.Proofs.Ythbjcafldbocpaa

/- The walk of verify.Alike, all ways: the same plain answer as the document's. -/
namespace Go.Proofs.Ythbjcafldbocpaa
open Go.RowKit Go.Proofs.YthbjcafldbocpaaW.PrintWords Go.Proofs.Ythbjcafldbocpaa.P0
set_option linter.unusedVariables false
set_option linter.unusedSimpArgs false
theorem alike_1 {w : World} {A A' : Option Addr} {c c' nl nl' : Nat} {r o q r' o' q' n code : Int} (hcode : code ≠ 0)
    (H1 : Hid (∀ w1, Below w.heap.size w w1 → Calls Try.prog 30 #[.agg #[.slice A nl c, .int .i64 r, .int .i64 o, .int .u64 q], .int .i64 n] w1 fun e w' => ∃ p, e = .returned (.tuple #[.pointer p, .int .i64 code]) ∧ Below w1.heap.size w1 w')) :
    Calls Try.prog 24 #[progV A nl c r o q, progV A' nl' c' r' o' q', .int .i64 n] w fun e w' => e = .returned (.tuple #[.bool false, .int .i64 code]) ∧ Below w.heap.size w w' := by
  unfold progV
  have hcn : (code != 0) = true := by simpa using hcode
  have S := ((Cx.start w).box 26 [.slice A nl c, .int .i64 r, .int .i64 o, .int .u64 q]).box 26 [.slice A' nl' c', .int .i64 r', .int .i64 o', .int .u64 q']
  simp only [World.size_alloc] at S
  go_enter Try.func24, Try.ntmps24
  go_wp2_with fail
  refine (H1.out _ S.below).mono ?_
  rintro e w1 ⟨p, rfl, hb⟩
  replace S := S.go hb
  clear hb
  go_wp2_with fail
  go_ret2
  exact ⟨rfl, S.below⟩
theorem alike_2 {w : World} {A A' : Option Addr} {c c' nl nl' : Nat} {r o q r' o' q' n code : Int} (hcode : code ≠ 0)
    (H1 : Hid (∀ w1, Below w.heap.size w w1 → Calls Try.prog 30 #[.agg #[.slice A nl c, .int .i64 r, .int .i64 o, .int .u64 q], .int .i64 n] w1 fun e w' => ∃ p, e = .returned (.tuple #[.pointer p, .int .i64 0]) ∧ Below w1.heap.size w1 w'))
    (H2 : Hid (∀ w1, Below w.heap.size w w1 → Calls Try.prog 30 #[.agg #[.slice A' nl' c', .int .i64 r', .int .i64 o', .int .u64 q'], .int .i64 n] w1 fun e w' => ∃ p, e = .returned (.tuple #[.pointer p, .int .i64 code]) ∧ Below w1.heap.size w1 w')) :
    Calls Try.prog 24 #[progV A nl c r o q, progV A' nl' c' r' o' q', .int .i64 n] w fun e w' => e = .returned (.tuple #[.bool false, .int .i64 code]) ∧ Below w.heap.size w w' := by
  unfold progV
  have hcn : (code != 0) = true := by simpa using hcode
  have S := ((Cx.start w).box 26 [.slice A nl c, .int .i64 r, .int .i64 o, .int .u64 q]).box 26 [.slice A' nl' c', .int .i64 r', .int .i64 o', .int .u64 q']
  simp only [World.size_alloc] at S
  go_enter Try.func24, Try.ntmps24
  go_wp2_with fail
  refine (H1.out _ S.below).mono ?_
  rintro e w1 ⟨p, rfl, hb⟩
  replace S := S.go hb
  clear hb
  obtain ⟨c0, c1, c2, c3⟩ := S.cells4 0 rfl
  go_wp2_with fail
  refine (H2.out _ S.below).mono ?_
  rintro e w1 ⟨p, rfl, hb⟩
  replace S := S.go hb
  clear hb c0 c1 c2 c3
  go_wp2_with fail
  go_ret2
  exact ⟨rfl, S.below⟩
theorem vRun_ok {nr no reads n : Nat} : ∀ (l : List PS) (i : Nat) (st : VS) (j : Nat) (st' : VS), st.Ok nr no n → vRun nr no reads n l i st = (j, some st') → st'.Ok nr no n
  | [], i, st, j, st', h, e => by
    unfold vRun at e
    injection e with _ e
    injection e with e
    exact e ▸ h
  | s :: l, i, st, j, st', h, e => by
    unfold vRun at e
    split at e
    · rename_i st1 hs
      exact vRun_ok l (i + 1) st1 j st' (vStep_ok h hs) e
    · cases e
theorem vAll_ok {nr no reads n i : Nat} {l : List PS} {st : VS} (h : vAll nr no reads n l = (i, some st)) : st.Ok nr no n := by
  unfold vAll at h
  split at h
  · rename_i j st' hr
    split at h
    · injection h with _ e
      injection e with e
      exact e ▸ vRun_ok l 0 _ j st' (st0_ok nr no n) hr
    · cases h
  · cases h
theorem look_cases {w : World} {A : Option Addr} {c : Nat} {l : List S59} {r o q n : Int} (hC : Kd.C k59 w A l.length l) (hc : l.length ≤ c) (hb : ∀ s ∈ l, byteB s.f3 = true) (hq : 0 ≤ q) (hq2 : q < 2 ^ 64) :
    (∃ code : Int, code ≠ 0 ∧ makesV l r o q n = (0, 0, [], code) ∧ ∀ w1, Below w.heap.size w w1 → Calls Try.prog 30 #[.agg #[.slice A l.length c, .int .i64 r, .int .i64 o, .int .u64 q], .int .i64 n] w1 fun e w' => ∃ p, e = .returned (.tuple #[.pointer p, .int .i64 code]) ∧ Below w1.heap.size w1 w') ∨
    (∃ (st : VS) (no m : Nat), o = no ∧ n = m ∧ no ≤ 64 ∧ m ≤ 64 ∧ makesV l r o q n = (o, n, outsD st.outs, 0) ∧ (∀ x ∈ st.outs, ∃ y, x = some y ∧ y.length = m) ∧ st.outs.length = no ∧ ∀ w1, Below w.heap.size w w1 → Calls Try.prog 30 #[.agg #[.slice A l.length c, .int .i64 r, .int .i64 o, .int .u64 q], .int .i64 n] w1 (LookOk w1 no m st)) := by
  by_cases h : n < 0 ∨ 64 < n ∨ mayB l r o = false
  · refine .inl ⟨2, by decide, by unfold makesV; exact if_pos h, fun w1 h1 => (look_bad (r := r) (o := o) (q := q) (n := n) (Kd.C_below hC h1) hc h).mono ?_⟩
    rintro e w' ⟨rfl, hbl⟩
    exact ⟨none, rfl, hbl⟩
  · have h' : mayB l r o = true := by
      cases hm : mayB l r o
      · exact absurd (.inr (.inr hm)) h
      · rfl
    have ho0 : 0 ≤ o ∧ o ≤ 64 := by
      have hm := h'
      unfold mayB at hm
      rw [Bool.and_eq_true, decide_eq_true_eq] at hm
      omega
    cases hv : vAll r.toNat o.toNat q.toNat n.toNat (l.map psOf) with
    | mk i st =>
      cases st with
      | some st =>
        have hn0 : 0 ≤ n ∧ n ≤ 64 := by omega
        have hok : st.Ok r.toNat o.toNat n.toNat ∧ ∀ x ∈ st.outs, x.isSome = true := ⟨vAll_ok hv, (vAll_some hv).1⟩
        refine .inr ⟨st, o.toNat, n.toNat, (Int.toNat_of_nonneg ho0.1).symm, (Int.toNat_of_nonneg hn0.1).symm, by omega, by omega, by unfold makesV; rw [if_neg h, hv], outs_all hok.1 hok.2, hok.1.lo, fun w1 h1 => lookOk_of (Kd.C_below hC h1) hc hb hq hq2 hn0.1 hn0.2 h' st i hv⟩
      | none =>
        refine .inl ⟨250, by decide, by unfold makesV; rw [if_neg h, hv], fun w1 h1 => ((look_all (r := r) (o := o) (q := q) (n := n) (Kd.C_below hC h1) hc hb hq hq2 (by omega) (by omega) h').mono ?_)⟩
        rintro e w' ⟨gk, gr, gs, go, gd, G, hbl, hy, hno⟩
        rw [hv] at hno
        obtain ⟨rfl, _⟩ := hno rfl
        exact ⟨_, rfl, hbl⟩
theorem lookOk_p {w : World} {no n : Nat} {st : VS} {e : Ending} {w' : World} (h : LookOk w no n st e w') : ∃ p, e = .returned (.tuple #[.pointer p, .int .i64 0]) ∧ Below w.heap.size w w' := by
  obtain ⟨gk, go, nr, rd, lk, rfl, _, _, _, _, hb⟩ := h
  exact ⟨_, rfl, hb⟩
theorem alike_calls {w : World} {A A' : Option Addr} {c c' : Nat} {l l' : List S59} {r o q r' o' q' n : Int} (hC : Kd.C k59 w A l.length l) (hc : l.length ≤ c) (hb : ∀ s ∈ l, byteB s.f3 = true) (hq : 0 ≤ q) (hq2 : q < 2 ^ 64)
    (hC' : Kd.C k59 w A' l'.length l') (hc' : l'.length ≤ c') (hb' : ∀ s ∈ l', byteB s.f3 = true) (hq' : 0 ≤ q') (hq2' : q' < 2 ^ 64) :
    Calls Try.prog 24 #[progV A l.length c r o q, progV A' l'.length c' r' o' q', .int .i64 n] w fun e w' => e = .returned (.tuple #[.bool (alikeM (makesV l r o q n) (makesV l' r' o' q' n)).1, .int .i64 (alikeM (makesV l r o q n) (makesV l' r' o' q' n)).2]) ∧ Below w.heap.size w w' := by
  rcases look_cases (r := r) (o := o) (n := n) hC hc hb hq hq2 with ⟨code, h1, h2, h3⟩ | ⟨st, no, m, e1, e2, h1, h2, h3, h4, h5, h6⟩
  · rw [h2, alikeM_1 (a := (0, 0, [], code)) h1]
    exact alike_1 h1 (Lib.hid h3)
  · rcases look_cases (r := r') (o := o') (n := n) hC' hc' hb' hq' hq2' with ⟨code, g1, g2, g3⟩ | ⟨st', no', m', f1, f2, g1, g2, g3, g4, g5, g6⟩
    · rw [h3, g2, alikeM_2 (a := (o, n, outsD st.outs, 0)) (b := (0, 0, [], code)) rfl g1]
      exact alike_2 g1 (Lib.hid fun w1 hw => (h6 w1 hw).mono fun e w' h => lookOk_p h) (Lib.hid g3)
    · rw [h3, g3, alikeM_3 rfl rfl]
      obtain rfl : m = m' := by omega
      have key : likeB o n (outsD st.outs) o' n (outsD st'.outs) = (decide (no = no') && (flatR st.outs == flatR st'.outs)) := by
        unfold likeB sameB
        by_cases hno : no = no'
        · subst hno
          have : (outsD st.outs == outsD st'.outs) = (flatR st.outs == flatR st'.outs) := by
            rw [Bool.eq_iff_iff, beq_iff_eq, beq_iff_eq]
            exact (flat_iff h2 st.outs st'.outs (by rw [h5, g5]) h4 g4).symm
          rw [this, e1, f1]
          simp
        · have : ¬ (o = o') := by omega
          simp [hno, this]
      show Calls _ _ _ _ fun e w' => e = .returned (.tuple #[.bool (likeB o n (outsD st.outs) o' n (outsD st'.outs)), .int .i64 0]) ∧ _
      rw [key]
      exact alike_yes (m := m) h1 (Lib.hid h6) (Lib.hid g6)
end Go.Proofs.Ythbjcafldbocpaa

/- The walk of the law VerifyMakes. -/
namespace Go.Proofs.Ythbjcafldbocpaa
open Go.RowKit Go.Proofs.YthbjcafldbocpaaW.PrintWords Go.Proofs.Ythbjcafldbocpaa.P0
set_option linter.unusedVariables false
set_option linter.unusedSimpArgs false
theorem ralike_calls {w : World} {A A' : Option Addr} {c c' : Nat} {l l' : List S59} {r o q r' o' q' n : Int} (hC : Kd.C k59 w A l.length l) (hc : l.length ≤ c) (hb : ∀ s ∈ l, byteB s.f3 = true) (hq : 0 ≤ q) (hq2 : q < 2 ^ 64)
    (hC' : Kd.C k59 w A' l'.length l') (hc' : l'.length ≤ c') (hb' : ∀ s ∈ l', byteB s.f3 = true) (hq' : 0 ≤ q') (hq2' : q' < 2 ^ 64) :
    Calls Try.prog 25 #[progV A l.length c r o q, progV A' l'.length c' r' o' q', .int .i64 n] w fun e w' => e = .returned (.tuple #[.bool (alikeM (makesV l r o q n) (makesV l' r' o' q' n)).1, .int .i64 (alikeM (makesV l r o q n) (makesV l' r' o' q' n)).2]) ∧ Below w.heap.size w w' :=
  ralike_core (makesV l r o q n) (makesV l' r' o' q' n) (Lib.hid fun w1 h1 => rmakes_calls (Kd.C_below hC h1) hc hb hq hq2) (Lib.hid fun w1 h1 => rmakes_calls (Kd.C_below hC' h1) hc' hb' hq' hq2')
set_option maxRecDepth 100000 in
set_option maxHeartbeats 1600000 in
theorem verifyMakes_core {w : World} {A A' : Option Addr} {c c' nl nl' : Nat} {r o q r' o' q' n : Int} (a : Int × Int × List UInt8 × Int) (b : Bool × Int)
    (H1 : Hid (∀ w1, Below w.heap.size w w1 → Calls Try.prog 13 #[.agg #[.slice A nl c, .int .i64 r, .int .i64 o, .int .u64 q], .int .i64 n] w1 fun e w' => MatE w' w1.heap.size a.1 a.2.1 a.2.2.1 a.2.2.2 e ∧ Below w1.heap.size w1 w'))
    (H2 : Hid (∀ w1, Below w.heap.size w w1 → Calls Try.prog 23 #[.agg #[.slice A nl c, .int .i64 r, .int .i64 o, .int .u64 q], .int .i64 n] w1 fun e w' => MatE w' w1.heap.size a.1 a.2.1 a.2.2.1 a.2.2.2 e ∧ Below w1.heap.size w1 w'))
    (H3 : Hid (∀ w1, Below w.heap.size w w1 → Calls Try.prog 24 #[.agg #[.slice A nl c, .int .i64 r, .int .i64 o, .int .u64 q], .agg #[.slice A' nl' c', .int .i64 r', .int .i64 o', .int .u64 q'], .int .i64 n] w1 fun e w' => e = .returned (.tuple #[.bool b.1, .int .i64 b.2]) ∧ Below w1.heap.size w1 w'))
    (H4 : Hid (∀ w1, Below w.heap.size w w1 → Calls Try.prog 25 #[.agg #[.slice A nl c, .int .i64 r, .int .i64 o, .int .u64 q], .agg #[.slice A' nl' c', .int .i64 r', .int .i64 o', .int .u64 q'], .int .i64 n] w1 fun e w' => e = .returned (.tuple #[.bool b.1, .int .i64 b.2]) ∧ Below w1.heap.size w1 w')) :
    Calls Try.prog 7 #[progV A nl c r o q, progV A' nl' c' r' o' q', .int .i64 n] w fun e w' => e = .returned (.bool true) ∧ Below w.heap.size w w' := by
  obtain ⟨ar, ac, ad, ae⟩ := a
  obtain ⟨b1, b2⟩ := b
  unfold progV
  have S := ((Cx.start w).box 26 [.slice A nl c, .int .i64 r, .int .i64 o, .int .u64 q]).box 26 [.slice A' nl' c', .int .i64 r', .int .i64 o', .int .u64 q']
  simp only [World.size_alloc] at S
  go_enter Try.func7, Try.ntmps7
  go_wp2_with fail
  refine (H1.out _ S.below).mono ?_
  rintro e w1 ⟨⟨va, ba, hba, rfl, oa⟩, hb1⟩
  obtain ⟨Aa, ca, rfl, hxa⟩ := oa.slice
  replace S := ((S.go hb1).add hxa.rd).box 37 [.int .i64 ar, .int .i64 ac, .slice Aa ad.length ca]
  clear hb1 oa hxa
  obtain ⟨c0, c1, c2, c3⟩ := S.cells4 2 rfl
  go_wp2_with fail
  refine (H2.out _ S.below).mono ?_
  rintro e w2 ⟨⟨vb, bb, hbb, rfl, ob⟩, hb2⟩
  obtain ⟨Ab, cb, rfl, hxb⟩ := ob.slice
  replace S := ((S.go hb2).add hxb.rd).box 37 [.int .i64 ar, .int .i64 ac, .slice Ab ad.length cb]
  clear hb2 ob hxb c0 c1 c2 c3
  obtain ⟨c0, c1, c2, c3⟩ := S.cells4 3 rfl
  obtain ⟨d0, d1, d2, d3⟩ := S.cells4 2 rfl
  go_wp2_with fail
  refine (H3.out _ S.below).mono ?_
  rintro e w3 ⟨rfl, hb3⟩
  replace S := S.go hb3
  clear hb3 c0 c1 c2 c3 d0 d1 d2 d3
  obtain ⟨c0, c1, c2, c3⟩ := S.cells4 3 rfl
  obtain ⟨d0, d1, d2, d3⟩ := S.cells4 2 rfl
  go_wp2_with fail
  refine (H4.out _ S.below).mono ?_
  rintro e w4 ⟨rfl, hb4⟩
  replace S := S.go hb4
  clear hb4 c0 c1 c2 c3 d0 d1 d2 d3
  obtain ⟨c0, c1, c2⟩ := S.cells3 1 rfl
  obtain ⟨d0, d1, d2⟩ := S.cells3 0 rfl
  have t1 : (ae == ae) = true := by simp
  have t2 : (b1 == b1) = true := by simp
  have t3 : (b2 == b2) = true := by simp
  go_wp2_with fail
  refine (like_self _ _ _ _ _ _ _ _ _ _ (S.rd 1 rfl) (S.rd 0 rfl)).mono ?_
  rintro e w5 ⟨rfl, hb5⟩
  replace S := S.go hb5
  clear hb5
  go_wp2_with fail
  go_ret
  exact ⟨rfl, S.below⟩
theorem verifyMakes_calls (A : Option Addr) (c : Nat) (l : List S59) (r o q : Int) (A' : Option Addr) (c' : Nat) (l' : List S59) (r' o' q' n : Int) (w : World) (hC : Kd.C k59 w A l.length l) (hc : l.length ≤ c) (hb : ∀ s ∈ l, byteB s.f3 = true) (hq : 0 ≤ q) (hq2 : q < 2 ^ 64) (hC' : Kd.C k59 w A' l'.length l') (hc' : l'.length ≤ c') (hb' : ∀ s ∈ l', byteB s.f3 = true) (hq' : 0 ≤ q') (hq2' : q' < 2 ^ 64) (h1 : -9223372036854775808 ≤ n) (h2 : n ≤ 9223372036854775807) :
    Calls Try.prog 7 #[progV A l.length c r o q, progV A' l'.length c' r' o' q', .int .i64 n] w fun e w' => e = .returned (.bool true) ∧ Below w.heap.size w w' :=
  verifyMakes_core (makesV l r o q n) (alikeM (makesV l r o q n) (makesV l' r' o' q' n)) (Lib.hid fun w1 h1 => makes_calls (Kd.C_below hC h1) hc hb hq hq2) (Lib.hid fun w1 h1 => rmakes_calls (Kd.C_below hC h1) hc hb hq hq2)
    (Lib.hid fun w1 h1 => alike_calls (Kd.C_below hC h1) hc hb hq hq2 (Kd.C_below hC' h1) hc' hb' hq' hq2') (Lib.hid fun w1 h1 => ralike_calls (Kd.C_below hC h1) hc hb hq hq2 (Kd.C_below hC' h1) hc' hb' hq' hq2')
end Go.Proofs.Ythbjcafldbocpaa

/- Words for the rows: how a program that came in reads. -/
namespace Go.Proofs.Ythbjcafldbocpaa
open Go.ChangeShapes Go.WideShapes Go.ChangeAt Go.RowKit Go.Joins Go.Proofs.YthbjcafldbocpaaW.PrintWords Go.Proofs.Ythbjcafldbocpaa.P0
set_option linter.unusedVariables false
set_option linter.unusedSimpArgs false
theorem cells_step : Try.prog.cellsOf 59 = 4 := by kernel_rfl
theorem cells_k57 : Try.prog.cellsOf 57 = 1 := by kernel_rfl
theorem cells_int : Try.prog.cellsOf 3 = 1 := by kernel_rfl
theorem cells_u8 : Try.prog.cellsOf 5 = 1 := by kernel_rfl
theorem cells_prog : Try.prog.cellsOf 26 = 4 := by kernel_rfl
theorem byteB_wf {a : Int} (h : (Lit.int .u8 a).wf = true) : byteB a = true := by
  obtain ⟨x, rfl⟩ := u8_of h
  exact byteB_nat x
set_option maxRecDepth 100000 in
theorem step_cells {H : Type} {enc : TypeId × Value → H} {W : World} {n : Nat} {cs : List Value} {x : DataW H × List MemPlace} (h : DataW.trod enc Try.prog W 0 (fun _ => true) true n 59 cs = some x) : ∃ s : S59, cs = cs59 s ∧ byteB s.f3 = true := by
  obtain ⟨y0, y1, y2, y3, m, _, hl, h0, h1, h2, h3⟩ := Go.Joins.trod_struct4 Try.underlying59 h
  rw [cells_step] at hl
  match cs, hl with
  | [c0, c1, c2, c3], _ =>
    have e0 : [c0] = [c0] := rfl
    obtain ⟨a0, q0, _, _⟩ := DataW.trod_int Try.underlying57 h0
    obtain ⟨a1, q1, _, _⟩ := DataW.trod_int Try.underlying3 h1
    obtain ⟨a2, q2, _, _⟩ := DataW.trod_int Try.underlying3 h2
    obtain ⟨a3, q3, _, w3⟩ := DataW.trod_int Try.underlying5 h3
    simp [cells_k57, cells_int, cells_u8] at q0 q1 q2 q3
    subst q0 q1 q2 q3
    exact ⟨⟨a0, a1, a2, a3⟩, rfl, byteB_wf w3⟩
instance : Inhabited S59 := ⟨z59⟩
theorem steps_field {H : Type} {enc : TypeId × Value → H} {W : World} {fuel : Nat} {v : Value} {y : DataW H × List MemPlace}
    (hf : DataW.trod enc Try.prog W 0 (fun _ => true) true fuel 22 [v] = some y) :
    ∃ (a : Option Addr) (cap : Nat) (l : List S59), v = .slice a l.length cap ∧ Kd.C k59 W a l.length l ∧ l.length ≤ cap ∧ ∀ s ∈ l, byteB s.f3 = true := by
  rcases Go.Deep.open_slice Try.underlying22 hf with ⟨hcs, _⟩ | ⟨a, len, cap, m, n, D, Pl, hcs, _, hl, hm, hmm, _, hx⟩
  · simp at hcs
    exact ⟨none, 0, [], hcs, ⟨rfl, by simp, fun h => absurd h (by simp)⟩, Nat.le_refl _, fun s hs => by cases hs⟩
  · simp at hcs
    subst hcs
    have hlm : len ≤ m := by simp at hmm; omega
    obtain ⟨f, hf2⟩ := Go.Deep.choose_lt (α := S59) (n := len) (p := fun i s => (∀ j u, (cs59 s)[j]? = some u → W.cell? (a.add (i * 4 + j)) = some u) ∧ byteB s.f3 = true) (fun i hi => by
      obtain ⟨cs', h1, h2⟩ := hx i (by omega)
      obtain ⟨s, rfl, hb⟩ := step_cells h2
      rw [cells_step] at h1
      obtain ⟨_, _, h3⟩ := World.cells?_some h1
      refine ⟨s, fun j u hu => ?_, hb⟩
      have hj : j < 4 := by
        rcases Nat.lt_or_ge j 4 with h | h
        · exact h
        · rw [List.getElem?_eq_none (by simpa [cs59] using h)] at hu; cases hu
      rw [← Go.Deep.add_add, h3 j hj, hu])
    refine ⟨some a, cap, (List.range len).map f, by simp, ⟨rfl, by simp; have : cap ≤ 9223372036854775807 := hm; omega, fun _ => ⟨a, rfl, fun j p hp => ?_⟩⟩, by simpa using hl, fun s hs => ?_⟩
    · rw [List.getElem?_map] at hp
      obtain ⟨j2, hj2, rfl⟩ := Option.map_eq_some_iff.1 hp
      obtain ⟨hjl, rfl⟩ := List.getElem?_eq_some_iff.1 hj2
      rw [List.length_range] at hjl
      simp only [List.getElem_range]
      exact ⟨cs59 (f j), rfl, k59_mk W (f j), fun i u hu => (hf2 j hjl).1 i u hu⟩
    · obtain ⟨j, hj, rfl⟩ := List.mem_map.1 hs
      exact (hf2 j (List.mem_range.1 hj)).2
set_option maxRecDepth 100000 in
/-- A program that came in. -/
theorem open_program {H : Type} {enc : TypeId × Value → H} {W : World} {r : Reach} {b0 : Nat} {v : Value} {d : DataW H} {p : List MemPlace}
    (hv : Value.okWide Try.prog W r b0 26 v) (h : DataW.Trod enc Try.prog W 0 (fun _ => true) true 26 v d p) :
    ∃ (a : Option Addr) (cap : Nat) (l : List S59) (rr oo qq : Int), v = progV a l.length cap rr oo qq ∧ Kd.C k59 W a l.length l ∧ l.length ≤ cap ∧ (∀ s ∈ l, byteB s.f3 = true) ∧ 0 ≤ qq ∧ qq < 2 ^ 64 := by
  obtain ⟨v0, v1, v2, v3, y0, y1, y2, y3, m, rfl, _, _, t0, t1, t2, t3⟩ := Go.Joins.open_agg4 Try.underlying26 (by kernel_rfl) cells_prog hv h
  obtain ⟨a, cap, l, rfl, hC, hl, hb⟩ := steps_field t0
  obtain ⟨rr, e1, _, _⟩ := DataW.trod_int Try.underlying3 t1
  obtain ⟨oo, e2, _, _⟩ := DataW.trod_int Try.underlying3 t2
  obtain ⟨qq, e3, _, w3⟩ := DataW.trod_int Try.underlying24 t3
  simp at e1 e2 e3
  subst e1 e2 e3
  have hq : 0 ≤ qq ∧ qq < 2 ^ 64 := by
    have := bounds_u64 w3
    omega
  exact ⟨a, cap, l, rr, oo, qq, rfl, hC, hl, hb, hq.1, hq.2⟩
end Go.Proofs.Ythbjcafldbocpaa

/- The law VerifyMakes, proved: for every input the call returns true and each argument reads as before. -/
namespace Go.Proofs.Ythbjcafldbocpaa.verifyMakes
open Go.ChangeShapes Go.WideShapes Go.ChangeAt Go.RowKit

set_option linter.unusedVariables false

set_option maxRecDepth 100000 in
theorem lifted (os : Os) (started : os.Started) (H : Type) (enc : TypeId × Value → H) :
    ReturnsInHanded {} Try.checked os 7 .any (Rows.verifyMakesSpec.pre6 enc Try.prog Try.f7 Rows.verifyMakesRow.domain false) (Rows.verifyMakesSpec.post enc Try.prog Try.f7 false true false false) := by
  refine returnsInHanded_of_change_sized (C := Try.checked) own_knob started (by kernel_rfl) Try.func7
    (ChangeSpec.witness6 (enc := enc) (C := Try.checked) false ⟨#[], #[.agg #[.slice none 0 0, .int .i64 0, .int .i64 0, .int .u64 0], .agg #[.slice none 0 0, .int .i64 0, .int .i64 0, .int .u64 0], .int .i64 0], []⟩ 8 (by kernel_rfl) (by kernel_rfl) (by kernel_rfl) (by kernel_rfl)) ?_
  intro W base args ds gs before hval0 hW hcnd hsz0 _
  have hsz : (DataW.weightsEach Try.prog (Try.f7.params.toList ++ Rows.verifyMakesSpec.plain.varTypes Try.prog) (ds ++ gs)).all (· ≤ reachBytes) = true := hsz0
  have hval : ∀ (j : Nat) t v, Try.f7.params[j]? = some t → args[j]? = some v → Value.okWide Try.prog W .any base t v := hval0
  have hW' := hW
  obtain ⟨p, q, hA0, hV, rfl, hfz, hnd⟩ := hW
  have hA : DataW.TrodAll enc Try.prog W 0 (fun _ => true) true Try.f7.params.toList args.toList ds p := hA0
  rw [Try.params7] at hA hval hsz
  obtain ⟨v0, vs0, d0, ds0, p0, q0, hargs, rfl, rfl, h0, r0⟩ := trodAll_cons hA
  obtain ⟨v1, vs1, d1, ds1, p1, q1, rfl, rfl, rfl, h1, r1⟩ := trodAll_cons r0
  obtain ⟨v2, vs2, d2, ds2, p2, q2, rfl, rfl, rfl, h2, r2⟩ := trodAll_cons r1
  obtain ⟨rfl, rfl, rfl⟩ := trodAll_nil r2
  obtain rfl : args = #[v0, v1, v2] := by cases args; simp_all
  obtain ⟨rfl, rfl⟩ := trodVars_none hV
  have k0 := h0
  have lt0 : ∀ x ∈ p0, x.block < W.heap.size := by obtain ⟨m, hm⟩ := k0; exact DataW.trod_lt m _ _ _ hm
  have k1 := h1
  have lt1 : ∀ x ∈ p1, x.block < W.heap.size := by obtain ⟨m, hm⟩ := k1; exact DataW.trod_lt m _ _ _ hm
  have k2 := h2
  have lt2 : ∀ x ∈ p2, x.block < W.heap.size := by obtain ⟨m, hm⟩ := k2; exact DataW.trod_lt m _ _ _ hm
  obtain ⟨a0, c0, x0, rr0, oo0, qq0, rfl, rd0, lc0, by0, q00, q10⟩ := open_program (hval 0 26 v0 rfl rfl) h0
  obtain ⟨a1, c1, x1, rr1, oo1, qq1, rfl, rd1, lc1, by1, q01, q11⟩ := open_program (hval 1 26 v1 rfl rfl) h1
  obtain ⟨a2, rfl, rfl, rfl, w2⟩ := open_int Try.underlying3 (hval 2 3 v2 rfl rfl) h2
  clear hA0 hval0 hsz0
  refine (verifyMakes_calls a0 c0 x0 rr0 oo0 qq0 a1 c1 x1 rr1 oo1 qq1 a2 W rd0 lc0 by0 q00 q10 rd1 lc1 by1 q01 q11 (bounds_i64 w2).1 (bounds_i64 w2).2).mono fun e W' ⟨he, bel⟩ => ?_
  subst he
  exact ⟨_, rfl, _, _, _, [], _, [], hW', trodAll_mk1 (shut_bool Try.underlying4 _), (trodAll_cons_mk (Below.trod laid_out (by kernel_rfl) (of_decide_eq_true (by kernel_rfl)) k0 bel lt0) (trodAll_cons_mk (Below.trod laid_out (by kernel_rfl) (of_decide_eq_true (by kernel_rfl)) k1 bel lt1) (trodAll_cons_mk (shut_int Try.underlying3 w2) trodAll_mk0))), rfl, bel.frame _, fun h => by cases h⟩

theorem over : Rows.verifyMakesRow.holds Try.pinned (OpenSpec.ofChange Rows.verifyMakesSpec) :=
  OpenClaim.holds_of_wide 7 Try.f7 rfl rfl rfl rfl rfl rfl rfl ⟨rfl, rfl, rfl, rfl, rfl⟩ rfl rfl rfl rfl rfl (by kernel_rfl) Try.func7 (by kernel_rfl)
    (of_decide_eq_true (by kernel_rfl)) (by unfold Func.isWrapper; first | (rw [if_pos (by decide +kernel)]; kernel_rfl) | (rw [if_neg (by decide +kernel)]; exact ⟨rfl, rfl⟩))
    (fun os started H enc _ => lifted os started H enc)

theorem proved : Rows.VerifyMakesSaid := over
#print axioms proved
end Go.Proofs.Ythbjcafldbocpaa.verifyMakes
