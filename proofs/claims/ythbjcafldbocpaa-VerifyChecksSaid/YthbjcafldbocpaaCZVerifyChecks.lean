/- The law VerifyChecks, proved: for every input the call returns true and each argument reads as before. -/
import Derived.Test.YthbjcafldbocpaaMem
import Derived.Laws.IdiomStrings
import Derived.Laws.BytesArg
import Derived.Test.YthbjcafldbocpaaMatW
import Derived.ProofKit
import Derived.OpenShut
import Derived.ChangeOld
import Derived.SizedLaws
import Derived.Test.YthbjcafldbocpaaVcheck
import Derived.Test.YthbjcafldbocpaaVdo3
import Derived.Test.YthbjcafldbocpaaVlk0
import Derived.Test.YthbjcafldbocpaaVrun
import Derived.Lib.SmallJoins
import Derived.Deep.Slices
import Derived.Test.YthbjcafldbocpaaRows
import Derived.WalkKit
import Derived.Below
/- The walk of the document's Same. -/
namespace Go.Proofs.Ythbjcafldbocpaa
open Go.RowKit
set_option linter.unusedVariables false
set_option linter.unusedSimpArgs false

/-- are two lists of bytes the same -/
def sameB (xs ys : List UInt8) : Bool := xs == ys
theorem sameB_self (xs : List UInt8) : sameB xs xs = true := by simp [sameB]
theorem to_string {w : World} {B : Nat} {A : Option Addr} {n cap : Nat} {xs : List UInt8} (h : Rd w B A n (bVs xs)) :
    (convert 35 9 (.slice A n cap)).run Try.prog w = .ok (.string ⟨xs.toArray⟩) w := by
  rcases Nat.eq_zero_or_pos n with h0 | hp
  · subst h0
    have hx : xs = [] := List.eq_nil_of_length_eq_zero (by have := h.len; rw [bVs_length] at this; exact this)
    subst hx
    cases A with
    | none => 
      have h1 := run_convert_bytes_string (P := Try.prog) w 35 9 5 none 0 cap Try.underlying35 Try.underlying5 Try.underlying9
      rw [h1]
      simp [Conv.bytesToString]
      rfl
    | some a => exact run_convert_bytes_back (P := Try.prog) w 35 9 5 a cap [] Try.underlying35 Try.underlying5 Try.underlying9 (fun j hj => absurd hj (by simp))
  · obtain ⟨g, o, rfl, hg, hc⟩ := h.2 hp
    have hl := h.len
    rw [bVs_length] at hl
    subst hl
    refine run_convert_bytes_back (P := Try.prog) w 35 9 5 ⟨g, o, none⟩ cap xs Try.underlying35 Try.underlying5 Try.underlying9 (fun j hj => ?_)
    have h1 := hc j _ (bVs_get xs j hj)
    unfold Addr.add
    split
    · next h0 => subst h0; simpa using h1
    · exact h1

set_option maxHeartbeats 400000 in
theorem same_calls (A : Option Addr) (n ac : Nat) (B : Option Addr) (m bc : Nat) (xs ys : List UInt8) (w : World) (ha : Rd w w.heap.size A n (bVs xs)) (hb : Rd w w.heap.size B m (bVs ys)) :
    Calls Try.prog 35 #[.slice A n ac, .slice B m bc] w fun e w' => e = .returned (.bool (sameB xs ys)) ∧ w = w' := by
  have h1 := to_string (cap := ac) ha
  have h2 := to_string (cap := bc) hb
  go_enter Try.func35, Try.ntmps35
  go_wp2_with fail
  go_ret
  exact ⟨rfl, rfl⟩
end Go.Proofs.Ythbjcafldbocpaa

/- The walk of the document's Like: two matrices that are the same. -/
namespace Go.Proofs.Ythbjcafldbocpaa
open Go.RowKit
set_option linter.unusedVariables false
set_option linter.unusedSimpArgs false

theorem same_self (A : Option Addr) (n ac : Nat) (B : Option Addr) (m bc : Nat) (xs : List UInt8) (w : World) (ha : Rd w w.heap.size A n (bVs xs)) (hb : Rd w w.heap.size B m (bVs xs)) :
    Calls Try.prog 35 #[.slice A n ac, .slice B m bc] w fun e w' => e = .returned (.bool true) ∧ w = w' := by
  have h := same_calls A n ac B m bc xs xs w ha hb
  rw [sameB_self] at h
  exact h
set_option maxHeartbeats 800000 in
theorem like_self (r c : Int) (A : Option Addr) (n ac : Nat) (B : Option Addr) (m bc : Nat) (xs : List UInt8) (w : World) (ha : Rd w w.heap.size A n (bVs xs)) (hb : Rd w w.heap.size B m (bVs xs)) :
    Calls Try.prog 20 #[mV r c A n ac, mV r c B m bc] w fun e w' => e = .returned (.bool true) ∧ Below w.heap.size w w' := by
  have hB : Below w.heap.size w ((w.alloc (Obj.cells #[.int .i64 r, .int .i64 c, .slice A n ac] 37)).alloc (Obj.cells #[.int .i64 r, .int .i64 c, .slice B m bc] 37)) := ((Below.refl _ _).alloc (Nat.le_refl _) _).alloc (by simp) _
  have ra := ha.go hB
  have rb := hb.go hB
  have HB := Lib.hid hB
  clear hB ha hb
  go_enter Try.func20, Try.ntmps20
  go_wp2_with (go_at_call 35; refine (same_self _ _ _ _ _ _ _ _ ra rb).mono ?_; rintro e w' ⟨rfl, rfl⟩)
  go_ret
  exact ⟨rfl, HB.out⟩
end Go.Proofs.Ythbjcafldbocpaa

/- Words for the rows: how arguments read. -/
namespace Go.Proofs.Ythbjcafldbocpaa
open Go.ChangeShapes Go.WideShapes Go.ChangeAt Go.RowKit

theorem own_knob : ownKnob Try.prog.godebug = none := by kernel_rfl
theorem laid_out : laidOutB Try.prog = true := by kernel_rfl
theorem u8_of {n : Int} (h : (Lit.int .u8 n).wf = true) : ∃ u : UInt8, n = (u.toNat : Int) := by
  have hb := bounds_u8 h
  refine ⟨UInt8.ofNat n.toNat, ?_⟩
  rw [UInt8.toNat_ofNat']
  omega
theorem u8s_of : ∀ {zs : List Int}, (∀ n ∈ zs, (Lit.int .u8 n).wf = true) → ∃ xs : List UInt8, zs = xs.map fun x => (x.toNat : Int)
  | [], _ => ⟨[], rfl⟩
  | z :: zs, h => by
    obtain ⟨u, hu⟩ := u8_of (h z (by simp))
    obtain ⟨xs, hx⟩ := u8s_of (zs := zs) (fun n hn => h n (by simp [hn]))
    exact ⟨u :: xs, by simp [hu, hx]⟩
/-- A list of bytes that came in: it reads; its size is within the reach. -/
theorem open_bytes {H : Type} {enc : TypeId × Value → H} {W : World} {d : DataW H} {p : List MemPlace} {a : Option Addr} {len cap : Nat}
    (h : DataW.Trod enc Try.prog W 0 (fun _ => true) true 35 (.slice a len cap) d p) :
    ∃ (xs : List UInt8), Rd W W.heap.size a len (bVs xs) ∧ len ≤ cap ∧ cap ≤ maxLen ∧ ((d = .nil ∧ cap = 0) ∨ ∃ es rs : List (DataW H), d = .slice es rs ∧ es.length + rs.length = cap) := by
  obtain ⟨fuel, hf⟩ := h
  have hlt := DataW.trod_lt fuel _ _ _ hf
  rcases open_ints Try.underlying35 Try.underlying5 (by kernel_rfl) hf with ⟨hcs, hx⟩ | ⟨x, l, c, zs, hcs, _, hl, hm, hz, hx, hcell, hwz⟩
  · simp [Value.cells] at hcs
    obtain ⟨rfl, rfl, rfl⟩ := hcs
    exact ⟨[], Rd.nil, Nat.le_refl _, Nat.zero_le _, .inl ⟨by simpa using congrArg Prod.fst hx, rfl⟩⟩
  · simp [Value.cells] at hcs
    obtain ⟨rfl, rfl, rfl⟩ := hcs
    simp only [if_true] at hz
    obtain ⟨xs, rfl⟩ := u8s_of hwz
    rw [List.length_map] at hz
    refine ⟨xs.take len, ⟨by simp [bVs]; omega, fun hn => ?_⟩, hl, hm, .inr ⟨_, _, by simpa using congrArg Prod.fst hx, by simp [lits]; omega⟩⟩
    obtain ⟨g, o, rfl, hc⟩ := ints_at hcell (by rw [List.length_map]; omega)
    refine ⟨g, o, rfl, ?_, fun j u hu => ?_⟩
    · have hp : p = MemPlace.row ⟨g, o, none⟩ ((xs.map fun x => (x.toNat : Int)).length) := by simpa using congrArg Prod.snd hx
      have := hlt (.cell g o) (by rw [hp]; simp [MemPlace.row]; omega)
      exact this
    · have hj : j < (bVs (xs.take len)).length := by
        rcases Nat.lt_or_ge j (bVs (xs.take len)).length with hlt | hge
        · exact hlt
        · rw [List.getElem?_eq_none hge] at hu; cases hu
      rw [bVs_length, List.length_take] at hj
      rw [hc j (by rw [List.length_map]; omega)]
      rw [← hu]
      have hx : (xs.map fun x => (x.toNat : Int)).getD j 0 = ((xs[j]'(by omega)).toNat : Int) := by simp [List.getD]; rw [List.getElem?_eq_getElem (by omega)]; rfl
      rw [hx, bVs_get _ _ (by rw [List.length_take]; omega), List.getElem_take]
theorem bytes_of_u8 : Try.prog.bytesOf 5 = 1 := by kernel_rfl
end Go.Proofs.Ythbjcafldbocpaa

/- The law's own program: clear 0; load 1 0; mac 0 1 5; out 0 0. -/
namespace Go.Proofs.Ythbjcafldbocpaa
open Go.RowKit Go.Proofs.YthbjcafldbocpaaW.PrintWords Go.Proofs.Ythbjcafldbocpaa.P0
set_option linter.unusedVariables false
set_option linter.unusedSimpArgs false
def fiveL : List S59 := [⟨1, 0, 0, 0⟩, ⟨2, 1, 0, 0⟩, ⟨3, 0, 1, 5⟩, ⟨4, 0, 0, 0⟩]
theorem five_check : checkV fiveL 2 1 1 2 = (4, 0) := by decide +kernel
theorem five_may : mayB fiveL 2 1 = true := by decide +kernel
theorem five_run : vAll 2 1 1 2 (fiveL.map psOf) = (4, some ⟨[some [5, 0], some [1, 0]], [some [5, 0]], 1⟩) := by
  rfl
theorem five_bytes : ∀ s ∈ fiveL, byteB s.f3 = true := by decide +kernel
def cs59 (s : S59) : List Value := [.int .u8 s.f0, .int .i64 s.f1, .int .i64 s.f2, .int .u8 s.f3]
theorem fm_get : ∀ (l : List S59) (j i : Nat) (s : S59), l[j]? = some s → i < 4 → (l.flatMap cs59)[j * 4 + i]? = (cs59 s)[i]?
  | [], j, i, s, h, _ => by simp at h
  | x :: l, 0, i, s, h, hi => by
    simp at h
    subst h
    rw [List.flatMap_cons, Nat.zero_mul, Nat.zero_add, List.getElem?_append_left (by simpa [cs59] using hi)]
  | x :: l, j + 1, i, s, h, hi => by
    rw [List.flatMap_cons, List.getElem?_append_right (by simp [cs59]; omega), show (j + 1) * 4 + i - (cs59 x).length = j * 4 + i by simp [cs59]; omega]
    exact fm_get l j i s (by simpa using h) hi
theorem C_of_row {W : World} {g : Nat} {t : TypeId} {l : List S59} (h : Row W g t (l.flatMap cs59)) (hl : l.length ≤ 9223372036854775807) : Kd.C k59 W (some ⟨g, 0, none⟩) l.length l := by
  refine ⟨rfl, hl, fun _ => ⟨⟨g, 0, none⟩, rfl, fun j s hs => ⟨cs59 s, rfl, k59_mk W s, fun i u hu => ?_⟩⟩⟩
  have hi : i < 4 := by
    rcases Nat.lt_or_ge i 4 with h | h
    · exact h
    · rw [List.getElem?_eq_none (by simpa [cs59] using h)] at hu; cases hu
  rw [addr_add, Nat.zero_add, show k59.sz = 4 from rfl, h.cell, fm_get l j i s hs hi]
  exact hu
theorem five_calls (w : World) : Calls Try.prog 32 #[] w fun e w' => ∃ A c, e = .returned (progV A fiveL.length c 2 1 1) ∧ Kd.C k59 w' A fiveL.length fiveL ∧ fiveL.length ≤ c ∧ Below w.heap.size w w' := by
  have h0 := Row.new w [.slice (some ⟨w.heap.size + 1, 0, none⟩) 4 4, .int .i64 2, .int .i64 1, .int .u64 1] 26
  have h1 := h0.alloc (.cells (fiveL.flatMap cs59).toArray 59)
  have d0 := h1.cell 0
  have d1 := h1.cell 1
  have d2 := h1.cell 2
  have d3 := h1.cell 3
  have h2 := Row.new (w.alloc (.cells [.slice (some ⟨w.heap.size + 1, 0, none⟩) 4 4, .int .i64 2, .int .i64 1, .int .u64 1].toArray 26)) (fiveL.flatMap cs59) 59
  rw [show (w.alloc (.cells [Value.slice (some ⟨w.heap.size + 1, 0, none⟩) 4 4, .int .i64 2, .int .i64 1, .int .u64 1].toArray 26)).heap.size = w.heap.size + 1 by simp] at h2
  have HC := Lib.hid (C_of_row h2 (by decide))
  have HB := Lib.hid (show Below w.heap.size w ((w.alloc (.cells [.slice (some ⟨w.heap.size + 1, 0, none⟩) 4 4, .int .i64 2, .int .i64 1, .int .u64 1].toArray 26)).alloc (.cells (fiveL.flatMap cs59).toArray 59)) from ((Below.refl _ _).alloc (Nat.le_refl _) _).alloc (by simp) _)
  obtain ⟨W2, hW2⟩ : ∃ W2, W2 = (w.alloc (.cells [.slice (some ⟨w.heap.size + 1, 0, none⟩) 4 4, .int .i64 2, .int .i64 1, .int .u64 1].toArray 26)).alloc (.cells (fiveL.flatMap cs59).toArray 59) := ⟨_, rfl⟩
  rw [← hW2] at d0 d1 d2 d3 HC HB
  have HW2 := Lib.hid hW2
  clear hW2 h0 h1 h2
  go_enter Try.func32, Try.ntmps32
  go_wp2_with fail
  have e2 : (w.alloc (.cells #[.slice (some ⟨w.heap.size + 1, 0, none⟩) 4 4, .int .i64 2, .int .i64 1, .int .u64 1] 26)).alloc (.cells #[.int .u8 1, .int .i64 0, .int .i64 0, .int .u8 0, .int .u8 2, .int .i64 1, .int .i64 0, .int .u8 0, .int .u8 3, .int .i64 0, .int .i64 1, .int .u8 5, .int .u8 4, .int .i64 0, .int .i64 0, .int .u8 0] 59) = W2 := HW2.out.symm
  rw [e2]
  simp only [List.getElem?_cons_zero, List.getElem?_cons_succ] at d0 d1 d2 d3
  refine bodyPost_ret (v := progV (some ⟨w.heap.size + 1, 0, none⟩) 4 4 2 1 1) (by simp [progV, results, Try.results32, go_sem, d0, d1, d2, d3]) rfl ?_
  exact ⟨_, 4, rfl, HC.out, by decide, HB.out⟩
end Go.Proofs.Ythbjcafldbocpaa

/- The walk of verify.Makes. -/
namespace Go.Proofs.Ythbjcafldbocpaa
open Go.RowKit Go.Proofs.YthbjcafldbocpaaW.PrintWords Go.Proofs.Ythbjcafldbocpaa.P0
set_option linter.unusedVariables false
set_option linter.unusedSimpArgs false
/-- the rows that came out, one behind the other -/
def outsD (rs : List (Option (List UInt8))) : List UInt8 := (rs.map (·.getD [])).flatten
/-- what a matrix of the call's own looks like -/
def MatE (w' : World) (base : Nat) (o n : Int) (l : List UInt8) (code : Int) (e : Ending) : Prop := ∃ v b, base ≤ b ∧ e = .returned (.tuple #[.agg #[.int .i64 o, .int .i64 n, v], .int .i64 code]) ∧ OwnV w' b v l
theorem vAll_some {nr no reads n i : Nat} {l : List PS} {st : VS} (h : vAll nr no reads n l = (i, some st)) : (∀ o ∈ st.outs, o.isSome = true) ∧ st.loads = reads := by
  unfold vAll at h
  split at h
  · split at h
    · rename_i hc
      injection h with _ h
      injection h with h
      rw [← h]
      exact hc
    · injection h with _ h; cases h
  · injection h with _ h; cases h
theorem out_row {rs : List (Option (List UInt8))} (h : ∀ o ∈ rs, o.isSome = true) {j : Nat} (hj : j < rs.length) : ∃ x, rs.getD j none = some x ∧ outsD (rs.take (j + 1)) = outsD (rs.take j) ++ x := by
  have h1 := h _ (List.getElem_mem hj)
  obtain ⟨x, hx⟩ := Option.isSome_iff_exists.1 h1
  refine ⟨x, by rw [List.getD_eq_getElem?_getD, List.getElem?_eq_getElem hj]; exact hx, ?_⟩
  unfold outsD
  rw [List.take_succ_eq_append_getElem hj, hx]
  simp
theorem pad_take {x : List UInt8} {n : Nat} (h : x.length = n) : (pad (some x)).take n = x := by
  show (x ++ List.replicate (64 - x.length) 0).take n = x
  rw [List.take_append_of_le_length (by omega), List.take_of_length_le (by omega)]
theorem layAt_all (zs vs : List Value) (h : zs.length = vs.length) : layAt zs 0 vs = vs := by
  unfold layAt
  rw [List.take_zero, List.nil_append, Nat.zero_add, List.drop_eq_nil_of_le (by omega), List.append_nil]
theorem rd_pre {w : World} {g n : Nat} {t : TypeId} {ys : List UInt8} (h : Row w g t (bVs ys)) (hn : n ≤ ys.length) : Rd w w.heap.size (some ⟨g, 0, none⟩) n (bVs (ys.take n)) := by
  refine ⟨by rw [bVs_length, List.length_take]; omega, fun _ => ⟨g, 0, rfl, h.lt, fun j u hu => ?_⟩⟩
  rw [Nat.zero_add, h.cell, ← hu]
  have hj : j < n := by
    rcases Nat.lt_or_ge j n with hlt | hge
    · exact hlt
    · rw [List.getElem?_eq_none (by rw [bVs_length, List.length_take]; omega)] at hu; cases hu
  simp only [bVs, List.getElem?_map, List.getElem?_take, if_pos hj]
theorem own_far2 {w : World} {base g i : Nat} {v : Value} {xs : List UInt8} (h : OwnV w base v xs) (hg : g < base) (u : Value) : OwnV (w.setCell ⟨g, i, none⟩ u) base v xs :=
  h.kept (row := some g) (grown_setCell (p := ⟨g, i, none⟩) (World.grownBy.refl w (some g)) (.inl rfl) u) (.inr (by intro e; have := (World.ownsRow.lt h g e).1; omega))
theorem new_there (w : World) (cs : List Value) (t : TypeId) (n : Nat) (h : n ≤ cs.length) : (w.alloc (.cells cs.toArray t)).there w.heap.size 0 n := by
  intro j hj
  have hr := Row.new w cs t
  refine ⟨?_, hr.frozen _⟩
  rw [hr.cell, List.getElem?_eq_getElem (by omega)]
  rfl
set_option maxHeartbeats 4000000 in
set_option maxRecDepth 100000 in
theorem makes_yes {w : World} {A : Option Addr} {c : Nat} {l : List S59} {r o q n : Int} (hC : Kd.C k59 w A l.length l) (hc : l.length ≤ c) (hb : ∀ s ∈ l, byteB s.f3 = true) (hq : 0 ≤ q) (hq2 : q < 2 ^ 64) (hn : 0 ≤ n) (hn2 : n ≤ 64) (hm : mayB l r o = true) (st : VS) (i : Nat) (hv : vAll r.toNat o.toNat q.toNat n.toNat (l.map psOf) = (i, some st)) :
    Calls Try.prog 13 #[progV A l.length c r o q, .int .i64 n] w fun e w' => MatE w' w.heap.size o n (outsD st.outs) 0 e ∧ Below w.heap.size w w' := by
  obtain ⟨nn, rfl⟩ : ∃ nn : Nat, n = (nn : Int) := ⟨n.toNat, (Int.toNat_of_nonneg hn).symm⟩
  unfold progV
  have ho0 : 0 ≤ o ∧ o ≤ 64 := by
    unfold mayB at hm
    rw [Bool.and_eq_true, decide_eq_true_eq] at hm
    omega
  go_enter Try.func13, Try.ntmps13
  go_wp2_with fail
  obtain ⟨W1, hW1⟩ : ∃ W1, W1 = (w.alloc (.cells #[.slice A l.length c, .int .i64 r, .int .i64 o, .int .u64 q] 26)).alloc (.cells #[.int .i64 0, .int .i64 0, .slice none 0 0] 37) := ⟨_, rfl⟩
  have q1 : Below w.heap.size w W1 := by rw [hW1]; exact ((Below.refl _ _).alloc (Nat.le_refl _) _).alloc (by simp) _
  have hp : Row W1 w.heap.size 26 [.slice A l.length c, .int .i64 r, .int .i64 o, .int .u64 q] := by rw [hW1]; exact (Row.new w _ _).alloc _
  have hm4 : Row W1 (w.heap.size + 1) 37 [.int .i64 0, .int .i64 0, .slice none 0 0] := by
    rw [hW1]
    have := Row.new (w.alloc (.cells #[.slice A l.length c, .int .i64 r, .int .i64 o, .int .u64 q] 26)) [.int .i64 0, .int .i64 0, .slice none 0 0] 37
    simpa using this
  rw [← hW1]
  clear hW1
  refine (look_all (Kd.C_below hC q1) hc hb hq hq2 hn hn2 hm).mono ?_
  rintro e w' ⟨gk, gr, gs, go, gd, G, hbl, hy, hno⟩
  rw [hv] at hy
  obtain ⟨rfl, hK⟩ := hy st rfl
  clear hno hy
  have hp2 := hp.below hbl hp.lt
  have hm2 := hm4.below hbl hm4.lt
  have p2 : w'.cell? ⟨w.heap.size, 2, none⟩ = some (.int .i64 o) := hp2.cell 2
  have q2 : Below w.heap.size w w' := q1.trans (hbl.mono q1.size)
  have k8 : w'.cell? ⟨gk, 8, none⟩ = some (.slice (some ⟨go, 0, none⟩) o.toNat o.toNat) := hK.hk.cell 8
  have HK := Lib.hid hK
  have HM := Lib.hid hm2
  have HQ := Lib.hid q2
  have hG := hK.ho
  have hok := hK.ok
  clear hp hm4 hp2 hbl q1 k8
  obtain ⟨no, hno⟩ : ∃ no, no = o.toNat := ⟨_, rfl⟩
  have eno : (no : Int) = o := by rw [hno]; exact Int.toNat_of_nonneg ho0.1
  have k8 : (w'.alloc (.cells #[.int .i64 o, .int .i64 (nn : Int), .slice none 0 0] 37)).cell? ⟨gk, 8, none⟩ = some (.slice (some ⟨go, 0, none⟩) no no) := by rw [hno]; exact (hK.hk.alloc _).cell 8
  have hm3 := Row.new w' [.int .i64 o, .int .i64 (nn : Int), .slice none 0 0] 37
  have hg3 := hG.alloc (.cells #[.int .i64 o, .int .i64 (nn : Int), .slice none 0 0] 37)
  have hr3 := hm2.alloc (.cells #[.int .i64 o, .int .i64 (nn : Int), .slice none 0 0] 37)
  have lgm := hm2.lt
  have lgo := hG.lt
  have q3 : Below w.heap.size w (w'.alloc (.cells #[.int .i64 o, .int .i64 (nn : Int), .slice none 0 0] 37)) := q2.alloc q2.size _
  have HM3 := Lib.hid hm3
  have HG3 := Lib.hid hg3
  have HR3 := Lib.hid hr3
  have HQ3 := Lib.hid q3
  have lno : st.outs.length = no := by rw [hok.lo, hno]
  have HOK := Lib.hid hok
  have HNO := Lib.hid hno
  clear hK hm2 hG hok hm3 hg3 hr3 q3 q2 hno
  go_wp2_with fail
  go_loopw [30] (fun v30 wr => ∃ (j : Nat) (v : Value), j ≤ no ∧ v30 = .int .i64 (j : Int) ∧ Row wr w'.heap.size 37 [.int .i64 o, .int .i64 (nn : Int), v] ∧ OwnV wr (w'.heap.size + 1) v (outsD (st.outs.take j)) ∧ (outsD (st.outs.take j)).length = j * nn ∧ Row wr go 87 (bVs (flatR st.outs)) ∧ Row wr (w.heap.size + 1) 37 [.int .i64 0, .int .i64 0, .slice none 0 0] ∧ Below w.heap.size w wr ∧ w'.heap.size + 1 ≤ wr.heap.size) (fun v30 _ => no - (intOf v30).toNat)
  case atStart => exact ⟨0, _, by omega, rfl, HM3.out, OwnV.nil _ _, by simp [outsD], HG3.out, HR3.out, HQ3.out, by simp⟩
  case round =>
    obtain ⟨j, v, hj, rfl, hmm, how, hjl, hgg, hrr, hqq, hss⟩ := hrel
    clear HM3 HG3 HR3 HQ3 k8
    have HMM := Lib.hid hmm
    have HOW := Lib.hid how
    have HGG := Lib.hid hgg
    have HRR := Lib.hid hrr
    have HQQ := Lib.hid hqq
    by_cases hlt : j < no
    · have i0 : (0 : Int) ≤ (j : Int) := by omega
      have i1 : (j : Int) < (no : Int) := by omega
      have so := Short.of_ok' HOK.out (n := (nn : Int).toNat) (by omega)
      have lf : (flatR st.outs).length = no * 64 := by rw [flatR_length so, lno]
      obtain ⟨cs, hcs⟩ : ∃ cs, cs = bVs (seg (flatR st.outs) j) := ⟨_, rfl⟩
      have lcs : cs.length = 64 := by rw [hcs, bVs_length, seg_length lf hlt]
      have z1 : ∀ v ∈ cs, v.oneCell' = true := by intro v hv; rw [hcs] at hv; exact bVs_one hv
      have z2 : (Try.prog.info? 87).map (·.size) = some cs.length := by rw [lcs]; kernel_rfl
      have z3 : Try.prog.underlying 87 = some (.array 64 5) := by kernel_rfl
      have z4 : (Try.prog.info? 87).map (·.size) = some cs.toArray.size := by rw [List.size_toArray]; exact z2
      have hra : wr.rangeAt go (j * 64) cs := by rw [hcs]; exact seg_cells hgg lf hlt
      have HCS := Lib.hid hcs
      have LCZ := Lib.hid (show cs.toArray.size = 64 by rw [List.size_toArray]; exact lcs)
      clear hcs hmm how hgg hrr hqq
      go_wp2_with (first | (refine wpList_load_mid rfl 87 (.tmp 32) rfl go (j * 64) rfl cs _ hra z3 rfl z2 ?_) | (refine wpList_store_mid rfl 87 (.tmp 10) (.tmp 33) rfl wr.heap.size 0 cs.toArray rfl rfl (by rw [LCZ.out]; exact new_there wr _ _ 64 (by decide)) z4 (all_oneCell_toArray z1) ?_; simp only [Act.put, List.setIfInBounds_toArray, List.set_cons_zero, List.set_cons_succ, List.toList_toArray]))
      obtain ⟨zs, hzs⟩ : ∃ zs : List Value, zs = [.int .u8 0, .int .u8 0, .int .u8 0, .int .u8 0, .int .u8 0, .int .u8 0, .int .u8 0, .int .u8 0, .int .u8 0, .int .u8 0, .int .u8 0, .int .u8 0, .int .u8 0, .int .u8 0, .int .u8 0, .int .u8 0, .int .u8 0, .int .u8 0, .int .u8 0, .int .u8 0, .int .u8 0, .int .u8 0, .int .u8 0, .int .u8 0, .int .u8 0, .int .u8 0, .int .u8 0, .int .u8 0, .int .u8 0, .int .u8 0, .int .u8 0, .int .u8 0, .int .u8 0, .int .u8 0, .int .u8 0, .int .u8 0, .int .u8 0, .int .u8 0, .int .u8 0, .int .u8 0, .int .u8 0, .int .u8 0, .int .u8 0, .int .u8 0, .int .u8 0, .int .u8 0, .int .u8 0, .int .u8 0, .int .u8 0, .int .u8 0, .int .u8 0, .int .u8 0, .int .u8 0, .int .u8 0, .int .u8 0, .int .u8 0, .int .u8 0, .int .u8 0, .int .u8 0, .int .u8 0, .int .u8 0, .int .u8 0, .int .u8 0, .int .u8 0] := ⟨_, rfl⟩
      have lzs : zs.length = 64 := by rw [hzs]; rfl
      obtain ⟨W4, hW4⟩ : ∃ W4, W4 = (wr.alloc (.cells zs.toArray 87)).setCells wr.heap.size 0 cs := ⟨_, rfl⟩
      have hrc : Row W4 wr.heap.size 87 cs := by
        have h9 := (Row.new wr zs 87).lay 0 cs (by rw [lcs, lzs]; decide)
        rw [layAt_all _ _ (by rw [lcs, lzs]), ← hW4] at h9
        exact h9
      have e4 : ∀ k, k < wr.heap.size → W4.heap[k]? = wr.heap[k]? := by
        intro k hk
        rw [hW4]
        exact (Go.Proofs.YthbjcafldbocpaaW.PrintWords.setCells_far cs 0 k (by omega)).trans (Below.heap_alloc wr _ k hk)
      have o4 : Below wr.heap.size wr W4 := by
        obtain ⟨g1, g2, g3, g4⟩ := Go.Proofs.YthbjcafldbocpaaW.PrintWords.setCells_same wr.heap.size cs 0 (wr.alloc (.cells zs.toArray 87))
        rw [hW4]
        exact ⟨g1, g2, g3, by rw [g4]; simp, fun k hk => by rw [← hW4]; exact e4 k hk⟩
      rw [← hzs, ← hW4]
      have HRC := Lib.hid hrc
      have HE4 := Lib.hid e4
      have HO4 := Lib.hid o4
      have HALL := Lib.hid (vAll_some hv).1
      clear hzs hW4 lzs hrc e4 o4 hra z1 z2 z3 z4
      obtain ⟨x, hx, hxo⟩ := out_row HALL.out (j := j) (by rw [lno]; exact hlt)
      have lx : x.length = nn := by have := HOK.out.wo j x hx; simpa using this
      have hm4 := HMM.out.below HO4.out HMM.out.lt
      have how4 := HOW.out.below HO4.out
      have hrd : Rd W4 W4.heap.size (some ⟨wr.heap.size, 0, none⟩) nn (bVs x) := by
        have h9 := HRC.out
        rw [HCS.out] at h9
        have h8 := rd_pre h9 (n := nn) (by rw [seg_length lf hlt]; omega)
        rw [seg_flat so (by rw [lno]; exact hlt), hx, pad_take lx] at h8
        exact h8
      have m0 : W4.cell? ⟨w'.heap.size, 2, none⟩ = some v := hm4.cell 2
      have hlo : (outsD (st.outs.take j)).length ≤ 4096 := by rw [hjl]; exact Nat.mul_le_mul (show j ≤ 64 by omega) (show nn ≤ 64 by omega)
      have b4 : w'.heap.size + 1 ≤ W4.heap.size := Nat.le_trans hss HO4.out.size
      have HM4 := Lib.hid hm4
      have HOW4 := Lib.hid how4
      have HRD := Lib.hid hrd
      have n0 : (0 : Int) ≤ (nn : Int) := by omega
      clear hm4 how4 hrd
      refine wp_region_held_drew (S := fun _ => True) (by kernel_rfl) trivial (fun hHeld => ?_)
      refine wpAnyH_take (i := 0) (v := ?_) rfl (by kernel_rfl) (by kernel_rfl) (by kernel_rfl) (fun _ _ _ h => h) (Or.inl ⟨by kernel_rfl, ?_⟩) (by assumption) ?_
      rotate_left
      · (intro w hSw; (try dsimp only at hSw); go_simp; (try with_reducible rfl))
      try simp only [List.getElem_toArray, List.getElem_cons_succ, List.getElem_cons_zero, Act.put, List.setIfInBounds_toArray, List.set_cons_zero, List.set_cons_succ]
      refine wpAnyH_take (i := 2) (v := ?_) rfl (by kernel_rfl) (by kernel_rfl) (by kernel_rfl) (fun _ _ _ h => h) (Or.inl ⟨by kernel_rfl, ?_⟩) (by assumption) ?_
      rotate_left
      · (intro w hSw; (try dsimp only at hSw); go_simp; (try with_reducible rfl))
      try simp only [List.getElem_toArray, List.getElem_cons_succ, List.getElem_cons_zero, Act.put, List.setIfInBounds_toArray, List.set_cons_zero, List.set_cons_succ]
      refine wpAnyH_take (i := 3) (v := ?_) rfl (by kernel_rfl) (by kernel_rfl) (by kernel_rfl) (fun _ _ _ h => h) (Or.inl ⟨by kernel_rfl, ?_⟩) (by assumption) ?_
      rotate_left
      · (intro w hSw; (try dsimp only at hSw); go_simp; (try with_reducible rfl))
      try simp only [List.getElem_toArray, List.getElem_cons_succ, List.getElem_cons_zero, Act.put, List.setIfInBounds_toArray, List.set_cons_zero, List.set_cons_succ]
      refine wpAnyH_ready (rs := [1]) (by kernel_rfl) (by simp) ?_
      refine AllReadyH.cons rfl (fun K hK => ?_) AllReadyH.nil
      go_simp
      refine hK.out _ _ trivial (fun hHeld => ?_)
      clear hK K
      try simp only [List.getElem_toArray, List.getElem_cons_succ, List.getElem_cons_zero, Act.put, List.setIfInBounds_toArray, List.set_cons_zero, List.set_cons_succ]
      refine wpAnyH_ready (rs := [4]) (by kernel_rfl) (by simp) ?_
      refine AllReadyH.cons rfl (fun K hK => ?_) AllReadyH.nil
      refine step_append_rd (.tmp 35) (.tmp 37) rfl rfl (w'.heap.size + 1) v _ x rfl (HOW4.out.drewN 1) _ (some ⟨wr.heap.size, 0, none⟩) nn 64 rfl HRD.out (by omega) b4 ?_
      intro v6 w6 ho6 hg6 hat6
      obtain ⟨A6, c6, rfl, _⟩ := ho6.slice
      generalize hm6 : (outsD (st.outs.take j) ++ x).length = m6 at *
      have HM6 := Lib.hid hm6
      clear hm6
      have hb6 : Below (w'.heap.size + 1) W4.drew w6 := grown_below hg6 b4 (fun k hk => (World.ownsRow.lt HOW4.out k hk).1)
      have hb6' : Below (w'.heap.size + 1) W4 w6 := ⟨hb6.os, hb6.tape, hb6.output, hb6.size, hb6.block⟩
      have hm6r := HM4.out.below hb6' (by omega)
      have c62 : w6.cell? ⟨w'.heap.size, 2, none⟩ = some v := hm6r.cell 2
      have f62 : w6.frozen? ⟨w'.heap.size, 2, none⟩ = false := hm6r.frozen 2
      have HF1 := Lib.hid (hm6r.set 2 (.slice A6 m6 c6))
      have HF2 := Lib.hid (own_far2 (g := w'.heap.size) (i := 2) ho6 (by omega) (.slice A6 m6 c6))
      have HF3 := Lib.hid (((HGG.out.below HO4.out HGG.out.lt).below hb6' (by omega)).far (p := ⟨w'.heap.size, 2, none⟩) (by simp; omega) (.slice A6 m6 c6))
      have HF4 := Lib.hid (((HRR.out.below HO4.out HRR.out.lt).below hb6' (by omega)).far (p := ⟨w'.heap.size, 2, none⟩) (by simp; omega) (.slice A6 m6 c6))
      have HF5 := Lib.hid (show Below w.heap.size w (w6.setCell ⟨w'.heap.size, 2, none⟩ (.slice A6 m6 c6)) from ((HQQ.out.trans (HO4.out.mono HQQ.out.size)).trans (hb6'.mono (by omega))).setCell (by simp; omega) _)
      have HF6 := Lib.hid (show w'.heap.size + 1 ≤ (w6.setCell ⟨w'.heap.size, 2, none⟩ (.slice A6 m6 c6)).heap.size by have := hb6'.size; simp [World.setCell]; omega)
      clear ho6 hg6 hat6 hb6 hb6' hm6r
      refine hK.out _ _ trivial (fun hHeld => ?_)
      clear hK K
      try simp only [List.getElem_toArray, List.getElem_cons_succ, List.getElem_cons_zero, Act.put, List.setIfInBounds_toArray, List.set_cons_zero, List.set_cons_succ]
      refine wpAnyH_take (i := 5) (v := ?_) rfl (by kernel_rfl) (by kernel_rfl) (by kernel_rfl) (fun _ _ _ h => h) (Or.inl ⟨by kernel_rfl, ?_⟩) (by assumption) ?_
      rotate_left
      · (intro w hSw; (try dsimp only at hSw); go_simp; (try with_reducible rfl))
      try simp only [List.getElem_toArray, List.getElem_cons_succ, List.getElem_cons_zero, Act.put, List.setIfInBounds_toArray, List.set_cons_zero, List.set_cons_succ]
      refine wpAnyH_ready (rs := [6]) (by kernel_rfl) (by simp) ?_
      refine AllReadyH.cons rfl (fun K hK => ?_) AllReadyH.nil
      go_simp
      refine hK.out _ _ trivial (fun hHeld => ?_)
      clear hK K
      try simp only [List.getElem_toArray, List.getElem_cons_succ, List.getElem_cons_zero, Act.put, List.setIfInBounds_toArray, List.set_cons_zero, List.set_cons_succ]
      refine wpAnyH_done (by kernel_rfl) ?_ _
      go_wp2_with fail
      go_roundw
      case rel => exact ⟨j + 1, _, by omega, by go_num, HF1.out, by rw [hxo]; exact HF2.out, by rw [hxo, List.length_append, hjl, lx, Nat.add_mul, Nat.one_mul], HF3.out, HF4.out, HF5.out, HF6.out⟩
      case measure => simp [intOf] <;> omega
    · obtain rfl : j = no := by omega
      rw [← lno, List.take_length] at how
      have m0 : wr.cell? ⟨w'.heap.size, 0, none⟩ = some (.int .i64 o) := hmm.cell 0
      have m1 : wr.cell? ⟨w'.heap.size, 1, none⟩ = some (.int .i64 (nn : Int)) := hmm.cell 1
      have m2 : wr.cell? ⟨w'.heap.size, 2, none⟩ = some v := hmm.cell 2
      obtain ⟨c40, c41, c42, f40, f41, f42⟩ := hrr.three
      obtain ⟨Av, cv, rfl, _⟩ := how.slice
      generalize hmv : (outsD st.outs).length = mv at *
      have HMV := Lib.hid hmv
      clear hmv
      have HOWF := Lib.hid how
      have R4 := hrr.set3 (.int .i64 o) (.int .i64 (nn : Int)) (.slice Av mv cv)
      obtain ⟨d0, d1, d2, _, _, _⟩ := R4.three
      have H9 := Lib.hid (own_far2 (i := 2) (own_far2 (i := 1) (own_far2 (i := 0) how (show w.heap.size + 1 < w'.heap.size + 1 by omega) (.int .i64 o)) (show w.heap.size + 1 < w'.heap.size + 1 by omega) (.int .i64 (nn : Int))) (show w.heap.size + 1 < w'.heap.size + 1 by omega) (.slice Av mv cv))
      have H10 := Lib.hid (((hqq.setCell (p := ⟨w.heap.size + 1, 0, none⟩) (by simp) (.int .i64 o)).setCell (p := ⟨w.heap.size + 1, 1, none⟩) (by simp) (.int .i64 (nn : Int))).setCell (p := ⟨w.heap.size + 1, 2, none⟩) (by simp) (.slice Av mv cv))
      clear hmm how hgg hrr hqq
      go_wp2_with fail
      refine bodyPost_ret (v := .tuple #[.agg #[.int .i64 o, .int .i64 (nn : Int), .slice Av mv cv], .int .i64 0]) (by simp [results, Try.results13, go_sem, d0, d1, d2]) rfl ?_
      exact ⟨⟨_, w'.heap.size + 1, by omega, rfl, H9.out⟩, H10.out⟩
end Go.Proofs.Ythbjcafldbocpaa

/- The walks of the document's run where it refuses, and of its Check. -/
namespace Go.Proofs.Ythbjcafldbocpaa
open Go.RowKit Go.Proofs.YthbjcafldbocpaaW.PrintWords Go.Proofs.Ythbjcafldbocpaa.P0
set_option linter.unusedVariables false
set_option linter.unusedSimpArgs false
theorem run_bad {w : World} {A : Option Addr} {c : Nat} {l : List S59} {r o q n : Int} (hC : Kd.C k59 w A l.length l) (hc : l.length ≤ c) (h : n < 0 ∨ 64 < n ∨ mayB l r o = false) :
    Calls Try.prog 31 #[.agg #[.slice A l.length c, .int .i64 r, .int .i64 o, .int .u64 q], .int .i64 n] w fun e w' => e = .returned (.tuple #[.slice none 0 0, .int .i64 0, .int .i64 2]) ∧ Below w.heap.size w w' := by
  have q0 : ∀ o, Below w.heap.size w (w.alloc o) := fun o => (Below.refl _ _).alloc (Nat.le_refl _) _
  obtain ⟨b, hb⟩ : ∃ b, mayB l r o = b := ⟨_, rfl⟩
  have hcan := fun w1 h1 => can_ok (w := w) r o q hC hc w1 h1
  rw [hb] at hcan
  cases b with
  | false =>
    go_enter Try.func31, Try.ntmps31
    go_wp2_with fail
    refine (hcan _ (q0 _)).mono ?_
    rintro e w1 ⟨rfl, hb1⟩
    go_wp2_with fail
    go_ret3
    exact ⟨rfl, (q0 _).trans (hb1.mono (by simp))⟩
  | true =>
    by_cases h0 : n < 0
    · have h1 : decide (n < 0) = true := decide_eq_true h0
      go_enter Try.func31, Try.ntmps31
      go_wp2_with fail
      refine (hcan _ (q0 _)).mono ?_
      rintro e w1 ⟨rfl, hb1⟩
      go_wp2_with fail
      go_ret3
      exact ⟨rfl, (q0 _).trans (hb1.mono (by simp))⟩
    · have h1 : decide (n < 0) = false := decide_eq_false h0
      have h2 : decide (64 < n) = true := decide_eq_true (by rcases h with h | h | h; exact absurd h h0; exact h; rw [hb] at h; cases h)
      go_enter Try.func31, Try.ntmps31
      go_wp2_with fail
      refine (hcan _ (q0 _)).mono ?_
      rintro e w1 ⟨rfl, hb1⟩
      go_wp2_with fail
      go_ret3
      exact ⟨rfl, (q0 _).trans (hb1.mono (by simp))⟩
theorem run_all {w : World} {A : Option Addr} {c : Nat} {l : List S59} {r o q n : Int} (hC : Kd.C k59 w A l.length l) (hc : l.length ≤ c) (hb : ∀ s ∈ l, byteB s.f3 = true) (hq : 0 ≤ q) (hq2 : q < 2 ^ 64) (hn : 0 ≤ n) (hn2 : n ≤ 64) (hm : mayB l r o = true) :
    Calls Try.prog 31 #[.agg #[.slice A l.length c, .int .i64 r, .int .i64 o, .int .u64 q], .int .i64 n] w fun e w' => RunPost w r.toNat o.toNat q.toNat n.toNat (l.map psOf) e w' := by
  have h1 := hm
  unfold mayB at h1
  rw [Bool.and_eq_true, decide_eq_true_eq, List.all_eq_true] at h1
  obtain ⟨⟨r1, r2, o1, o2, hl⟩, ho⟩ := h1
  have hst := steps_of hC ho hb
  have er : ((r.toNat : Nat) : Int) = r := Int.toNat_of_nonneg r1
  have eo : ((o.toNat : Nat) : Int) = o := Int.toNat_of_nonneg o1
  have eq : ((q.toNat : Nat) : Int) = q := Int.toNat_of_nonneg hq
  have en : ((n.toNat : Nat) : Int) = n := Int.toNat_of_nonneg hn
  have el : (l.map psOf).length = l.length := List.length_map _
  have hok : ∀ s ∈ l.map psOf, s.Ok := by
    intro s hs
    obtain ⟨x, hx, rfl⟩ := List.mem_map.1 hs
    exact psOf_ok (ho x hx)
  have hcan := can_ok (w := w) r o q hC hc
  rw [hm] at hcan
  have H := run_yes A (l.map psOf) c r.toNat o.toNat q.toNat n.toNat w hst (by omega) (by omega) (by rw [el]; exact hl) (by omega) (by omega) hok (by rw [el, er, eo, eq]; exact hcan)
  rw [el, er, eo, eq, en] at H
  exact H
set_option maxRecDepth 100000 in
theorem rcheck_calls {w : World} {A : Option Addr} {c : Nat} {l : List S59} {r o q n : Int} (hC : Kd.C k59 w A l.length l) (hc : l.length ≤ c) (hb : ∀ s ∈ l, byteB s.f3 = true) (hq : 0 ≤ q) (hq2 : q < 2 ^ 64) :
    Calls Try.prog 11 #[progV A l.length c r o q, .int .i64 n] w fun e w' => e = .returned (.tuple #[.int .i64 (checkV l r o q n).1, .int .i64 (checkV l r o q n).2]) ∧ Below w.heap.size w w' := by
  have q0 : ∀ o, Below w.heap.size w (w.alloc o) := fun o => (Below.refl _ _).alloc (Nat.le_refl _) _
  by_cases h : n < 0 ∨ 64 < n ∨ mayB l r o = false
  · have e : checkV l r o q n = (0, 2) := by unfold checkV; exact if_pos h
    rw [e]
    unfold progV
    go_enter Try.func11, Try.ntmps11
    go_wp2_with fail
    refine (run_bad (Kd.C_below hC (q0 _)) hc h).mono ?_
    rintro e w' ⟨rfl, hb'⟩
    go_wp2_with fail
    go_ret2
    exact ⟨rfl, (q0 _).trans (hb'.mono (by simp))⟩
  · have h' : mayB l r o = true := by
      cases hm : mayB l r o
      · exact absurd (.inr (.inr hm)) h
      · rfl
    have e : checkV l r o q n = match vAll r.toNat o.toNat q.toNat n.toNat (l.map psOf) with
      | (i, some _) => ((i : Int), 0)
      | (i, none) => ((i : Int), 250) := by unfold checkV; exact if_neg h
    rw [e]
    obtain ⟨⟨pl, st⟩, hv⟩ : ∃ v, v = vAll r.toNat o.toNat q.toNat n.toNat (l.map psOf) := ⟨_, rfl⟩
    rw [← hv]
    unfold progV
    go_enter Try.func11, Try.ntmps11
    go_wp2_with fail
    refine (run_all (Kd.C_below hC (q0 _)) hc hb hq hq2 (by omega) (by omega) h').mono ?_
    rintro e w' ⟨hbl, hy, hno⟩
    rw [← hv] at hy hno
    have hbl' := (q0 (.cells #[.slice A l.length c, .int .i64 r, .int .i64 o, .int .u64 q] 26)).trans (hbl.mono (by simp))
    cases st with
    | some st =>
      obtain ⟨gt, ga, gz, rfl, _, _⟩ := hy st rfl
      clear hy hno
      go_wp2_with fail
      go_ret2
      exact ⟨rfl, hbl'⟩
    | none =>
      obtain rfl := hno rfl
      clear hy hno
      go_wp2_with fail
      go_ret2
      exact ⟨rfl, hbl'⟩
end Go.Proofs.Ythbjcafldbocpaa

/- The walk of the law's anchor: Makes and Check of its own program. -/
namespace Go.Proofs.Ythbjcafldbocpaa
open Go.RowKit Go.Proofs.YthbjcafldbocpaaW.PrintWords Go.Proofs.Ythbjcafldbocpaa.P0
set_option linter.unusedVariables false
set_option linter.unusedSimpArgs false
theorem five_makes {w : World} {A : Option Addr} {c : Nat} (hC : Kd.C k59 w A fiveL.length fiveL) (hc : fiveL.length ≤ c) :
    Calls Try.prog 13 #[progV A fiveL.length c 2 1 1, .int .i64 2] w fun e w' => MatE w' w.heap.size 1 2 [5, 0] 0 e ∧ Below w.heap.size w w' :=
  makes_yes hC hc five_bytes (by decide) (by decide) (by decide) (by decide) five_may ⟨[some [5, 0], some [1, 0]], [some [5, 0]], 1⟩ 4 five_run
set_option maxRecDepth 100000 in
set_option maxHeartbeats 1600000 in
theorem anchored25_calls (w : World) : Calls Try.prog 12 #[] w fun e w' => e = .returned (.bool true) ∧ Below w.heap.size w w' := by
  go_enter Try.func12, Try.ntmps12
  go_wp2_with fail
  refine (five_calls w).mono ?_
  rintro e w1 ⟨A, c, rfl, hC, hc, hb1⟩
  go_wp2_with fail
  refine (five_makes hC hc).mono ?_
  rintro e w2 ⟨⟨v, b, hbb, rfl, ho⟩, hb2⟩
  obtain ⟨Av, cv, rfl, hox⟩ := ho.slice
  have ho3 : OwnB w2 b Av 2 cv [5, 0] := hox
  have HB2 := Lib.hid (hb1.trans (hb2.mono hb1.size))
  have HO := Lib.hid ho3
  clear hC hc hb1 hb2 ho hox ho3
  go_wp2_with fail
  have hrow := Row.new w2 [.int .i64 1, .int .i64 2, .slice Av 2 cv] 37
  have hB3 : Below w2.heap.size w2 (w2.alloc (.cells [Value.int .i64 1, .int .i64 2, .slice Av 2 cv].toArray 37)) := (Below.refl _ _).alloc (Nat.le_refl _) _
  obtain ⟨w3, hw3⟩ : ∃ w3, w3 = w2.alloc (.cells [Value.int .i64 1, .int .i64 2, .slice Av 2 cv].toArray 37) := ⟨_, rfl⟩
  rw [← hw3] at hrow hB3
  rw [show w2.alloc (.cells #[Value.int .i64 1, .int .i64 2, .slice Av 2 cv] 37) = w3 from hw3.symm]
  clear hw3
  refine (five_calls w3).mono ?_
  rintro e w4 ⟨A4, c4, rfl, hC4, hc4, hb4⟩
  go_wp2_with fail
  have hck := check_calls (r := 2) (o := 1) (q := 1) (n := 2) hC4 hc4 five_bytes (by decide) (by decide)
  rw [five_check] at hck
  refine hck.mono ?_
  rintro e w5 ⟨rfl, hb5⟩
  have hb35 : Below w3.heap.size w3 w5 := hb4.trans (hb5.mono hb4.size)
  have hr5 := hrow.below hb35 hrow.lt
  obtain ⟨m0, m1, m2, _, _, _⟩ := hr5.three
  have hb25 : Below w2.heap.size w2 w5 := hB3.trans (hb35.mono hB3.size)
  have rd5 : Rd w5 w5.heap.size Av 2 (bVs [5, 0]) := HO.out.rd.go hb25
  have hn : Row (w5.alloc (.cells #[.int .u8 5, .int .u8 0] 5)) w5.heap.size 5 (bVs [5, 0]) := Row.new w5 _ _
  have rb : Rd (w5.alloc (.cells #[.int .u8 5, .int .u8 0] 5)) _ (some ⟨w5.heap.size, 0, none⟩) 2 (bVs [5, 0]) := (RdT.of_row hn).rd
  have ra : Rd (w5.alloc (.cells #[.int .u8 5, .int .u8 0] 5)) _ Av 2 (bVs [5, 0]) := rd5.go ((Below.refl _ _).alloc (Nat.le_refl _) _)
  have HR := Lib.hid ra
  have HRB := Lib.hid rb
  have HBF := Lib.hid (show Below w.heap.size w (w5.alloc (.cells #[.int .u8 5, .int .u8 0] 5)) from (HB2.out.trans (hb25.mono HB2.out.size)).alloc (Nat.le_trans HB2.out.size hb25.size) _)
  clear hC4 hc4 hb4 hck hb5 hb35 hr5 hb25 rd5 hn rb ra hrow hB3
  go_wp2_with fail
  refine (like_self 1 2 Av 2 cv (some ⟨w5.heap.size, 0, none⟩) 2 2 [5, 0] _ HR.out HRB.out).mono ?_
  rintro e w6 ⟨rfl, hb6⟩
  go_wp2_with fail
  go_ret
  exact ⟨rfl, HBF.out.trans (hb6.mono HBF.out.size)⟩
end Go.Proofs.Ythbjcafldbocpaa

/- The walk of the law VerifyChecks. -/
namespace Go.Proofs.Ythbjcafldbocpaa
open Go.RowKit Go.Proofs.YthbjcafldbocpaaW.PrintWords Go.Proofs.Ythbjcafldbocpaa.P0
set_option linter.unusedVariables false
set_option linter.unusedSimpArgs false
theorem verifyChecks_core {w : World} {A : Option Addr} {c : Nat} {l : List S59} {r o q n : Int} (hC : Kd.C k59 w A l.length l) (hc : l.length ≤ c) (hb : ∀ s ∈ l, byteB s.f3 = true) (hq : 0 ≤ q) (hq2 : q < 2 ^ 64) :
    Calls Try.prog 3 #[progV A l.length c r o q, .int .i64 n] w fun e w' => e = .returned (.bool true) ∧ Below w.heap.size w w' := by
  have q0 : ∀ o, Below w.heap.size w (w.alloc o) := fun o => (Below.refl _ _).alloc (Nat.le_refl _) _
  obtain ⟨⟨x, y⟩, hv⟩ : ∃ v, v = checkV l r o q n := ⟨_, rfl⟩
  have hck : ∀ w1, Below w.heap.size w w1 → Calls Try.prog 10 #[.agg #[.slice A l.length c, .int .i64 r, .int .i64 o, .int .u64 q], .int .i64 n] w1 fun e w' => e = .returned (.tuple #[.int .i64 x, .int .i64 y]) ∧ Below w1.heap.size w1 w' := by
    intro w1 h1
    have := check_calls (r := r) (o := o) (q := q) (n := n) (Kd.C_below hC h1) hc hb hq hq2
    rw [← hv] at this
    exact this
  have hrk : ∀ w1, Below w.heap.size w w1 → Calls Try.prog 11 #[.agg #[.slice A l.length c, .int .i64 r, .int .i64 o, .int .u64 q], .int .i64 n] w1 fun e w' => e = .returned (.tuple #[.int .i64 x, .int .i64 y]) ∧ Below w1.heap.size w1 w' := by
    intro w1 h1
    have := rcheck_calls (r := r) (o := o) (q := q) (n := n) (Kd.C_below hC h1) hc hb hq hq2
    rw [← hv] at this
    exact this
  have HCK := Lib.hid hck
  have HRK := Lib.hid hrk
  clear hck hrk hv
  unfold progV
  have hp := Row.new w [.slice A l.length c, .int .i64 r, .int .i64 o, .int .u64 q] 26
  go_enter Try.func3, Try.ntmps3
  go_wp2_with fail
  refine (HCK.out _ (q0 _)).mono ?_
  rintro e w1 ⟨rfl, hb1⟩
  have hp1 := hp.below hb1 hp.lt
  have b1 : Below w.heap.size w w1 := (q0 (.cells [.slice A l.length c, .int .i64 r, .int .i64 o, .int .u64 q].toArray 26)).trans (hb1.mono (by simp))
  have p0 : w1.cell? ⟨w.heap.size, 0, none⟩ = some (.slice A l.length c) := hp1.cell 0
  have p1 : w1.cell? ⟨w.heap.size, 1, none⟩ = some (.int .i64 r) := hp1.cell 1
  have p2 : w1.cell? ⟨w.heap.size, 2, none⟩ = some (.int .i64 o) := hp1.cell 2
  have p3 : w1.cell? ⟨w.heap.size, 3, none⟩ = some (.int .u64 q) := hp1.cell 3
  clear hp hp1 hb1
  go_wp2_with fail
  refine (HRK.out _ b1).mono ?_
  rintro e w2 ⟨rfl, hb2⟩
  clear p0 p1 p2 p3
  have HB2 := Lib.hid (b1.trans (hb2.mono b1.size))
  clear hb2
  go_wp2_with fail
  refine (anchored25_calls _).mono ?_
  rintro e w3 ⟨rfl, hb3⟩
  go_wp2_with fail
  go_ret
  exact ⟨rfl, HB2.out.trans (hb3.mono HB2.out.size)⟩
theorem verifyChecks_calls (A : Option Addr) (c : Nat) (l : List S59) (r o q n : Int) (w : World) (hC : Kd.C k59 w A l.length l) (hc : l.length ≤ c) (hb : ∀ s ∈ l, byteB s.f3 = true) (hq : 0 ≤ q) (hq2 : q < 2 ^ 64) (h1 : -9223372036854775808 ≤ n) (h2 : n ≤ 9223372036854775807) :
    Calls Try.prog 3 #[progV A l.length c r o q, .int .i64 n] w fun e w' => e = .returned (.bool true) ∧ Below w.heap.size w w' := verifyChecks_core hC hc hb hq hq2
end Go.Proofs.Ythbjcafldbocpaa

/- Words for the rows: how a program that came in reads. -/
namespace Go.Proofs.Ythbjcafldbocpaa
open Go.ChangeShapes Go.WideShapes Go.ChangeAt Go.RowKit Go.Joins Go.Proofs.YthbjcafldbocpaaW.PrintWords Go.Proofs.Ythbjcafldbocpaa.P0
set_option linter.unusedVariables false
set_option linter.unusedSimpArgs false
theorem cells_step : Try.prog.cellsOf 59 = 4 := by kernel_rfl
theorem cells_k57 : Try.prog.cellsOf 57 = 1 := by kernel_rfl
theorem cells_int : Try.prog.cellsOf 3 = 1 := by kernel_rfl
theorem cells_u8 : Try.prog.cellsOf 5 = 1 := by kernel_rfl
theorem cells_prog : Try.prog.cellsOf 26 = 4 := by kernel_rfl
theorem byteB_wf {a : Int} (h : (Lit.int .u8 a).wf = true) : byteB a = true := by
  obtain ⟨x, rfl⟩ := u8_of h
  exact byteB_nat x
set_option maxRecDepth 100000 in
theorem step_cells {H : Type} {enc : TypeId × Value → H} {W : World} {n : Nat} {cs : List Value} {x : DataW H × List MemPlace} (h : DataW.trod enc Try.prog W 0 (fun _ => true) true n 59 cs = some x) : ∃ s : S59, cs = cs59 s ∧ byteB s.f3 = true := by
  obtain ⟨y0, y1, y2, y3, m, _, hl, h0, h1, h2, h3⟩ := Go.Joins.trod_struct4 Try.underlying59 h
  rw [cells_step] at hl
  match cs, hl with
  | [c0, c1, c2, c3], _ =>
    have e0 : [c0] = [c0] := rfl
    obtain ⟨a0, q0, _, _⟩ := DataW.trod_int Try.underlying57 h0
    obtain ⟨a1, q1, _, _⟩ := DataW.trod_int Try.underlying3 h1
    obtain ⟨a2, q2, _, _⟩ := DataW.trod_int Try.underlying3 h2
    obtain ⟨a3, q3, _, w3⟩ := DataW.trod_int Try.underlying5 h3
    simp [cells_k57, cells_int, cells_u8] at q0 q1 q2 q3
    subst q0 q1 q2 q3
    exact ⟨⟨a0, a1, a2, a3⟩, rfl, byteB_wf w3⟩
instance : Inhabited S59 := ⟨z59⟩
theorem steps_field {H : Type} {enc : TypeId × Value → H} {W : World} {fuel : Nat} {v : Value} {y : DataW H × List MemPlace}
    (hf : DataW.trod enc Try.prog W 0 (fun _ => true) true fuel 22 [v] = some y) :
    ∃ (a : Option Addr) (cap : Nat) (l : List S59), v = .slice a l.length cap ∧ Kd.C k59 W a l.length l ∧ l.length ≤ cap ∧ ∀ s ∈ l, byteB s.f3 = true := by
  rcases Go.Deep.open_slice Try.underlying22 hf with ⟨hcs, _⟩ | ⟨a, len, cap, m, n, D, Pl, hcs, _, hl, hm, hmm, _, hx⟩
  · simp at hcs
    exact ⟨none, 0, [], hcs, ⟨rfl, by simp, fun h => absurd h (by simp)⟩, Nat.le_refl _, fun s hs => by cases hs⟩
  · simp at hcs
    subst hcs
    have hlm : len ≤ m := by simp at hmm; omega
    obtain ⟨f, hf2⟩ := Go.Deep.choose_lt (α := S59) (n := len) (p := fun i s => (∀ j u, (cs59 s)[j]? = some u → W.cell? (a.add (i * 4 + j)) = some u) ∧ byteB s.f3 = true) (fun i hi => by
      obtain ⟨cs', h1, h2⟩ := hx i (by omega)
      obtain ⟨s, rfl, hb⟩ := step_cells h2
      rw [cells_step] at h1
      obtain ⟨_, _, h3⟩ := World.cells?_some h1
      refine ⟨s, fun j u hu => ?_, hb⟩
      have hj : j < 4 := by
        rcases Nat.lt_or_ge j 4 with h | h
        · exact h
        · rw [List.getElem?_eq_none (by simpa [cs59] using h)] at hu; cases hu
      rw [← Go.Deep.add_add, h3 j hj, hu])
    refine ⟨some a, cap, (List.range len).map f, by simp, ⟨rfl, by simp; have : cap ≤ 9223372036854775807 := hm; omega, fun _ => ⟨a, rfl, fun j p hp => ?_⟩⟩, by simpa using hl, fun s hs => ?_⟩
    · rw [List.getElem?_map] at hp
      obtain ⟨j2, hj2, rfl⟩ := Option.map_eq_some_iff.1 hp
      obtain ⟨hjl, rfl⟩ := List.getElem?_eq_some_iff.1 hj2
      rw [List.length_range] at hjl
      simp only [List.getElem_range]
      exact ⟨cs59 (f j), rfl, k59_mk W (f j), fun i u hu => (hf2 j hjl).1 i u hu⟩
    · obtain ⟨j, hj, rfl⟩ := List.mem_map.1 hs
      exact (hf2 j (List.mem_range.1 hj)).2
set_option maxRecDepth 100000 in
/-- A program that came in. -/
theorem open_program {H : Type} {enc : TypeId × Value → H} {W : World} {r : Reach} {b0 : Nat} {v : Value} {d : DataW H} {p : List MemPlace}
    (hv : Value.okWide Try.prog W r b0 26 v) (h : DataW.Trod enc Try.prog W 0 (fun _ => true) true 26 v d p) :
    ∃ (a : Option Addr) (cap : Nat) (l : List S59) (rr oo qq : Int), v = progV a l.length cap rr oo qq ∧ Kd.C k59 W a l.length l ∧ l.length ≤ cap ∧ (∀ s ∈ l, byteB s.f3 = true) ∧ 0 ≤ qq ∧ qq < 2 ^ 64 := by
  obtain ⟨v0, v1, v2, v3, y0, y1, y2, y3, m, rfl, _, _, t0, t1, t2, t3⟩ := Go.Joins.open_agg4 Try.underlying26 (by kernel_rfl) cells_prog hv h
  obtain ⟨a, cap, l, rfl, hC, hl, hb⟩ := steps_field t0
  obtain ⟨rr, e1, _, _⟩ := DataW.trod_int Try.underlying3 t1
  obtain ⟨oo, e2, _, _⟩ := DataW.trod_int Try.underlying3 t2
  obtain ⟨qq, e3, _, w3⟩ := DataW.trod_int Try.underlying24 t3
  simp at e1 e2 e3
  subst e1 e2 e3
  have hq : 0 ≤ qq ∧ qq < 2 ^ 64 := by
    have := bounds_u64 w3
    omega
  exact ⟨a, cap, l, rr, oo, qq, rfl, hC, hl, hb, hq.1, hq.2⟩
end Go.Proofs.Ythbjcafldbocpaa

/- The law VerifyChecks, proved: for every input the call returns true and each argument reads as before. -/
namespace Go.Proofs.Ythbjcafldbocpaa.verifyChecks
open Go.ChangeShapes Go.WideShapes Go.ChangeAt Go.RowKit

set_option linter.unusedVariables false

set_option maxRecDepth 100000 in
theorem lifted (os : Os) (started : os.Started) (H : Type) (enc : TypeId × Value → H) :
    ReturnsInHanded {} Try.checked os 3 .any (Rows.verifyChecksSpec.pre6 enc Try.prog Try.f3 Rows.verifyChecksRow.domain false) (Rows.verifyChecksSpec.post enc Try.prog Try.f3 false true false false) := by
  refine returnsInHanded_of_change_sized (C := Try.checked) own_knob started (by kernel_rfl) Try.func3
    (ChangeSpec.witness6 (enc := enc) (C := Try.checked) false ⟨#[], #[.agg #[.slice none 0 0, .int .i64 0, .int .i64 0, .int .u64 0], .int .i64 0], []⟩ 8 (by kernel_rfl) (by kernel_rfl) (by kernel_rfl) (by kernel_rfl)) ?_
  intro W base args ds gs before hval0 hW hcnd hsz0 _
  have hsz : (DataW.weightsEach Try.prog (Try.f3.params.toList ++ Rows.verifyChecksSpec.plain.varTypes Try.prog) (ds ++ gs)).all (· ≤ reachBytes) = true := hsz0
  have hval : ∀ (j : Nat) t v, Try.f3.params[j]? = some t → args[j]? = some v → Value.okWide Try.prog W .any base t v := hval0
  have hW' := hW
  obtain ⟨p, q, hA0, hV, rfl, hfz, hnd⟩ := hW
  have hA : DataW.TrodAll enc Try.prog W 0 (fun _ => true) true Try.f3.params.toList args.toList ds p := hA0
  rw [Try.params3] at hA hval hsz
  obtain ⟨v0, vs0, d0, ds0, p0, q0, hargs, rfl, rfl, h0, r0⟩ := trodAll_cons hA
  obtain ⟨v1, vs1, d1, ds1, p1, q1, rfl, rfl, rfl, h1, r1⟩ := trodAll_cons r0
  obtain ⟨rfl, rfl, rfl⟩ := trodAll_nil r1
  obtain rfl : args = #[v0, v1] := by cases args; simp_all
  obtain ⟨rfl, rfl⟩ := trodVars_none hV
  have k0 := h0
  have lt0 : ∀ x ∈ p0, x.block < W.heap.size := by obtain ⟨m, hm⟩ := k0; exact DataW.trod_lt m _ _ _ hm
  have k1 := h1
  have lt1 : ∀ x ∈ p1, x.block < W.heap.size := by obtain ⟨m, hm⟩ := k1; exact DataW.trod_lt m _ _ _ hm
  obtain ⟨a0, c0, x0, rr0, oo0, qq0, rfl, rd0, lc0, by0, q00, q10⟩ := open_program (hval 0 26 v0 rfl rfl) h0
  obtain ⟨a1, rfl, rfl, rfl, w1⟩ := open_int Try.underlying3 (hval 1 3 v1 rfl rfl) h1
  clear hA0 hval0 hsz0
  refine (verifyChecks_calls a0 c0 x0 rr0 oo0 qq0 a1 W rd0 lc0 by0 q00 q10 (bounds_i64 w1).1 (bounds_i64 w1).2).mono fun e W' ⟨he, bel⟩ => ?_
  subst he
  exact ⟨_, rfl, _, _, _, [], _, [], hW', trodAll_mk1 (shut_bool Try.underlying4 _), (trodAll_cons_mk (Below.trod laid_out (by kernel_rfl) (of_decide_eq_true (by kernel_rfl)) k0 bel lt0) (trodAll_cons_mk (shut_int Try.underlying3 w1) trodAll_mk0)), rfl, bel.frame _, fun h => by cases h⟩

theorem over : Rows.verifyChecksRow.holds Try.pinned (OpenSpec.ofChange Rows.verifyChecksSpec) :=
  OpenClaim.holds_of_wide 3 Try.f3 rfl rfl rfl rfl rfl rfl rfl ⟨rfl, rfl, rfl, rfl, rfl⟩ rfl rfl rfl rfl rfl (by kernel_rfl) Try.func3 (by kernel_rfl)
    (of_decide_eq_true (by kernel_rfl)) (by unfold Func.isWrapper; first | (rw [if_pos (by decide +kernel)]; kernel_rfl) | (rw [if_neg (by decide +kernel)]; exact ⟨rfl, rfl⟩))
    (fun os started H enc _ => lifted os started H enc)

theorem proved : Rows.VerifyChecksSaid := over
#print axioms proved
end Go.Proofs.Ythbjcafldbocpaa.verifyChecks
