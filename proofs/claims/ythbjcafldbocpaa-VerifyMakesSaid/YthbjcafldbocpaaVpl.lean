/- A program's step on rows: the state and the step in plain Lean, and the rows laid out in blocks of sixty-four. -/
import Derived.Test.YthbjcafldbocpaaVcell
import Derived.Test.YthbjcafldbocpaaGf
namespace Go.Proofs.Ythbjcafldbocpaa
open Go.RowKit
set_option linter.unusedVariables false
set_option linter.unusedSimpArgs false

/-- what is in the registers, what came out (as rows), and what was loaded -/
structure VS where
  regs : List (Option (List UInt8))
  outs : List (Option (List UInt8))
  loads : Nat
/-- the row with a 1 at place s -/
def unitR (n s : Nat) : List UInt8 := (List.replicate n 0).set s 1
/-- a step of a program of nr registers and no places, with reads, over n blocks; none: it is not sound -/
def vStep (nr no reads n : Nat) (st : VS) (k D S : Nat) (C : UInt8) : Option VS :=
  if k = 1 then if D < nr then some { st with regs := st.regs.set D (some (List.replicate n 0)) } else none
  else if k = 2 then if D < nr ∧ S < n ∧ reads.testBit S = true then some { st with regs := st.regs.set D (some (unitR n S)), loads := st.loads ||| 1 <<< S } else none
  else if k = 3 then if D = S then none else match st.regs.getD D none, st.regs.getD S none with
    | some d, some s => some { st with regs := st.regs.set D (some (Gf.macL d C s)) }
    | _, _ => none
  else if k = 4 then match st.regs.getD S none with
    | some s => if D < no ∧ st.outs.getD D none = none then some { st with outs := st.outs.set D (some s) } else none
    | none => none
  else some st
/-- the state is one of a program of nr registers, no places, n blocks -/
structure VS.Ok (st : VS) (nr no n : Nat) : Prop where
  lr : st.regs.length = nr
  lo : st.outs.length = no
  wr : ∀ i l, st.regs.getD i none = some l → l.length = n
  wo : ∀ i l, st.outs.getD i none = some l → l.length = n
theorem set_getD' {α : Type} (l : List α) (i j : Nat) (x d : α) : (l.set i x).getD j d = if i = j ∧ i < l.length then x else l.getD j d := by
  simp only [List.getD_eq_getElem?_getD, List.getElem?_set]
  by_cases h : i = j
  · subst h
    by_cases h' : i < l.length
    · simp [h']
    · simp [h', List.getElem?_eq_none (Nat.le_of_not_lt h')]
  · simp [h]
theorem unitR_length (n s : Nat) : (unitR n s).length = n := by simp [unitR]
theorem macL_length {d s : List UInt8} (C : UInt8) (h : d.length = s.length) : (Gf.macL d C s).length = d.length := by simp [Gf.macL, h]
theorem VS.Ok.set {st : VS} {nr no n : Nat} (h : st.Ok nr no n) (D : Nat) (l : List UInt8) (hl : l.length = n) (ld : Nat) : VS.Ok { st with regs := st.regs.set D (some l), loads := ld } nr no n := by
  refine ⟨by simp [h.lr], h.lo, fun i x hx => ?_, h.wo⟩
  simp only [set_getD'] at hx
  split at hx
  · injection hx with hx; rw [← hx]; exact hl
  · exact h.wr i x hx
theorem vStep_ok {nr no reads n : Nat} {st st' : VS} {k D S : Nat} {C : UInt8} (h : st.Ok nr no n) (hs : vStep nr no reads n st k D S C = some st') : st'.Ok nr no n := by
  unfold vStep at hs
  split at hs
  · split at hs
    · injection hs with hs; subst hs; exact h.set D _ (by simp) st.loads
    · cases hs
  split at hs
  · split at hs
    · injection hs with hs; subst hs; exact h.set D _ (unitR_length _ _) _
    · cases hs
  split at hs
  · split at hs
    · cases hs
    · split at hs
      · rename_i d s hd hs'
        injection hs with hs; subst hs; exact h.set D _ (by rw [macL_length C ((h.wr _ _ hd).trans (h.wr _ _ hs').symm)]; exact h.wr _ _ hd) st.loads
      · cases hs
  split at hs
  · split at hs
    · rename_i s hs'
      split at hs
      · injection hs with hs; subst hs
        refine ⟨h.lr, by simp [h.lo], h.wr, fun i x hx => ?_⟩
        simp only [set_getD'] at hx
        split at hx
        · injection hx with hx; rw [← hx]; exact h.wr _ _ hs'
        · exact h.wo i x hx
      · cases hs
    · cases hs
  · injection hs with hs; subst hs; exact h

/-! the rows in memory: each in sixty-four cells -/
/-- a row in sixty-four bytes -/
def pad (o : Option (List UInt8)) : List UInt8 := match o with
  | some l => l ++ List.replicate (64 - l.length) 0
  | none => List.replicate 64 0
def flatR (rs : List (Option (List UInt8))) : List UInt8 := (rs.map pad).flatten
def Short (rs : List (Option (List UInt8))) : Prop := ∀ o ∈ rs, ∀ l, o = some l → l.length ≤ 64
theorem pad_length {o : Option (List UInt8)} (h : ∀ l, o = some l → l.length ≤ 64) : (pad o).length = 64 := by
  cases o with
  | none => simp [pad]
  | some l => have := h l rfl; simp [pad]; omega
theorem flatR_length {rs : List (Option (List UInt8))} (h : Short rs) : (flatR rs).length = rs.length * 64 := by
  induction rs with
  | nil => rfl
  | cons o rs ih =>
    have h1 := pad_length (h o (by simp))
    have h2 := ih (fun o ho => h o (by simp [ho]))
    show ((pad o) ++ flatR rs).length = _
    rw [List.length_append, h1, h2, List.length_cons]; omega
theorem flatR_get {rs : List (Option (List UInt8))} (h : Short rs) : ∀ i j, i < rs.length → j < 64 → (flatR rs).getD (i * 64 + j) 0 = (pad (rs.getD i none)).getD j 0 := by
  induction rs with
  | nil => intro i j hi; simp at hi
  | cons o rs ih =>
    intro i j hi hj
    have h1 := pad_length (h o (by simp))
    show ((pad o) ++ flatR rs).getD _ 0 = _
    rw [List.getD_eq_getElem?_getD]
    cases i with
    | zero => rw [List.getElem?_append_left (by omega)]; simp [List.getD_eq_getElem?_getD]
    | succ i =>
      rw [List.getElem?_append_right (by omega), h1, show (i + 1) * 64 + j - 64 = i * 64 + j by omega, ← List.getD_eq_getElem?_getD, ih (fun o ho => h o (by simp [ho])) i j (by simpa using hi) hj]
      simp [List.getD_eq_getElem?_getD]
theorem flatR_set {rs : List (Option (List UInt8))} (h : Short rs) (D : Nat) (hD : D < rs.length) (o : Option (List UInt8)) (ho : ∀ l, o = some l → l.length ≤ 64) : flatR (rs.set D o) = (flatR rs).take (D * 64) ++ pad o ++ (flatR rs).drop (D * 64 + 64) := by
  induction rs generalizing D with
  | nil => simp at hD
  | cons a rs ih =>
    have h1 := pad_length (h a (by simp))
    cases D with
    | zero =>
      show pad o ++ flatR rs = (pad a ++ flatR rs).take (0 * 64) ++ pad o ++ (pad a ++ flatR rs).drop (0 * 64 + 64)
      rw [List.drop_append, List.drop_eq_nil_of_le (by omega), h1]; simp
    | succ D =>
      have h2 := ih (fun o ho => h o (by simp [ho])) D (by simpa using hD)
      show pad a ++ flatR (rs.set D o) = (pad a ++ flatR rs).take ((D + 1) * 64) ++ pad o ++ (pad a ++ flatR rs).drop ((D + 1) * 64 + 64)
      rw [h2, List.take_append, List.take_of_length_le (l := pad a) (by omega), List.drop_append, List.drop_eq_nil_of_le (show (pad a).length ≤ (D + 1) * 64 + 64 by omega), h1, show (D + 1) * 64 - 64 = D * 64 by omega, show (D + 1) * 64 + 64 - 64 = D * 64 + 64 by omega]
      simp
theorem layAt_pad {rs : List (Option (List UInt8))} (h : Short rs) (D : Nat) (hD : D < rs.length) (o : Option (List UInt8)) (ho : ∀ l, o = some l → l.length ≤ 64) : layAt (bVs (flatR rs)) (D * 64) (bVs (pad o)) = bVs (flatR (rs.set D o)) := by
  rw [flatR_set h D hD o ho, layAt, bVs_append, bVs_append, bVs_length, pad_length ho, bVs_take]
  simp [bVs, List.map_drop]
theorem flatR_drop {rs : List (Option (List UInt8))} (h : Short rs) (D : Nat) (hD : D < rs.length) : ((flatR rs).drop (D * 64)).take 64 = pad (rs.getD D none) := by
  have hp : ∀ l, rs.getD D none = some l → l.length ≤ 64 := by
    intro l hl
    rw [List.getD_eq_getElem?_getD, List.getElem?_eq_getElem hD] at hl
    exact h _ (List.getElem_mem hD) l hl
  have e := flatR_set h D hD (rs.getD D none) hp
  rw [show rs.set D (rs.getD D none) = rs by rw [List.getD_eq_getElem?_getD, List.getElem?_eq_getElem hD]; simp] at e
  have hl := flatR_length h
  have h64 := pad_length hp
  conv => lhs; rw [e]
  have l1 : (List.take (D * 64) (flatR rs)).length = D * 64 := by rw [List.length_take, hl]; omega
  rw [List.append_assoc, List.drop_append, List.drop_eq_nil_of_le (by omega), l1, Nat.sub_self, List.drop_zero, List.nil_append, List.take_append, List.take_of_length_le (by omega), h64]
  simp
theorem Short.of_ok {st : VS} {nr no n : Nat} (h : st.Ok nr no n) (hn : n ≤ 64) : Short st.regs := by
  intro o ho l hl
  obtain ⟨i, hi, rfl⟩ := List.getElem_of_mem ho
  have := h.wr i l (by rw [List.getD_eq_getElem?_getD, List.getElem?_eq_getElem hi]; exact hl)
  omega
theorem Short.of_ok' {st : VS} {nr no n : Nat} (h : st.Ok nr no n) (hn : n ≤ 64) : Short st.outs := by
  intro o ho l hl
  obtain ⟨i, hi, rfl⟩ := List.getElem_of_mem ho
  have := h.wo i l (by rw [List.getD_eq_getElem?_getD, List.getElem?_eq_getElem hi]; exact hl)
  omega
theorem pad_zero (n : Nat) (hn : n ≤ 64) : pad (some (List.replicate n 0)) = List.replicate 64 0 := by
  simp [pad, show n + (64 - n) = 64 by omega]
theorem pad_mac (d s : List UInt8) (C : UInt8) (h : d.length = s.length) (hl : d.length ≤ 64) : pad (some (Gf.macL d C s)) = Gf.macL (pad (some d)) C (pad (some s)) := by
  simp only [pad, Gf.macL]
  rw [List.zipWith_append h, h]
  congr 1
  rw [List.length_zipWith, h, Nat.min_self]
  have : Gf.add 0 (Gf.mul C 0) = 0 := by rw [Gf.mul_zero, Gf.add_zero]
  simp [List.zipWith_replicate, this]
theorem pad_unit (n s : Nat) (hn : n ≤ 64) (hs : s < n) : pad (some (unitR n s)) = (List.replicate 64 0).set s 1 := by
  simp only [pad, unitR_length]
  unfold unitR
  rw [← List.set_append_left _ _ (by simpa using hs)]
  simp [show n + (64 - n) = 64 by omega]
end Go.Proofs.Ythbjcafldbocpaa
