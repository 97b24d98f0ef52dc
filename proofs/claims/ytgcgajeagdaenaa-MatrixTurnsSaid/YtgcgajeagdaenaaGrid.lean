/- Lists laid out as rows of one length: plain words. -/
import Derived.Test.YtgcgajeagdaenaaGf
namespace Go.Proofs.Ytgcgajeagdaenaa
set_option linter.unusedVariables false
set_option linter.unusedSimpArgs false

/-- R rows of C entries, row by row -/
def gridD (R C : Nat) (f : Nat → Nat → UInt8) : List UInt8 := (List.range (R * C)).map fun p => f (p / C) (p % C)
theorem grid_length (R C : Nat) (f : Nat → Nat → UInt8) : (gridD R C f).length = R * C := by simp [gridD]
theorem place_lt {R C i j : Nat} (hi : i < R) (hj : j < C) : i * C + j < R * C := by
  have h : (i + 1) * C ≤ R * C := Nat.mul_le_mul_right C hi
  rw [Nat.add_mul] at h
  omega
theorem place_div {C i j : Nat} (hj : j < C) : (i * C + j) / C = i := by
  rw [Nat.add_comm, Nat.add_mul_div_right _ _ (by omega), Nat.div_eq_of_lt hj, Nat.zero_add]
theorem place_mod {C i j : Nat} (hj : j < C) : (i * C + j) % C = j := by
  rw [Nat.add_comm, Nat.add_mul_mod_self_right, Nat.mod_eq_of_lt hj]
theorem place_of {R C p : Nat} (hp : p < R * C) : p / C < R ∧ p % C < C ∧ p = p / C * C + p % C := by
  have hC : 0 < C := by
    rcases Nat.eq_zero_or_pos C with h | h
    · subst h; simp at hp
    · exact h
  refine ⟨(Nat.div_lt_iff_lt_mul hC).2 hp, Nat.mod_lt _ hC, ?_⟩
  have := Nat.div_add_mod p C
  rw [Nat.mul_comm] at this
  omega
theorem grid_get {R C i j : Nat} (f : Nat → Nat → UInt8) (hi : i < R) (hj : j < C) : (gridD R C f)[i * C + j]? = some (f i j) := by
  simp only [gridD, List.getElem?_map, List.getElem?_range (place_lt hi hj), Option.map_some, place_div hj, place_mod hj]
theorem grid_getD {R C i j : Nat} (f : Nat → Nat → UInt8) (hi : i < R) (hj : j < C) : (gridD R C f).getD (i * C + j) 0 = f i j := by
  rw [List.getD_eq_getElem?_getD, grid_get f hi hj]; rfl
theorem grid_congr {R C : Nat} {f g : Nat → Nat → UInt8} (h : ∀ i j, i < R → j < C → f i j = g i j) : gridD R C f = gridD R C g := by
  unfold gridD
  apply List.map_congr_left
  intro p hp
  obtain ⟨h1, h2, _⟩ := place_of (List.mem_range.1 hp)
  exact h _ _ h1 h2
theorem grid_ext {R C : Nat} {xs : List UInt8} {f : Nat → Nat → UInt8} (hl : xs.length = R * C) (h : ∀ i j, i < R → j < C → xs[i * C + j]? = some (f i j)) : xs = gridD R C f := by
  apply List.ext_getElem?
  intro p
  rcases Nat.lt_or_ge p (R * C) with hp | hp
  · obtain ⟨h1, h2, h3⟩ := place_of hp
    rw [h3, h _ _ h1 h2, grid_get f h1 h2]
  · rw [List.getElem?_eq_none (by omega), List.getElem?_eq_none (by rw [grid_length]; omega)]
theorem grid_of {R C : Nat} {xs : List UInt8} (hl : xs.length = R * C) : xs = gridD R C (fun i j => xs.getD (i * C + j) 0) := by
  refine grid_ext hl fun i j hi hj => ?_
  have := place_lt hi hj
  rw [List.getD_eq_getElem?_getD, List.getElem?_eq_getElem (by omega)]
  rfl
theorem grid_zero (R C : Nat) : List.replicate (R * C) 0 = gridD R C (fun _ _ => 0) := by
  unfold gridD
  rw [List.map_const', List.length_range]
theorem place_inj {C i j a b : Nat} (hj : j < C) (hb : b < C) (h : i * C + j = a * C + b) : i = a ∧ j = b :=
  ⟨by have h1 := congrArg (· / C) h; simpa only [place_div hj, place_div hb] using h1, by have h1 := congrArg (· % C) h; simpa only [place_mod hj, place_mod hb] using h1⟩
theorem grid_set {R C i j : Nat} (f : Nat → Nat → UInt8) (v : UInt8) (hi : i < R) (hj : j < C) : (gridD R C f).set (i * C + j) v = gridD R C (fun a b => if a = i ∧ b = j then v else f a b) := by
  refine grid_ext (by rw [List.length_set, grid_length]) fun a b ha hb => ?_
  rw [List.getElem?_set]
  by_cases h : i * C + j = a * C + b
  · obtain ⟨rfl, rfl⟩ := place_inj hj hb h
    rw [if_pos rfl, if_pos (by rw [grid_length]; exact place_lt hi hj), if_pos ⟨rfl, rfl⟩]
  · rw [if_neg h, grid_get f ha hb, if_neg (by rintro ⟨rfl, rfl⟩; exact h rfl)]
theorem grid_row {R C i : Nat} (f : Nat → Nat → UInt8) (hi : i < R) : ((gridD R C f).drop (i * C)).take C = (List.range C).map (f i) := by
  apply List.ext_getElem?
  intro j
  rw [List.getElem?_take]
  rcases Nat.lt_or_ge j C with hj | hj
  · rw [if_pos hj, List.getElem?_drop, grid_get f hi hj, List.getElem?_map, List.getElem?_range hj]; rfl
  · rw [if_neg (by omega), List.getElem?_eq_none (by simpa using hj)]
theorem grid_take {R C i j : Nat} (f : Nat → Nat → UInt8) (hi : i < R) (hj : j < C) : (gridD R C f).take (i * C + j) ++ [f i j] = (gridD R C f).take (i * C + j + 1) := by
  rw [List.take_add_one, grid_get f hi hj]; rfl

/-- filled row by row up to (i, j) -/
def fillT (R C : Nat) (f : Nat → Nat → UInt8) (i j : Nat) : List UInt8 := gridD R C (fun a b => if a < i ∨ (a = i ∧ b < j) then f a b else 0)
theorem fillT_start (R C : Nat) (f : Nat → Nat → UInt8) : List.replicate (R * C) 0 = fillT R C f 0 0 := by
  rw [grid_zero]
  exact grid_congr fun i j _ _ => (if_neg (by omega)).symm
theorem fillT_set {R C i j : Nat} (f : Nat → Nat → UInt8) (hi : i < R) (hj : j < C) : (fillT R C f i j).set (i * C + j) (f i j) = fillT R C f i (j + 1) := by
  unfold fillT
  rw [grid_set _ _ hi hj]
  refine grid_congr fun a b _ _ => ?_
  by_cases h : a = i ∧ b = j
  · rw [if_pos h, if_pos (by omega), h.1, h.2]
  · rw [if_neg h]
    by_cases h2 : a < i ∨ (a = i ∧ b < j)
    · rw [if_pos h2, if_pos (by omega)]
    · rw [if_neg h2, if_neg (by omega)]
theorem fillT_next (R C i : Nat) (f : Nat → Nat → UInt8) : fillT R C f i C = fillT R C f (i + 1) 0 := by
  refine grid_congr fun a b _ hb => ?_
  by_cases h : a < i ∨ (a = i ∧ b < C)
  · rw [if_pos h, if_pos (by omega)]
  · rw [if_neg h, if_neg (by omega)]
theorem fillT_end (R C : Nat) (f : Nat → Nat → UInt8) : fillT R C f R 0 = gridD R C f := grid_congr fun a b ha _ => if_pos (by omega)
theorem fillT_length (R C i j : Nat) (f : Nat → Nat → UInt8) : (fillT R C f i j).length = R * C := grid_length _ _ _
theorem fillT_at {R C i j : Nat} (f : Nat → Nat → UInt8) (hi : i < R) (hj : j < C) : (fillT R C f i j).set (i * C + j) 0 = fillT R C f i j := by
  unfold fillT
  rw [grid_set _ _ hi hj]
  refine grid_congr fun a b _ _ => ?_
  by_cases h : a = i ∧ b = j
  · rw [if_pos h, if_neg (by omega)]
  · rw [if_neg h]
/-- filled column by column up to (i, j): column j as far as row i -/
def fillC (R C : Nat) (f : Nat → Nat → UInt8) (j i : Nat) : List UInt8 := gridD R C (fun a b => if b < j ∨ (b = j ∧ a < i) then f a b else 0)
theorem fillC_start (R C : Nat) (f : Nat → Nat → UInt8) : List.replicate (R * C) 0 = fillC R C f 0 0 := by
  rw [grid_zero]
  exact grid_congr fun i j _ _ => (if_neg (by omega)).symm
theorem fillC_set {R C i j : Nat} (f : Nat → Nat → UInt8) (hi : i < R) (hj : j < C) : (fillC R C f j i).set (i * C + j) (f i j) = fillC R C f j (i + 1) := by
  unfold fillC
  rw [grid_set _ _ hi hj]
  refine grid_congr fun a b _ _ => ?_
  by_cases h : a = i ∧ b = j
  · rw [if_pos h, if_pos (by omega), h.1, h.2]
  · rw [if_neg h]
    by_cases h2 : b < j ∨ (b = j ∧ a < i)
    · rw [if_pos h2, if_pos (by omega)]
    · rw [if_neg h2, if_neg (by omega)]
theorem fillC_next (R C j : Nat) (f : Nat → Nat → UInt8) : fillC R C f j R = fillC R C f (j + 1) 0 := by
  refine grid_congr fun a b ha _ => ?_
  by_cases h : b < j ∨ (b = j ∧ a < R)
  · rw [if_pos h, if_pos (by omega)]
  · rw [if_neg h, if_neg (by omega)]
theorem fillC_end (R C : Nat) (f : Nat → Nat → UInt8) : fillC R C f C 0 = gridD R C f := grid_congr fun a b _ hb => if_pos (by omega)
theorem fillC_length (R C i j : Nat) (f : Nat → Nat → UInt8) : (fillC R C f i j).length = R * C := grid_length _ _ _

/-! sums -/
def sumF : Nat → (Nat → UInt8) → UInt8
  | 0, _ => 0
  | n + 1, f => Gf.add (sumF n f) (f n)
theorem sumF_congr {n : Nat} {f g : Nat → UInt8} (h : ∀ i, i < n → f i = g i) : sumF n f = sumF n g := by
  induction n with
  | zero => rfl
  | succ n ih => rw [sumF, sumF, ih (fun i hi => h i (by omega)), h n (by omega)]
theorem sumF_add (n : Nat) (f g : Nat → UInt8) : sumF n (fun i => Gf.add (f i) (g i)) = Gf.add (sumF n f) (sumF n g) := by
  induction n with
  | zero => exact (Gf.zero_add 0).symm
  | succ n ih => simp only [sumF, ih]; rw [Gf.add_assoc, Gf.add_assoc, Gf.add_left_comm (sumF n g)]
theorem sumF_zero (n : Nat) : sumF n (fun _ => 0) = 0 := by
  induction n with
  | zero => rfl
  | succ n ih => rw [sumF, ih]; rfl
theorem sumF_mul (n : Nat) (c : UInt8) (f : Nat → UInt8) : Gf.mul c (sumF n f) = sumF n (fun i => Gf.mul c (f i)) := by
  induction n with
  | zero => exact Gf.mul_zero c
  | succ n ih => rw [sumF, sumF, Gf.mul_add, ih]
theorem sumF_mul_right (n : Nat) (c : UInt8) (f : Nat → UInt8) : Gf.mul (sumF n f) c = sumF n (fun i => Gf.mul (f i) c) := by
  rw [Gf.mul_comm, sumF_mul]
  exact sumF_congr fun i _ => Gf.mul_comm _ _
theorem sumF_swap (m n : Nat) (f : Nat → Nat → UInt8) : sumF m (fun i => sumF n (fun j => f i j)) = sumF n (fun j => sumF m (fun i => f i j)) := by
  induction m with
  | zero => rw [sumF]; exact (sumF_zero n).symm
  | succ m ih => simp only [sumF]; rw [ih, ← sumF_add]
/-- only the entry k counts -/
theorem sumF_one {n k : Nat} (hk : k < n) {f : Nat → UInt8} (h : ∀ i, i < n → i ≠ k → f i = 0) : sumF n f = f k := by
  induction n with
  | zero => omega
  | succ n ih =>
    rw [sumF]
    by_cases e : k = n
    · subst e
      rw [sumF_congr (g := fun _ => 0) (fun i hi => h i (by omega) (by omega)), sumF_zero, Gf.zero_add]
    · rw [ih (by omega) (fun i hi hne => h i (by omega) hne), h n (by omega) (fun h => e h.symm), Gf.add_zero]
/-- a sum over m times n places -/
theorem sumF_split (n : Nat) (f : Nat → UInt8) : ∀ m, sumF (m * n) f = sumF m (fun i => sumF n (fun j => f (i * n + j)))
  | 0 => by rw [Nat.zero_mul]; rfl
  | m + 1 => by
    rw [sumF, ← sumF_split n f m, Nat.add_mul, Nat.one_mul]
    generalize m * n = k
    induction n with
    | zero => rw [sumF, Gf.add_zero]; rfl
    | succ n ih => rw [← Nat.add_assoc, sumF, sumF, ih, Gf.add_assoc]
theorem dotTo_sum (xs ys : List UInt8) : ∀ n, Gf.dotTo xs ys n = sumF n (fun k => Gf.mul (xs.getD k 0) (ys.getD k 0))
  | 0 => rfl
  | n + 1 => by rw [Gf.dotTo, sumF, dotTo_sum xs ys n]
theorem dot_sum {xs ys : List UInt8} {n : Nat} (h : xs.length = n) : Gf.dot xs ys = sumF n (fun k => Gf.mul (xs.getD k 0) (ys.getD k 0)) := by
  unfold Gf.dot; rw [h, dotTo_sum]
end Go.Proofs.Ytgcgajeagdaenaa
