/- The field of 256 elements on bytes, in plain Lean: products by doubling, powers of 2, exponents, inverses. No program in sight. -/
namespace Go.Proofs.Ythbjcafldbocpaa.Gf

/-- an element times x -/
def dbl (a : UInt8) : UInt8 := if a &&& 128 = 0 then a <<< 1 else (a <<< 1) ^^^ 29
/-- the sum (a name of its own: simp lays '(a ^^^ b).toNat' open) -/
def add (a b : UInt8) : UInt8 := a ^^^ b
/-- the product, by doubling: rounds left, a, b, what has been put together -/
def mulTo : Nat → UInt8 → UInt8 → UInt8 → UInt8
  | 0, _, _, p => p
  | n + 1, a, b, p => mulTo n (dbl a) (b >>> 1) (if b &&& 1 = 0 then p else p ^^^ a)
def mul (a b : UInt8) : UInt8 := mulTo 8 a b 0
/-- the powers of 2 -/
def ex : Nat → UInt8
  | 0 => 1
  | n + 1 => dbl (ex n)
def lgTo : Nat → UInt8 → Nat → UInt8 → Nat
  | 0, _, n, _ => n
  | k + 1, p, n, a => if p = a then n else lgTo k (dbl p) (n + 1) a
def lg (a : UInt8) : Nat := lgTo 255 1 0 a

theorem all_u8 {P : UInt8 → Prop} (h : ∀ n, n < 256 → P (UInt8.ofNat n)) (a : UInt8) : P a := by
  have h1 := h a.toNat a.toNat_lt
  rwa [UInt8.ofNat_toNat] at h1

def dblN (a : Nat) : Nat := if a.testBit 7 then (a <<< 1) ^^^ 285 else a <<< 1
theorem dblN_xor (a b : Nat) : dblN (a ^^^ b) = dblN a ^^^ dblN b := by
  unfold dblN
  rw [Nat.testBit_xor, Nat.shiftLeft_xor_distrib]
  generalize a <<< 1 = x
  generalize b <<< 1 = y
  cases a.testBit 7 <;> cases b.testBit 7 <;> simp
  · rw [Nat.xor_assoc]
  · rw [Nat.xor_assoc, Nat.xor_assoc, Nat.xor_comm y]
  · rw [Nat.xor_assoc, ← Nat.xor_assoc 285 y, Nat.xor_comm 285 y, Nat.xor_assoc y, Nat.xor_self, Nat.xor_zero]
theorem dbl_toNat (a : UInt8) : (dbl a).toNat = dblN a.toNat := by
  revert a
  apply all_u8
  decide +kernel
theorem dbl_xor (a b : UInt8) : dbl (a ^^^ b) = dbl a ^^^ dbl b := by
  apply UInt8.toNat_inj.1
  rw [dbl_toNat, UInt8.toNat_xor, UInt8.toNat_xor, dbl_toNat, dbl_toNat]
  exact dblN_xor _ _
theorem dbl_zero : dbl 0 = 0 := by decide

theorem xor_right_comm (a b c : UInt8) : a ^^^ b ^^^ c = a ^^^ c ^^^ b := by
  rw [UInt8.xor_assoc, UInt8.xor_comm b c, ← UInt8.xor_assoc]
theorem mulTo_acc (n : Nat) : ∀ a b p, mulTo n a b p = p ^^^ mulTo n a b 0 := by
  induction n with
  | zero => intro a b p; simp [mulTo]
  | succ n ih =>
    intro a b p
    simp only [mulTo]
    rw [ih, ih (p := if b &&& 1 = 0 then 0 else 0 ^^^ a)]
    by_cases h : b &&& 1 = 0
    · simp [h]
    · simp [h, UInt8.xor_assoc]
theorem mulTo_dbl (n : Nat) : ∀ a b p, mulTo n (dbl a) b (dbl p) = dbl (mulTo n a b p) := by
  induction n with
  | zero => intro a b p; rfl
  | succ n ih =>
    intro a b p
    simp only [mulTo]
    rw [← ih]
    by_cases h : b &&& 1 = 0
    · simp [h]
    · simp [h, dbl_xor]
theorem mulTo_add (n : Nat) : ∀ a a' b p p', mulTo n (a ^^^ a') b (p ^^^ p') = mulTo n a b p ^^^ mulTo n a' b p' := by
  induction n with
  | zero => intro a a' b p p'; rfl
  | succ n ih =>
    intro a a' b p p'
    simp only [mulTo]
    rw [dbl_xor, ← ih]
    by_cases h : b &&& 1 = 0
    · simp [h]
    · simp only [h, if_false]
      congr 1
      rw [UInt8.xor_assoc, UInt8.xor_assoc]
      congr 1
      rw [← UInt8.xor_assoc, ← UInt8.xor_assoc, UInt8.xor_comm p' a]
theorem mul_dbl (a b : UInt8) : mul (dbl a) b = dbl (mul a b) := by
  unfold mul
  rw [← mulTo_dbl, dbl_zero]
theorem mul_xor_left (a b c : UInt8) : mul (a ^^^ b) c = mul a c ^^^ mul b c := by
  unfold mul
  rw [← mulTo_add, UInt8.xor_zero]
theorem mul_zero_left (b : UInt8) : mul 0 b = 0 := by
  have h := mul_xor_left 0 0 b
  rw [UInt8.xor_self] at h
  rw [h, UInt8.xor_self]
theorem one_mul (b : UInt8) : mul 1 b = b := by
  revert b
  apply all_u8
  decide +kernel
theorem mul_zero (a : UInt8) : mul a 0 = 0 := by
  revert a
  apply all_u8
  decide +kernel

/-! powers of 2 -/
theorem ex_255 : ex 255 = 1 := by decide +kernel
theorem ex_add (m : Nat) (n : Nat) : mul (ex m) (ex n) = ex (m + n) := by
  induction m with
  | zero => simp [ex, one_mul]
  | succ m ih =>
    rw [Nat.add_right_comm]
    simp only [ex]
    rw [mul_dbl, ih]
theorem ex_period (n : Nat) : ex (n + 255) = ex n := by rw [Nat.add_comm, ← ex_add, ex_255, one_mul]
theorem ex_mul (k n : Nat) : ex (n + 255 * k) = ex n := by
  induction k with
  | zero => rfl
  | succ k ih => rw [Nat.mul_succ, ← Nat.add_assoc, ex_period, ih]
theorem ex_mod (n : Nat) : ex (n % 255) = ex n := by
  conv => rhs; rw [← Nat.mod_add_div n 255]
  rw [ex_mul]
theorem lg_lt : ∀ n, n < 256 → UInt8.ofNat n ≠ 0 → lg (UInt8.ofNat n) < 255 ∧ ex (lg (UInt8.ofNat n)) = UInt8.ofNat n := by decide +kernel
theorem lg_bd {a : UInt8} (h : a ≠ 0) : lg a < 255 := (all_u8 (P := fun a => a ≠ 0 → lg a < 255 ∧ ex (lg a) = a) lg_lt a h).1
theorem ex_lg {a : UInt8} (h : a ≠ 0) : ex (lg a) = a := (all_u8 (P := fun a => a ≠ 0 → lg a < 255 ∧ ex (lg a) = a) lg_lt a h).2
theorem lg_ex' : ∀ n, n < 255 → lg (ex n) = n := by decide +kernel
theorem lg_ex (n : Nat) : lg (ex n) = n % 255 := by
  rw [← ex_mod]
  exact lg_ex' _ (Nat.mod_lt _ (by decide))
theorem ex_ne' : ∀ n, n < 255 → ex n ≠ 0 := by decide +kernel
theorem ex_ne (n : Nat) : ex n ≠ 0 := by
  rw [← ex_mod]
  exact ex_ne' _ (Nat.mod_lt _ (by decide))
theorem ex_inj {m n : Nat} (h : ex m = ex n) : m % 255 = n % 255 := by rw [← lg_ex, ← lg_ex, h]

theorem mul_eq {a b : UInt8} (ha : a ≠ 0) (hb : b ≠ 0) : mul a b = ex (lg a + lg b) := by
  conv => lhs; rw [← ex_lg ha, ← ex_lg hb]
  exact ex_add _ _
theorem mul_comm (a b : UInt8) : mul a b = mul b a := by
  by_cases ha : a = 0
  · subst ha; rw [mul_zero_left, mul_zero]
  by_cases hb : b = 0
  · subst hb; rw [mul_zero_left, mul_zero]
  rw [mul_eq ha hb, mul_eq hb ha, Nat.add_comm]
theorem mul_ne {a b : UInt8} (ha : a ≠ 0) (hb : b ≠ 0) : mul a b ≠ 0 := by
  rw [mul_eq ha hb]; exact ex_ne _
theorem mul_eq_zero (a b : UInt8) : mul a b = 0 ↔ a = 0 ∨ b = 0 := by
  constructor
  · intro h
    by_cases ha : a = 0
    · exact .inl ha
    by_cases hb : b = 0
    · exact .inr hb
    exact absurd h (mul_ne ha hb)
  · rintro (h | h)
    · subst h; exact mul_zero_left _
    · subst h; exact mul_zero _
theorem lg_mul {a b : UInt8} (ha : a ≠ 0) (hb : b ≠ 0) : lg (mul a b) = (lg a + lg b) % 255 := by
  rw [mul_eq ha hb, lg_ex]
theorem mul_assoc (a b c : UInt8) : mul (mul a b) c = mul a (mul b c) := by
  by_cases ha : a = 0
  · subst ha; simp only [mul_zero_left]
  by_cases hb : b = 0
  · subst hb; simp only [mul_zero_left, mul_zero]
  by_cases hc : c = 0
  · subst hc; simp only [mul_zero]
  rw [mul_eq (mul_ne ha hb) hc, mul_eq ha (mul_ne hb hc), lg_mul ha hb, lg_mul hb hc]
  rw [← ex_mod, ← ex_mod (lg a + _)]
  congr 1
  omega
theorem mul_one (a : UInt8) : mul a 1 = a := by rw [mul_comm, one_mul]
theorem mul_xor (a b c : UInt8) : mul a (b ^^^ c) = mul a b ^^^ mul a c := by
  rw [mul_comm, mul_xor_left, mul_comm b, mul_comm c]
theorem mul_two (a : UInt8) : mul a 2 = dbl a := by
  have h : (2 : UInt8) = dbl 1 := by decide
  rw [mul_comm, h, mul_dbl, one_mul]

theorem add_comm (a b : UInt8) : add a b = add b a := UInt8.xor_comm _ _
theorem add_assoc (a b c : UInt8) : add (add a b) c = add a (add b c) := UInt8.xor_assoc _ _ _
theorem add_self (a : UInt8) : add a a = 0 := UInt8.xor_self
theorem add_zero (a : UInt8) : add a 0 = a := UInt8.xor_zero
theorem zero_add (a : UInt8) : add 0 a = a := UInt8.zero_xor
theorem add_left_comm (a b c : UInt8) : add a (add b c) = add b (add a c) := by rw [← add_assoc, add_comm a b, add_assoc]
theorem add_cancel (a b : UInt8) : add a (add a b) = b := by rw [← add_assoc, add_self, zero_add]
theorem add_eq_zero (a b : UInt8) : add a b = 0 ↔ a = b := by
  constructor
  · intro h
    have := add_cancel a b
    rw [h, add_zero] at this
    exact this
  · rintro rfl; exact add_self _
theorem mul_add (a b c : UInt8) : mul a (add b c) = add (mul a b) (mul a c) := mul_xor _ _ _
theorem add_mul (a b c : UInt8) : mul (add a b) c = add (mul a c) (mul b c) := mul_xor_left _ _ _
theorem mul_left_comm (a b c : UInt8) : mul a (mul b c) = mul b (mul a c) := by rw [← mul_assoc, mul_comm a b, mul_assoc]

/-- the inverse (0 of 0) -/
def inv (a : UInt8) : UInt8 := if a = 0 then 0 else ex (255 - lg a)
theorem inv_ne {a : UInt8} (h : a ≠ 0) : inv a ≠ 0 := by unfold inv; rw [if_neg h]; exact ex_ne _
theorem mul_inv {a : UInt8} (h : a ≠ 0) : mul a (inv a) = 1 := by
  unfold inv
  rw [if_neg h]
  have h1 := ex_add (lg a) (255 - lg a)
  have := lg_bd h
  rw [ex_lg h, show lg a + (255 - lg a) = 0 + 255 * 1 from by omega, ex_mul] at h1
  exact h1
theorem inv_mul {a : UInt8} (h : a ≠ 0) : mul (inv a) a = 1 := by rw [mul_comm, mul_inv h]
theorem inv_unique {a b : UInt8} (h : mul a b = 1) : b = inv a := by
  have ha : a ≠ 0 := by rintro rfl; rw [mul_zero_left] at h; exact absurd h (by decide)
  have := mul_assoc (inv a) a b
  rw [h, inv_mul ha, mul_one, one_mul] at this
  exact this
theorem inv_zero : inv 0 = 0 := rfl

/-- powers with a natural exponent -/
def npow (a : UInt8) : Nat → UInt8
  | 0 => 1
  | n + 1 => mul (npow a n) a
theorem npow_ex {a : UInt8} (h : a ≠ 0) (n : Nat) : npow a n = ex (lg a * n) := by
  induction n with
  | zero => rfl
  | succ n ih =>
    simp only [npow]
    have h1 := ex_add (lg a * n) (lg a)
    rw [ex_lg h] at h1
    rw [ih, h1, Nat.mul_succ]
/-- powers with an int exponent; of 0 with an exponent below 0: 0 -/
def pw (a : UInt8) (n : Int) : UInt8 := if n = 0 then 1 else if a = 0 then 0 else ex (lg a * (n % 255).toNat % 255)
theorem pw_ne {a : UInt8} (h : a ≠ 0) (n : Int) : pw a n = ex (lg a * (n % 255).toNat) := by
  unfold pw
  by_cases hn : n = 0
  · subst hn; rfl
  · rw [if_neg hn, if_neg h, ex_mod]

/-! the document's product: shifted sums, then the remainder -/
def redBit (p i : Nat) : Nat := if p.testBit i then p ^^^ (285 <<< (i - 8)) else p
def redN (p : Nat) : Nat := redBit (redBit (redBit (redBit (redBit (redBit (redBit p 14) 13) 12) 11) 10) 9) 8
theorem redBit_xor (p q i : Nat) : redBit (p ^^^ q) i = redBit p i ^^^ redBit q i := by
  unfold redBit
  rw [Nat.testBit_xor]
  generalize 285 <<< (i - 8) = c
  cases p.testBit i <;> cases q.testBit i <;> simp
  · rw [Nat.xor_assoc]
  · rw [Nat.xor_assoc, Nat.xor_assoc, Nat.xor_comm q c]
  · rw [Nat.xor_assoc, ← Nat.xor_assoc c q c, Nat.xor_comm c q, Nat.xor_assoc q c c, Nat.xor_self, Nat.xor_zero]
theorem redN_xor (p q : Nat) : redN (p ^^^ q) = redN p ^^^ redN q := by unfold redN; simp only [redBit_xor]
def sumTo (a b : Nat) : Nat → Nat
  | 0 => 0
  | n + 1 => if b.testBit n then sumTo a b n ^^^ (a <<< n) else sumTo a b n
def dblNs : Nat → Nat → Nat
  | 0, a => a
  | n + 1, a => dblN (dblNs n a)
theorem red_shift : ∀ a, a < 256 → ∀ i, i < 8 → redN (a <<< i) = dblNs i a := by decide +kernel
def dblSum (a b : Nat) : Nat → Nat
  | 0 => 0
  | n + 1 => if b.testBit n then dblSum a b n ^^^ dblNs n a else dblSum a b n
theorem red_sum (a b : Nat) (ha : a < 256) : ∀ n, n ≤ 8 → redN (sumTo a b n) = dblSum a b n
  | 0, _ => by show redN 0 = 0; decide
  | n + 1, h => by
    simp only [sumTo, dblSum]
    by_cases hb : b.testBit n = true
    · rw [if_pos hb, if_pos hb, redN_xor, red_sum a b ha n (by omega), red_shift a ha n (by omega)]
    · rw [if_neg hb, if_neg hb, red_sum a b ha n (by omega)]
def dbls : Nat → UInt8 → UInt8
  | 0, a => a
  | n + 1, a => dbl (dbls n a)
theorem dbls_toNat (n : Nat) (a : UInt8) : (dbls n a).toNat = dblNs n a.toNat := by
  induction n with
  | zero => rfl
  | succ n ih => simp only [dbls, dblNs, dbl_toNat, ih]
theorem dbls_succ (n : Nat) (a : UInt8) : dbls n (dbl a) = dbls (n + 1) a := by
  induction n with
  | zero => rfl
  | succ n ih => simp only [dbls] at ih ⊢; rw [ih]
def shs : Nat → UInt8 → UInt8
  | 0, b => b
  | n + 1, b => shs n b >>> 1
def sumD (a b : UInt8) : Nat → UInt8
  | 0 => 0
  | n + 1 => if b.toNat.testBit n then sumD a b n ^^^ dbls n a else sumD a b n
theorem shs_toNat (k : Nat) (b : UInt8) : (shs k b).toNat = b.toNat / 2 ^ k := by
  induction k with
  | zero => simp [shs]
  | succ k ih =>
    simp only [shs]
    rw [UInt8.toNat_shiftRight, ih]
    simp [Nat.shiftRight_eq_div_pow, Nat.div_div_eq_div_mul, Nat.pow_succ]
theorem shs_bit (k : Nat) (b : UInt8) : shs k b &&& 1 = 0 ↔ ¬ b.toNat.testBit k = true := by
  rw [← UInt8.toNat_inj, UInt8.toNat_and, shs_toNat, Nat.testBit_eq_decide_div_mod_eq]
  show (b.toNat / 2 ^ k) &&& 1 = 0 ↔ _
  rw [Nat.and_one_is_mod]
  simp
theorem mulTo_bits (a b : UInt8) (n : Nat) : ∀ k, mulTo n (dbls k a) (shs k b) (sumD a b k) = sumD a b (k + n) := by
  induction n with
  | zero => intro k; rfl
  | succ n ih =>
    intro k
    have h := ih (k + 1)
    rw [Nat.add_right_comm, Nat.add_assoc] at h
    rw [← h]
    simp only [mulTo]
    have e : (if shs k b &&& 1 = 0 then sumD a b k else sumD a b k ^^^ dbls k a) = sumD a b (k + 1) := by
      simp only [sumD]
      by_cases hb : b.toNat.testBit k = true
      · rw [if_pos hb, if_neg (fun h => (shs_bit k b).1 h hb)]
      · rw [if_neg hb, if_pos ((shs_bit k b).2 hb)]
    rw [e]
    rfl
theorem sumD_toNat (a b : UInt8) (k : Nat) : (sumD a b k).toNat = dblSum a.toNat b.toNat k := by
  induction k with
  | zero => rfl
  | succ k ih =>
    simp only [sumD, dblSum]
    by_cases hb : b.toNat.testBit k = true
    · rw [if_pos hb, if_pos hb, UInt8.toNat_xor, ih, dbls_toNat]
    · rw [if_neg hb, if_neg hb, ih]
theorem ref_mul (a b : UInt8) : redN (sumTo a.toNat b.toNat 8) = (mul a b).toNat := by
  rw [red_sum _ _ a.toNat_lt 8 (Nat.le_refl _), ← sumD_toNat]
  have h := mulTo_bits a b 8 0
  exact congrArg UInt8.toNat h.symm
theorem sumTo_lt (a b : Nat) (ha : a < 256) : ∀ n, n ≤ 8 → sumTo a b n < 2 ^ 15
  | 0, _ => by simp [sumTo]
  | n + 1, h => by
    have ih := sumTo_lt a b ha n (by omega)
    simp only [sumTo]
    have h1 : a <<< n < 2 ^ 15 := by
      rw [Nat.shiftLeft_eq]
      calc a * 2 ^ n ≤ 255 * 2 ^ 7 := Nat.mul_le_mul (by omega) (Nat.pow_le_pow_right (by omega) (by omega))
        _ < 2 ^ 15 := by decide
    by_cases hb : b.testBit n = true
    · rw [if_pos hb]; exact Nat.xor_lt_two_pow ih h1
    · rw [if_neg hb]; exact ih
theorem redBit_lt (p i : Nat) (hi : i ≤ 14) (hp : p < 2 ^ 15) : redBit p i < 2 ^ 15 := by
  unfold redBit
  by_cases hb : p.testBit i = true
  · rw [if_pos hb]
    refine Nat.xor_lt_two_pow hp ?_
    rw [Nat.shiftLeft_eq]
    calc 285 * 2 ^ (i - 8) ≤ 285 * 2 ^ 6 := Nat.mul_le_mul (Nat.le_refl _) (Nat.pow_le_pow_right (by omega) (by omega))
      _ < 2 ^ 15 := by decide
  · rw [if_neg hb]; exact hp
/-- what is left to reduce: the bits from i down to 8 -/
def redFrom : Nat → Nat → Nat
  | 0, p => p
  | n + 1, p => redFrom n (redBit p (n + 8))
theorem redFrom_all (p : Nat) : redFrom 7 p = redN p := rfl

/-! lists -/
/-- dst and c times src, place by place -/
def macL (dst : List UInt8) (c : UInt8) (src : List UInt8) : List UInt8 := List.zipWith (fun d s => add d (mul c s)) dst src
/-- the sum of the first i products -/
def dotTo (xs ys : List UInt8) : Nat → UInt8
  | 0 => 0
  | i + 1 => add (dotTo xs ys i) (mul (xs.getD i 0) (ys.getD i 0))
def dot (xs ys : List UInt8) : UInt8 := dotTo xs ys xs.length
end Go.Proofs.Ythbjcafldbocpaa.Gf
