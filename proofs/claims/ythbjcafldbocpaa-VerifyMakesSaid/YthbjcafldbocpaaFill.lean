/- Plain: a list that is filled place by place. -/
namespace Go.Proofs.Ythbjcafldbocpaa

def fillTo (f : Nat → UInt8) (n i : Nat) : List UInt8 := (List.range i).map f ++ List.replicate (n - i) 0
theorem fill_len (f : Nat → UInt8) {n i : Nat} (h : i ≤ n) : (fillTo f n i).length = n := by simp [fillTo]; omega
theorem fill_zero (f : Nat → UInt8) (n : Nat) : fillTo f n 0 = List.replicate n 0 := by simp [fillTo]
theorem fill_all (f : Nat → UInt8) (n : Nat) : fillTo f n n = (List.range n).map f := by simp [fillTo]
theorem fill_set (f : Nat → UInt8) {n i : Nat} (h : i < n) : (fillTo f n i).set i (f i) = fillTo f n (i + 1) := by
  unfold fillTo
  have hl : ((List.range i).map f).length = i := by simp
  rw [List.set_append_right _ _ (by omega), hl, Nat.sub_self]
  obtain ⟨k, hk⟩ : ∃ k, n - i = k + 1 := ⟨n - i - 1, by omega⟩
  rw [hk, List.replicate_succ, List.set_cons_zero, List.range_succ, List.map_append, List.append_assoc]
  congr 2
  simp
  omega
theorem fill_get (f : Nat → UInt8) {n i j : Nat} (hj : j < i) : (fillTo f n i)[j]? = some (f j) := by
  unfold fillTo
  rw [List.getElem?_append_left (by simpa using hj)]
  simp [hj]
theorem range_map_get (xs : List UInt8) (g : UInt8 → UInt8) : (List.range xs.length).map (fun j => g (xs.getD j 0)) = xs.map g := by
  apply List.ext_getElem?
  intro j
  by_cases h : j < xs.length
  · simp [h, List.getD]
  · simp [h]
theorem range_map_get2 (xs ys : List UInt8) (g : UInt8 → UInt8 → UInt8) (h : xs.length = ys.length) : (List.range xs.length).map (fun j => g (xs.getD j 0) (ys.getD j 0)) = List.zipWith g xs ys := by
  apply List.ext_getElem?
  intro j
  by_cases hj : j < xs.length
  · have hj' : j < ys.length := by omega
    rw [List.getElem?_zipWith]
    simp [hj, hj', List.getD]
  · have hj' : ¬ j < ys.length := by omega
    rw [List.getElem?_zipWith]
    simp [hj]
/-- a list that is turned place by place: f up to i, the elder list from there on -/
def upTo (f : Nat → UInt8) (ys : List UInt8) (i : Nat) : List UInt8 := (List.range i).map f ++ ys.drop i
theorem up_len (f : Nat → UInt8) {ys : List UInt8} {i : Nat} (h : i ≤ ys.length) : (upTo f ys i).length = ys.length := by simp [upTo]; omega
theorem up_zero (f : Nat → UInt8) (ys : List UInt8) : upTo f ys 0 = ys := by simp [upTo]
theorem up_all (f : Nat → UInt8) (ys : List UInt8) : upTo f ys ys.length = (List.range ys.length).map f := by simp [upTo]
theorem up_set (f : Nat → UInt8) {ys : List UInt8} {i : Nat} (h : i < ys.length) : (upTo f ys i).set i (f i) = upTo f ys (i + 1) := by
  unfold upTo
  have hl : ((List.range i).map f).length = i := by simp
  rw [List.set_append_right _ _ (by omega), hl, Nat.sub_self, List.drop_eq_getElem_cons h, List.set_cons_zero, List.range_succ, List.map_append, List.append_assoc]
  rfl
theorem up_get (f : Nat → UInt8) {ys : List UInt8} {i : Nat} (h : i < ys.length) : (upTo f ys i).getD i 0 = ys.getD i 0 := by
  unfold upTo
  have hl : ((List.range i).map f).length = i := by simp
  simp [List.getD, List.getElem?_append_right, hl, h]
theorem map_getD {xs : List UInt8} (g : UInt8 → UInt8) {i : Nat} (h : i < xs.length) : (xs.map g).getD i 0 = g (xs.getD i 0) := by simp [List.getD, h]
end Go.Proofs.Ythbjcafldbocpaa
