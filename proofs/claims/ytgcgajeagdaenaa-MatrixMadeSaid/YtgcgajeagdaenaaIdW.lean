/- Plain: the identity's entries, one after the other. -/
namespace Go.Proofs.Ytgcgajeagdaenaa
def idTo (n : Nat) : Nat → List UInt8
  | 0 => List.replicate (n * n) 0
  | i + 1 => (idTo n i).set (i * n + i) 1
theorem idTo_length (n i : Nat) : (idTo n i).length = n * n := by
  induction i with
  | zero => simp [idTo]
  | succ i ih => simp [idTo, ih]
theorem diag_lt {n i : Nat} (h : i < n) : i * n + i < n * n := by
  have : (i + 1) * n ≤ n * n := Nat.mul_le_mul_right n h
  rw [Nat.add_mul] at this
  omega
end Go.Proofs.Ytgcgajeagdaenaa
