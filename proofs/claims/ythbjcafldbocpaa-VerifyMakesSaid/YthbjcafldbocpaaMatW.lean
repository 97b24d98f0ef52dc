/- Words on matrices. -/
import Derived.Test.YthbjcafldbocpaaWords
import Derived.Test.YthbjcafldbocpaaMem
namespace Go.Proofs.Ythbjcafldbocpaa
open Go.RowKit
set_option linter.unusedVariables false
set_option linter.unusedSimpArgs false

/-- a matrix as a value -/
abbrev mV (r c : Int) (A : Option Addr) (n cap : Nat) : Value := .agg #[.int .i64 r, .int .i64 c, .slice A n cap]
def sideB (n : Int) : Bool := decide (0 ≤ n ∧ n ≤ 64)
/-- is it right -/
def rightB (r c : Int) (n : Nat) : Bool := decide ((0 ≤ r ∧ r ≤ 64) ∧ (0 ≤ c ∧ c ≤ 64) ∧ (n : Int) = r * c)
theorem sideB_nat {n : Nat} (h : n ≤ 64) : sideB (n : Int) = true := by simp [sideB]; omega
theorem prod_bd {r c : Int} (h1 : 0 ≤ r) (h2 : r ≤ 64) (h3 : 0 ≤ c) (h4 : c ≤ 64) : 0 ≤ r * c ∧ r * c ≤ 4096 := by
  refine ⟨Int.mul_nonneg h1 h3, ?_⟩
  have := Int.mul_le_mul h2 h4 h3 (by omega)
  omega
end Go.Proofs.Ythbjcafldbocpaa
