/- Words: the product of two matrices. -/
import Derived.Test.YtgcgajeagdaenaaTurn
import Derived.Test.YtgcgajeagdaenaaMatW
namespace Go.Proofs.Ytgcgajeagdaenaa
open Go.RowKit
set_option linter.unusedVariables false
set_option linter.unusedSimpArgs false

def mulF (ca cb : Nat) (xs ys : List UInt8) (i j : Nat) : UInt8 := sumF ca fun k => Gf.mul (xs.getD (i * ca + k) 0) (ys.getD (k * cb + j) 0)
def mulG (ra ca cb : Nat) (xs ys : List UInt8) : List UInt8 := gridD ra cb (mulF ca cb xs ys)
theorem dot_rows {ra ca cb i j : Nat} {xs ys : List UInt8} (hx : xs.length = ra * ca) (hi : i < ra) (hj : j < cb) :
    Gf.dot ((xs.drop (i * ca)).take ca) (((turnD ca cb ys).drop (j * ca)).take ca) = mulF ca cb xs ys i j := by
  have hl : ((xs.drop (i * ca)).take ca).length = ca := by
    rw [List.length_take, List.length_drop, hx]
    have h : (i + 1) * ca ≤ ra * ca := Nat.mul_le_mul_right ca hi
    rw [Nat.add_mul] at h
    omega
  rw [dot_sum hl]
  unfold mulF turnD
  rw [grid_row _ hj]
  refine sumF_congr fun k hk => ?_
  congr 1
  · rw [List.getD_eq_getElem?_getD, List.getElem?_take, if_pos hk, List.getElem?_drop, List.getD_eq_getElem?_getD]
  · rw [List.getD_eq_getElem?_getD, List.getElem?_map, List.getElem?_range hk]
    rfl
theorem turnD_length (r c : Nat) (xs : List UInt8) : (turnD r c xs).length = c * r := grid_length _ _ _
def mulB (ra ca : Int) (n : Nat) (rb cb : Int) (m : Nat) : Bool := rightB ra ca n && rightB rb cb m && (ca == rb)
end Go.Proofs.Ytgcgajeagdaenaa
