-- Out of the translation, by this session's turn of the print (wip/gp.py).
import Derived.Test.YteofcbkjhdadpaaCBuildSquaresx0
import Derived.Test.YteofcbkjhdadpaaCBuildSquaresx1
import Derived.Test.YteofcbkjhdadpaaCBuildSquaresx2
namespace Go.Proofs.Yteofcbkjhdadpaa.Pr
open Go.RowKit Go.Proofs.YteofcbkjhdadpaaW.PrintWords Go.Proofs.YteofcbkjhdadpaaW.PrintLast Go.Proofs.YteofcbkjhdadpaaW.PrintMore
attribute [local go_sem] max2_int min2_int max_two min_two max_three min_three max_four min_four   -- for this text's walks alone
set_option linter.unusedVariables false
set_option linter.unusedSimpArgs false

mutual
def recoupref03_Mul.j0 : Nat → Bool → Int → Int → List Int → Int → Int → List Int → Option (Int × Int × List Int × Int)
  | 0, _, _, _, _, _, _, _ => none
  | k + 1, x24, x274000, x274001, x274002, x275000, x275001, x275002 => if x24 = true then (some (0, 0, ([] : List Int), 3)) else ((recoupref03_Zero.f x274000 x275001).bind fun bt278 => (recoupref03_Mul.l0 k 0 x274000 x274001 x274002 x275000 x275001 x275002 bt278.1 bt278.2.1 bt278.2.2))
def recoupref03_Mul.l0 : Nat → Int → Int → Int → List Int → Int → Int → List Int → Int → Int → List Int → Option (Int × Int × List Int × Int)
  | 0, _, _, _, _, _, _, _, _, _, _ => none
  | k + 1, x7, x274000, x274001, x274002, x275000, x275001, x275002, x284000, x284001, x284002 => if x7 < x274000 then (recoupref03_Mul.l1 k x7 0 x274000 x274001 x274002 x275000 x275001 x275002 x284000 x284001 x284002) else (some (x284000, x284001, x284002, 0))
def recoupref03_Mul.l1 : Nat → Int → Int → Int → Int → List Int → Int → Int → List Int → Int → Int → List Int → Option (Int × Int × List Int × Int)
  | 0, _, _, _, _, _, _, _, _, _, _, _ => none
  | k + 1, x7, x8, x274000, x274001, x274002, x275000, x275001, x275002, x284000, x284001, x284002 => if x8 < x275001 then (recoupref03_Mul.l2 k x7 x8 0 x274000 x274001 x274002 x275000 x275001 x275002 x284000 x284001 x284002) else (recoupref03_Mul.l0 k (wrap64 (x7 + 1)) x274000 x274001 x274002 x275000 x275001 x275002 x284000 x284001 x284002)
def recoupref03_Mul.l2 : Nat → Int → Int → Int → Int → Int → List Int → Int → Int → List Int → Int → Int → List Int → Option (Int × Int × List Int × Int)
  | 0, _, _, _, _, _, _, _, _, _, _, _, _ => none
  | k + 1, x7, x8, x9, x274000, x274001, x274002, x275000, x275001, x275002, x284000, x284001, x284002 => if x9 < x274001 then (if 0 ≤ (wrap64 ((wrap64 (x7 * x284001)) + x8)) then (if (wrap64 ((wrap64 (x7 * x284001)) + x8)) < (x284002.length : Int) then ((recoupref03_At.f x274000 x274001 x274002 x7 x9).bind fun t285 => ((recoupref03_At.f x275000 x275001 x275002 x9 x8).bind fun t286 => ((recoupref01_Mul.f t285 t286).bind fun t287 => (recoupref03_Mul.l2 k x7 x8 (wrap64 (x9 + 1)) x274000 x274001 x274002 x275000 x275001 x275002 x284000 x284001 (x284002.set ((wrap64 ((wrap64 (x7 * x284001)) + x8)) : Int).toNat (Go.bits .xor .u8 (rd x284002 (wrap64 ((wrap64 (x7 * x284001)) + x8))) t287)))))) else (none)) else (none)) else (recoupref03_Mul.l1 k x7 (wrap64 (x8 + 1)) x274000 x274001 x274002 x275000 x275001 x275002 x284000 x284001 x284002)
end
def recoupref03_Mul.f (k : Nat) (a0_0 : Int) (a0_1 : Int) (l0_2 : List Int) (a1_0 : Int) (a1_1 : Int) (l1_2 : List Int) : Option (Int × Int × List Int × Int) := (recoupref03_Right.f a0_0 a0_1 l0_2).bind fun t276 => (if t276 = true then ((recoupref03_Right.f a1_0 a1_1 l1_2).bind fun t277 => (if t277 = true then (recoupref03_Mul.j0 k (a0_1 != a1_0) a0_0 a0_1 l0_2 a1_0 a1_1 l1_2) else (recoupref03_Mul.j0 k true a0_0 a0_1 l0_2 a1_0 a1_1 l1_2))) else (recoupref03_Mul.j0 k true a0_0 a0_1 l0_2 a1_0 a1_1 l1_2))
end Go.Proofs.Yteofcbkjhdadpaa.Pr
