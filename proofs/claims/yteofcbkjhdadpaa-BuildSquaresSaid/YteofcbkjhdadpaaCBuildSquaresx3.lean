-- Out of the translation, by this session's turn of the print (wip/gp.py).
import Derived.Test.YteofcbkjhdadpaaCBuildSquaresx0
import Derived.Test.YteofcbkjhdadpaaCBuildSquaresx2
namespace Go.Proofs.Yteofcbkjhdadpaa.Pr
open Go.RowKit Go.Proofs.YteofcbkjhdadpaaW.PrintWords Go.Proofs.YteofcbkjhdadpaaW.PrintLast Go.Proofs.YteofcbkjhdadpaaW.PrintMore
attribute [local go_sem] max2_int min2_int max_two min_two max_three min_three max_four min_four   -- for this text's walks alone
set_option linter.unusedVariables false
set_option linter.unusedSimpArgs false

mutual
def recoupref03_Row.j0 : Nat → Int → Bool → Int → Int → List Int → Option (List Int × Int)
  | 0, _, _, _, _, _ => none
  | k + 1, x1, x18, x183000, x183001, x183002 => if x18 = true then (some (([] : List Int), 2)) else (recoupref03_Row.l0 k x1 ([] : List Int) 0 x183000 x183001 x183002)
def recoupref03_Row.l0 : Nat → Int → List Int → Int → Int → Int → List Int → Option (List Int × Int)
  | 0, _, _, _, _, _, _ => none
  | k + 1, x1, x6, x7, x183000, x183001, x183002 => if x7 < x183001 then ((recoupref03_At.f x183000 x183001 x183002 x1 x7).bind fun t184 => (if x6.length < 140737488355328 then (recoupref03_Row.l0 k x1 (x6 ++ [t184]) (wrap64 (x7 + 1)) x183000 x183001 x183002) else (none))) else (some (x6, 0))
end
def recoupref03_Row.f (k : Nat) (a0_0 : Int) (a0_1 : Int) (l0_2 : List Int) (a1 : Int) : Option (List Int × Int) := (recoupref03_Right.f a0_0 a0_1 l0_2).bind fun t183 => (if t183 = true then (if a1 < 0 then (recoupref03_Row.j0 k a1 true a0_0 a0_1 l0_2) else (recoupref03_Row.j0 k a1 (decide (a1 ≥ a0_0)) a0_0 a0_1 l0_2)) else (some (([] : List Int), 3)))
-- given: function 46 (recoupref01_Inv)

end Go.Proofs.Yteofcbkjhdadpaa.Pr
