-- Out of the translation, by this session's turn of the print (wip/gp.py).
import Derived.Test.YteofcbkjhdadpaaCBuildSquaresx0
import Derived.Test.YteofcbkjhdadpaaCBuildSquaresx1
import Derived.Test.YteofcbkjhdadpaaCBuildSquaresx2
import Derived.Test.YteofcbkjhdadpaaCBuildSquaresx6
namespace Go.Proofs.Yteofcbkjhdadpaa.Pr
open Go.RowKit Go.Proofs.YteofcbkjhdadpaaW.PrintWords Go.Proofs.YteofcbkjhdadpaaW.PrintLast Go.Proofs.YteofcbkjhdadpaaW.PrintMore
attribute [local go_sem] max2_int min2_int max_two min_two max_three min_three max_four min_four   -- for this text's walks alone
set_option linter.unusedVariables false
set_option linter.unusedSimpArgs false

def recoupref03_Identity.l0 : Nat → Int → Int → Int → Int → Int → List Int → Option (Int × Int × List Int × Int)
  | 0, _, _, _, _, _, _ => none
  | k + 1, x0, x5, x6, x384000, x384001, x384002 => if x6 < x0 then (if x5 = 0 then (if 0 ≤ (wrap64 ((wrap64 (x6 * x0)) + x6)) then (if (wrap64 ((wrap64 (x6 * x0)) + x6)) < (x384002.length : Int) then (recoupref03_Identity.l0 k x0 x5 (wrap64 (x6 + 1)) x384000 x384001 (x384002.set ((wrap64 ((wrap64 (x6 * x0)) + x6)) : Int).toNat 1)) else (none)) else (none)) else (some (x384000, x384001, x384002, x5))) else (some (x384000, x384001, x384002, x5))
def recoupref03_Identity.f (k : Nat) (a0 : Int) : Option (Int × Int × List Int × Int) := (recoupref03_Make.f a0 a0).bind fun bt377 => (recoupref03_Identity.l0 k a0 bt377.2.2.2 0 bt377.1 bt377.2.1 bt377.2.2.1)
def recoupref03_Stack.j0 : Nat → Bool → Int → Int → List Int → Int → Int → List Int → Option (Int × Int × List Int × Int)
  | 0, _, _, _, _, _, _, _ => none
  | k + 1, x20, x386000, x386001, x386002, x387000, x387001, x387002 => if x20 = true then (some (0, 0, ([] : List Int), 3)) else (if (wrap64 (x386000 + x387000)) > 64 then (some (0, 0, ([] : List Int), 4)) else ((recoupref01_Copy.f x386002).bind fun t390 => (if t390.length + x387002.length < 140737488355328 then (some (wrap64 (x386000 + x387000), x386001, (t390 ++ x387002), 0)) else (none))))
def recoupref03_Stack.f (k : Nat) (a0_0 : Int) (a0_1 : Int) (l0_2 : List Int) (a1_0 : Int) (a1_1 : Int) (l1_2 : List Int) : Option (Int × Int × List Int × Int) := (recoupref03_Right.f a0_0 a0_1 l0_2).bind fun t388 => (if t388 = true then ((recoupref03_Right.f a1_0 a1_1 l1_2).bind fun t389 => (if t389 = true then (recoupref03_Stack.j0 k (a0_1 != a1_1) a0_0 a0_1 l0_2 a1_0 a1_1 l1_2) else (recoupref03_Stack.j0 k true a0_0 a0_1 l0_2 a1_0 a1_1 l1_2))) else (recoupref03_Stack.j0 k true a0_0 a0_1 l0_2 a1_0 a1_1 l1_2))
end Go.Proofs.Yteofcbkjhdadpaa.Pr
