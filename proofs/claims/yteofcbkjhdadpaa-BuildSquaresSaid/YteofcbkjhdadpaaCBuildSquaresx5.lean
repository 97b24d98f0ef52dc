-- Out of the translation, by this session's turn of the print (wip/gp.py).
import Derived.Test.YteofcbkjhdadpaaCBuildSquaresx0
import Derived.Test.YteofcbkjhdadpaaCBuildSquaresx2
import Derived.Test.YteofcbkjhdadpaaCBuildSquaresx3
import Derived.Test.YteofcbkjhdadpaaCBuildSquaresx4
namespace Go.Proofs.Yteofcbkjhdadpaa.Pr
open Go.RowKit Go.Proofs.YteofcbkjhdadpaaW.PrintWords Go.Proofs.YteofcbkjhdadpaaW.PrintLast Go.Proofs.YteofcbkjhdadpaaW.PrintMore
attribute [local go_sem] max2_int min2_int max_two min_two max_three min_three max_four min_four   -- for this text's walks alone
set_option linter.unusedVariables false
set_option linter.unusedSimpArgs false

mutual
def recoupref04_Solve.j0 : Nat → List Int → Bool → Int → Int → List Int → Option (List Int × Bool × Int)
  | 0, _, _, _, _, _ => none
  | k + 1, x1, x24, x207000, x207001, x207002 => if x24 = true then (some (([] : List Int), false, 3)) else (recoupref04_Solve.l0 k x1 0 x207000 x207001 x207002 x207000 (wrap64 (x207001 + 1)) ([] : List Int))
def recoupref04_Solve.l0 : Nat → List Int → Int → Int → Int → List Int → Int → Int → List Int → Option (List Int × Bool × Int)
  | 0, _, _, _, _, _, _, _, _ => none
  | k + 1, x1, x8, x207000, x207001, x207002, x209000, x209001, x209002 => if x8 < x207000 then ((recoupref03_Row.f k x207000 x207001 x207002 x8).bind fun bt209 => (if x209002.length + bt209.1.length < 140737488355328 then ((some (x209002 ++ bt209.1 : List Int)).bind fun y213 => (if 0 ≤ x8 then (if x8 < (x1.length : Int) then ((some (([rd x1 x8] : List Int) : List Int)).bind fun y217 => (if y213.length + y217.length < 140737488355328 then (recoupref04_Solve.l0 k x1 (wrap64 (x8 + 1)) x207000 x207001 x207002 x209000 x209001 (y213 ++ y217)) else (none))) else (none)) else (none))) else (none))) else ((recoupref04_wide.f k x209000 x209001 x209002).bind fun bt223 => (if 0 ≤ x207001 then (if (x207001 : Int).toNat ≤ 281474976710656 then (recoupref04_Solve.l1 k bt223.2.2.2 (List.replicate (x207001 : Int).toNat 0) 0 x207000 x207001 x207002 bt223.1 bt223.2.1 bt223.2.2.1) else (none)) else (none)))
def recoupref04_Solve.l1 : Nat → List Int → List Int → Int → Int → Int → List Int → Int → Int → List Int → Option (List Int × Bool × Int)
  | 0, _, _, _, _, _, _, _, _, _ => none
  | k + 1, x12, x13, x14, x207000, x207001, x207002, x232000, x232001, x232002 => if x14 < (x12.length : Int) then (if 0 ≤ x14 then (if (rd x12 x14) = x207001 then (some (([] : List Int), false, 0)) else ((recoupref03_At.f x232000 x232001 x232002 x14 x207001).bind fun t237 => (if 0 ≤ (rd x12 x14) then (if (rd x12 x14) < (x13.length : Int) then (recoupref04_Solve.l1 k x12 (x13.set ((rd x12 x14) : Int).toNat t237) (wrap64 (x14 + 1)) x207000 x207001 x207002 x232000 x232001 x232002) else (none)) else (none)))) else (none)) else (some (x13, true, 0))
end
def recoupref04_Solve.f (k : Nat) (a0_0 : Int) (a0_1 : Int) (l0_2 : List Int) (l1 : List Int) : Option (List Int × Bool × Int) := (recoupref03_Right.f a0_0 a0_1 l0_2).bind fun t207 => (if t207 = true then (recoupref04_Solve.j0 k l1 ((l1.length : Int) != a0_0) a0_0 a0_1 l0_2) else (recoupref04_Solve.j0 k l1 true a0_0 a0_1 l0_2))
end Go.Proofs.Yteofcbkjhdadpaa.Pr
