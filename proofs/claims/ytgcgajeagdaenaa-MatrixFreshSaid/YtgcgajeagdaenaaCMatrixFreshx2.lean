-- Out of the translation, by this session's turn of the print (wip/gp.py).
import Derived.Test.YtgcgajeagdaenaaCMatrixFreshx0
namespace Go.Proofs.Ytgcgajeagdaenaa.Pr
open Go.RowKit Go.Proofs.YtgcgajeagdaenaaW.PrintWords Go.Proofs.YtgcgajeagdaenaaW.PrintLast Go.Proofs.YtgcgajeagdaenaaW.PrintMore
attribute [local go_sem] max2_int min2_int max_two min_two max_three min_three max_four min_four   -- for this text's walks alone
set_option linter.unusedVariables false
set_option linter.unusedSimpArgs false

mutual
def recoupref03_Of.l0 : Nat → List (List Int) → Int → Int → Int → Option (Int × Int × List Int × Int)
  | 0, _, _, _, _ => none
  | k + 1, x0, x5, x110000, x110001 => if x5 < (x0.length : Int) then (if 0 ≤ x5 then (if 0 < (x0.length : Int) then (if ((rd_L1 x0 x5).length : Int) = ((rd_L1 x0 0).length : Int) then (recoupref03_Of.l0 k x0 (wrap64 (x5 + 1)) x110000 x110001) else (some (0, 0, ([] : List Int), 3))) else (none)) else (none)) else (if (x0.length : Int) > 0 then (if 0 < (x0.length : Int) then (recoupref03_Of.j1 k x0 x110000 ((rd_L1 x0 0).length : Int)) else (none)) else (recoupref03_Of.j1 k x0 x110000 x110001))
def recoupref03_Of.j1 : Nat → List (List Int) → Int → Int → Option (Int × Int × List Int × Int)
  | 0, _, _, _ => none
  | k + 1, x0, x110000, x110001 => if x110000 > 64 then (recoupref03_Of.j2 k x0 true x110000 x110001) else (recoupref03_Of.j2 k x0 (decide (x110001 > 64)) x110000 x110001)
def recoupref03_Of.j2 : Nat → List (List Int) → Bool → Int → Int → Option (Int × Int × List Int × Int)
  | 0, _, _, _, _ => none
  | k + 1, x0, x42, x110000, x110001 => if x42 = true then (some (0, 0, ([] : List Int), 4)) else (recoupref03_Of.l1 k x0 0 x110000 x110001 ([] : List Int))
def recoupref03_Of.l1 : Nat → List (List Int) → Int → Int → Int → List Int → Option (Int × Int × List Int × Int)
  | 0, _, _, _, _, _ => none
  | k + 1, x0, x6, x110000, x110001, x110002 => if x6 < (x0.length : Int) then (if 0 ≤ x6 then (if x110002.length + (rd_L1 x0 x6).length < 140737488355328 then (recoupref03_Of.l1 k x0 (wrap64 (x6 + 1)) x110000 x110001 (x110002 ++ (rd_L1 x0 x6))) else (none)) else (none)) else (some (x110000, x110001, x110002, 0))
end
end Go.Proofs.Ytgcgajeagdaenaa.Pr
