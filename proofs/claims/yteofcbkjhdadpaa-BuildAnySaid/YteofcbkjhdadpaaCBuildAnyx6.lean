import Derived.Test.YteofcbkjhdadpaaCBuildAnyx0
import Derived.Test.YteofcbkjhdadpaaCBuildAnyx1
import Derived.Test.YteofcbkjhdadpaaCBuildAnyx2
import Derived.Test.YteofcbkjhdadpaaCBuildAnyx5
set_option linter.unusedSimpArgs false
set_option linter.unusedVariables false
namespace Go.Proofs.Yteofcbkjhdadpaa.Pr
open Go.RowKit Go.Proofs.aD.aT Go.Proofs.aD.cY Go.Proofs.aD.eR
attribute [local go_sem] gP gM iU iT fF fE gN gL   -- for this text's walks alone
mutual
def fD.j0 : Nat → Bool → Int → Int → List Int → Option (Int × Int × List Int × Int)
 | 0, _, _, _, _ => none
 | k + 1, Z4, gS, pF, pE => if Z4 = true then (some (0, 0, ([] : List Int), 3)) else ((bQ.f gS pF pE).bind fun a3m => (if a3m.1 < gS then (some (0, 0, ([] : List Int), 6)) else ((dN.f gS gS).bind fun UJ => (fD.l0 k 0 gS pF pE UJ.1 UJ.2.1 UJ.2.2))))
def fD.l0 : Nat → Int → Int → Int → List Int → Int → Int → List Int → Option (Int × Int × List Int × Int)
 | 0, _, _, _, _, _, _, _ => none
 | k + 1, x7, gS, pF, pE, xB, xA, tJ => if x7 < gS then (if 0 ≤ gS then (if (gS : Int).toNat ≤ 281474976710656 then ((some (List.replicate (gS : Int).toNat 0 : List Int)).bind fun y250 => (if 0 ≤ x7 then (if x7 < (y250.length : Int) then ((dE.f k gS pF pE (y250.set (x7 : Int).toNat 1)).bind fun a3l => (fD.l1 k x7 a3l.1 0 gS pF pE xB xA tJ)) else (none)) else (none))) else (none)) else (none)) else (some (xB, xA, tJ, 0))
def fD.l1 : Nat → Int → List Int → Int → Int → Int → List Int → Int → Int → List Int → Option (Int × Int × List Int × Int)
 | 0, _, _, _, _, _, _, _, _, _ => none
 | k + 1, x7, x9, KW, gS, pF, pE, xB, xA, tJ => if KW < gS then (if 0 ≤ KW then (if KW < (x9.length : Int) then (if 0 ≤ (wrap64 ((wrap64 (KW * gS)) + x7)) then (if (wrap64 ((wrap64 (KW * gS)) + x7)) < (tJ.length : Int) then (fD.l1 k x7 x9 (wrap64 (KW + 1)) gS pF pE xB xA (tJ.set ((wrap64 ((wrap64 (KW * gS)) + x7)) : Int).toNat (rd x9 KW))) else (none)) else (none)) else (none)) else (none)) else (fD.l0 k (wrap64 (x7 + 1)) gS pF pE xB xA tJ)
end
def qM.f (l0 : List Int) : Option (List Int) := (some (([] : List Int) : List Int)).bind fun y261 => (if y261.length + l0.length < 140737488355328 then (some (y261 ++ l0)) else (none))
end Go.Proofs.Yteofcbkjhdadpaa.Pr
