import Derived.Test.YteofcbkjhdadpaaCBuildAnyx0
import Derived.Test.YteofcbkjhdadpaaCBuildAnyx1
import Derived.Test.YteofcbkjhdadpaaCBuildAnyx6
set_option linter.unusedSimpArgs false
set_option linter.unusedVariables false
namespace Go.Proofs.Yteofcbkjhdadpaa.Pr
open Go.RowKit Go.Proofs.aD.aT Go.Proofs.aD.cY Go.Proofs.aD.eR
attribute [local go_sem] gP gM iU iT fF fE gN gL   -- for this text's walks alone
mutual
def bT.j0 : Nat → List Int → List Int → Bool → Option (Int × Int × List Int × Int)
 | 0, _, _, _ => none
 | k + 1, x0, x1, x19 => if x19 = true then (some (0, 0, ([] : List Int), 4)) else ((qM.f x0).bind fun a10 => (if a10.length + x1.length < 140737488355328 then (bT.l0 k x0 x1 (a10 ++ x1) 0) else (none)))
def bT.l0 : Nat → List Int → List Int → List Int → Int → Option (Int × Int × List Int × Int)
 | 0, _, _, _, _ => none
 | k + 1, x0, x1, x6, x7 => if x7 < (x6.length : Int) then (bT.l1 k x0 x1 x6 x7 0) else ((dN.f (x0.length : Int) (x1.length : Int)).bind fun UH => (bT.l2 k x0 x1 0 UH.1 UH.2.1 UH.2.2))
def bT.l1 : Nat → List Int → List Int → List Int → Int → Int → Option (Int × Int × List Int × Int)
 | 0, _, _, _, _, _ => none
 | k + 1, x0, x1, x6, x7, x8 => if x8 < x7 then (if 0 ≤ x7 then (if x7 < (x6.length : Int) then (if 0 ≤ x8 then (if x8 < (x6.length : Int) then (if (rd x6 x7) = (rd x6 x8) then (some (0, 0, ([] : List Int), 2)) else (bT.l1 k x0 x1 x6 x7 (wrap64 (x8 + 1)))) else (none)) else (none)) else (none)) else (none)) else (bT.l0 k x0 x1 x6 (wrap64 (x7 + 1)))
def bT.l2 : Nat → List Int → List Int → Int → Int → Int → List Int → Option (Int × Int × List Int × Int)
 | 0, _, _, _, _, _, _ => none
 | k + 1, x0, x1, N2, x3, pC, tI => if N2 < (x0.length : Int) then (bT.l3 k x0 x1 N2 0 x3 pC tI) else (some (x3, pC, tI, 0))
def bT.l3 : Nat → List Int → List Int → Int → Int → Int → Int → List Int → Option (Int × Int × List Int × Int)
 | 0, _, _, _, _, _, _, _ => none
 | k + 1, x0, x1, N2, J1, x3, pC, tI => if J1 < (x1.length : Int) then (if 0 ≤ N2 then (if N2 < (x0.length : Int) then (if 0 ≤ J1 then ((jH.f (Go.bits .xor .u8 (rd x0 N2) (rd x1 J1))).bind fun a3k => (if 0 ≤ (wrap64 ((wrap64 (N2 * pC)) + J1)) then (if (wrap64 ((wrap64 (N2 * pC)) + J1)) < (tI.length : Int) then (bT.l3 k x0 x1 N2 (wrap64 (J1 + 1)) x3 pC (tI.set ((wrap64 ((wrap64 (N2 * pC)) + J1)) : Int).toNat a3k.1)) else (none)) else (none))) else (none)) else (none)) else (none)) else (bT.l2 k x0 x1 (wrap64 (N2 + 1)) x3 pC tI)
end
def bT.f (k : Nat) (l0 : List Int) (l1 : List Int) : Option (Int × Int × List Int × Int) := if (l0.length : Int) > 64 then (bT.j0 k l0 l1 true) else (bT.j0 k l0 l1 (decide ((l1.length : Int) > 64)))
end Go.Proofs.Yteofcbkjhdadpaa.Pr
