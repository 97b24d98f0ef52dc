import Derived.Test.YteofcbkjhdadpaaCBuildAnyx0
import Derived.Test.YteofcbkjhdadpaaCBuildAnyx1
import Derived.Test.YteofcbkjhdadpaaCBuildAnyx2
set_option linter.unusedSimpArgs false
set_option linter.unusedVariables false
namespace Go.Proofs.Yteofcbkjhdadpaa.Pr
open Go.RowKit Go.Proofs.aD.aT Go.Proofs.aD.cY Go.Proofs.aD.eR
attribute [local go_sem] gP gM iU iT fF fE gN gL   -- for this text's walks alone
mutual
def cX.j0 : Nat → Bool → Int → Int → List Int → Int → Int → List Int → Option (Int × Int × List Int × Int)
 | 0, _, _, _, _, _, _, _ => none
 | k + 1, x24, l6, m7, n7, n0, l5, mZ => if x24 = true then (some (0, 0, ([] : List Int), 3)) else ((dN.f l6 l5).bind fun UI => (cX.l0 k 0 l6 m7 n7 n0 l5 mZ UI.1 UI.2.1 UI.2.2))
def cX.l0 : Nat → Int → Int → Int → List Int → Int → Int → List Int → Int → Int → List Int → Option (Int × Int × List Int × Int)
 | 0, _, _, _, _, _, _, _, _, _, _ => none
 | k + 1, x7, l6, m7, n7, n0, l5, mZ, pD, kZ, mY => if x7 < l6 then (cX.l1 k x7 0 l6 m7 n7 n0 l5 mZ pD kZ mY) else (some (pD, kZ, mY, 0))
def cX.l1 : Nat → Int → Int → Int → Int → List Int → Int → Int → List Int → Int → Int → List Int → Option (Int × Int × List Int × Int)
 | 0, _, _, _, _, _, _, _, _, _, _, _ => none
 | k + 1, x7, x8, l6, m7, n7, n0, l5, mZ, pD, kZ, mY => if x8 < l5 then (cX.l2 k x7 x8 0 l6 m7 n7 n0 l5 mZ pD kZ mY) else (cX.l0 k (wrap64 (x7 + 1)) l6 m7 n7 n0 l5 mZ pD kZ mY)
def cX.l2 : Nat → Int → Int → Int → Int → Int → List Int → Int → Int → List Int → Int → Int → List Int → Option (Int × Int × List Int × Int)
 | 0, _, _, _, _, _, _, _, _, _, _, _, _ => none
 | k + 1, x7, x8, x9, l6, m7, n7, n0, l5, mZ, pD, kZ, mY => if x9 < m7 then (if 0 ≤ (wrap64 ((wrap64 (x7 * kZ)) + x8)) then (if (wrap64 ((wrap64 (x7 * kZ)) + x8)) < (mY.length : Int) then ((cT.f l6 m7 n7 x7 x9).bind fun a7q => ((cT.f n0 l5 mZ x9 x8).bind fun a7p => ((gH.f a7q a7p).bind fun a7o => (cX.l2 k x7 x8 (wrap64 (x9 + 1)) l6 m7 n7 n0 l5 mZ pD kZ (mY.set ((wrap64 ((wrap64 (x7 * kZ)) + x8)) : Int).toNat (Go.bits .xor .u8 (rd mY (wrap64 ((wrap64 (x7 * kZ)) + x8))) a7o)))))) else (none)) else (none)) else (cX.l1 k x7 (wrap64 (x8 + 1)) l6 m7 n7 n0 l5 mZ pD kZ mY)
end
def cX.f (k : Nat) (bL : Int) (bI : Int) (bJ : List Int) (lN : Int) (lL : Int) (lK : List Int) : Option (Int × Int × List Int × Int) := (bU.f bL bI bJ).bind fun a7s => (if a7s = true then ((bU.f lN lL lK).bind fun a7r => (if a7r = true then (cX.j0 k (bI != lN) bL bI bJ lN lL lK) else (cX.j0 k true bL bI bJ lN lL lK))) else (cX.j0 k true bL bI bJ lN lL lK))
end Go.Proofs.Yteofcbkjhdadpaa.Pr
