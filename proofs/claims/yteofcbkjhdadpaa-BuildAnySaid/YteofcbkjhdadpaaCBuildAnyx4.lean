import Derived.Test.YteofcbkjhdadpaaCBuildAnyx0
import Derived.Test.YteofcbkjhdadpaaCBuildAnyx2
set_option linter.unusedSimpArgs false
set_option linter.unusedVariables false
namespace Go.Proofs.Yteofcbkjhdadpaa.Pr
open Go.RowKit Go.Proofs.aD.aT Go.Proofs.aD.cY Go.Proofs.aD.eR
attribute [local go_sem] gP gM iU iT fF fE gN gL   -- for this text's walks alone
mutual
def bP.l0 : Nat → List Int → Int → Int → Int → List Int → Option (Int × Int × List Int × List Int)
 | 0, _, _, _, _, _ => none
 | k + 1, x4, x5, eH, cW, e9 => if x5 < cW then (bP.l1 k x4 x5 (x4.length : Int) (x4.length : Int) eH cW e9) else (some (eH, cW, e9, x4))
def bP.l1 : Nat → List Int → Int → Int → Int → Int → Int → List Int → Option (Int × Int × List Int × List Int)
 | 0, _, _, _, _, _, _, _ => none
 | k + 1, x4, x5, x6, x7, eH, cW, e9 => if x7 < eH then ((cT.f eH cW e9 x7 x5).bind fun t190 => (if t190 = 0 then (bP.l1 k x4 x5 x6 (wrap64 (x7 + 1)) eH cW e9) else ((jH.f t190).bind fun a3o => (bP.l2 k x4 x5 x6 x7 a3o.1 0 eH cW e9)))) else (bP.l0 k x4 (wrap64 (x5 + 1)) eH cW e9)
def bP.l2 : Nat → List Int → Int → Int → Int → Int → Int → Int → Int → List Int → Option (Int × Int × List Int × List Int)
 | 0, _, _, _, _, _, _, _, _, _ => none
 | k + 1, x4, x5, x6, x7, x9, J1, eH, cW, e9 => if J1 < cW then ((cT.f eH cW e9 x6 J1).bind fun t193 => ((cT.f eH cW e9 x7 J1).bind fun t194 => (if 0 ≤ (wrap64 ((wrap64 (x7 * cW)) + J1)) then (if (wrap64 ((wrap64 (x7 * cW)) + J1)) < (e9.length : Int) then ((gH.f x9 t194).bind fun t196 => (if 0 ≤ (wrap64 ((wrap64 (x6 * cW)) + J1)) then (if (wrap64 ((wrap64 (x6 * cW)) + J1)) < (e9.length : Int) then (bP.l2 k x4 x5 x6 x7 x9 (wrap64 (J1 + 1)) eH cW ((e9.set ((wrap64 ((wrap64 (x7 * cW)) + J1)) : Int).toNat t193).set ((wrap64 ((wrap64 (x6 * cW)) + J1)) : Int).toNat t196)) else (none)) else (none))) else (none)) else (none)))) else (bP.l3 k x4 x5 x6 0 eH cW e9)
def bP.l3 : Nat → List Int → Int → Int → Int → Int → Int → List Int → Option (Int × Int × List Int × List Int)
 | 0, _, _, _, _, _, _, _ => none
 | k + 1, x4, x5, x6, BN, eH, cW, e9 => if BN < eH then ((cT.f eH cW e9 BN x5).bind fun t201 => (bP.l4 k x4 x5 x6 BN t201 0 eH cW e9)) else (if x4.length < 17592186044416 then (bP.l0 k (x4 ++ [x5]) (wrap64 (x5 + 1)) eH cW e9) else (none))
def bP.l4 : Nat → List Int → Int → Int → Int → Int → Int → Int → Int → List Int → Option (Int × Int × List Int × List Int)
 | 0, _, _, _, _, _, _, _, _, _ => none
 | k + 1, x4, x5, x6, BN, x15, V4, eH, cW, e9 => if V4 < cW then (bP.j5 k x4 x5 x6 BN x15 V4 (BN != x6) eH cW e9) else (bP.j5 k x4 x5 x6 BN x15 V4 false eH cW e9)
def bP.j5 : Nat → List Int → Int → Int → Int → Int → Int → Bool → Int → Int → List Int → Option (Int × Int × List Int × List Int)
 | 0, _, _, _, _, _, _, _, _, _, _ => none
 | k + 1, x4, x5, x6, BN, x15, V4, x97, eH, cW, e9 => if x97 = true then (if 0 ≤ (wrap64 ((wrap64 (BN * cW)) + V4)) then (if (wrap64 ((wrap64 (BN * cW)) + V4)) < (e9.length : Int) then ((cT.f eH cW e9 x6 V4).bind fun t203 => ((gH.f x15 t203).bind fun t204 => (bP.l4 k x4 x5 x6 BN x15 (wrap64 (V4 + 1)) eH cW (e9.set ((wrap64 ((wrap64 (BN * cW)) + V4)) : Int).toNat (Go.bits .xor .u8 (rd e9 (wrap64 ((wrap64 (BN * cW)) + V4))) t204))))) else (none)) else (none)) else (bP.l3 k x4 x5 x6 (wrap64 (BN + 1)) eH cW e9)
end
def bP.f (k : Nat) (bL : Int) (bI : Int) (bJ : List Int) : Option (Int × Int × List Int × List Int) := bP.l0 k ([] : List Int) 0 bL bI bJ
end Go.Proofs.Yteofcbkjhdadpaa.Pr
