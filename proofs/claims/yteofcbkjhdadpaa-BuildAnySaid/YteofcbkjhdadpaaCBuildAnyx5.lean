import Derived.Test.YteofcbkjhdadpaaCBuildAnyx0
import Derived.Test.YteofcbkjhdadpaaCBuildAnyx2
import Derived.Test.YteofcbkjhdadpaaCBuildAnyx3
import Derived.Test.YteofcbkjhdadpaaCBuildAnyx4
set_option linter.unusedSimpArgs false
set_option linter.unusedVariables false
namespace Go.Proofs.Yteofcbkjhdadpaa.Pr
open Go.RowKit Go.Proofs.aD.aT Go.Proofs.aD.cY Go.Proofs.aD.eR
attribute [local go_sem] gP gM iU iT fF fE gN gL   -- for this text's walks alone
mutual
def dE.j0 : Nat → List Int → Bool → Int → Int → List Int → Option (List Int × Bool × Int)
 | 0, _, _, _, _, _ => none
 | k + 1, x1, x24, o7, kM, r9 => if x24 = true then (some (([] : List Int), false, 3)) else (dE.l0 k x1 0 o7 kM r9 o7 (wrap64 (kM + 1)) ([] : List Int))
def dE.l0 : Nat → List Int → Int → Int → Int → List Int → Int → Int → List Int → Option (List Int × Bool × Int)
 | 0, _, _, _, _, _, _, _, _ => none
 | k + 1, x1, x8, o7, kM, r9, N0, MZ, GA => if x8 < o7 then ((b9.f k o7 kM r9 x8).bind fun ZY => (if GA.length + ZY.1.length < 140737488355328 then ((some (GA ++ ZY.1 : List Int)).bind fun y213 => (if 0 ≤ x8 then (if x8 < (x1.length : Int) then ((some (([rd x1 x8] : List Int) : List Int)).bind fun y217 => (if y213.length + y217.length < 140737488355328 then (dE.l0 k x1 (wrap64 (x8 + 1)) o7 kM r9 N0 MZ (y213 ++ y217)) else (none))) else (none)) else (none))) else (none))) else ((bP.f k N0 MZ GA).bind fun O5 => (if 0 ≤ kM then (if (kM : Int).toNat ≤ 281474976710656 then (dE.l1 k O5.2.2.2 (List.replicate (kM : Int).toNat 0) 0 o7 kM r9 O5.1 O5.2.1 O5.2.2.1) else (none)) else (none)))
def dE.l1 : Nat → List Int → List Int → Int → Int → Int → List Int → Int → Int → List Int → Option (List Int × Bool × Int)
 | 0, _, _, _, _, _, _, _, _, _ => none
 | k + 1, KW, x13, BN, o7, kM, r9, MY, MX, MW => if BN < (KW.length : Int) then (if 0 ≤ BN then (if (rd KW BN) = kM then (some (([] : List Int), false, 0)) else ((cT.f MY MX MW BN kM).bind fun t237 => (if 0 ≤ (rd KW BN) then (if (rd KW BN) < (x13.length : Int) then (dE.l1 k KW (x13.set ((rd KW BN) : Int).toNat t237) (wrap64 (BN + 1)) o7 kM r9 MY MX MW) else (none)) else (none)))) else (none)) else (some (x13, true, 0))
end
def dE.f (k : Nat) (bL : Int) (bI : Int) (bJ : List Int) (l1 : List Int) : Option (List Int × Bool × Int) := (bU.f bL bI bJ).bind fun t207 => (if t207 = true then (dE.j0 k l1 ((l1.length : Int) != bL) bL bI bJ) else (dE.j0 k l1 true bL bI bJ))
end Go.Proofs.Yteofcbkjhdadpaa.Pr
