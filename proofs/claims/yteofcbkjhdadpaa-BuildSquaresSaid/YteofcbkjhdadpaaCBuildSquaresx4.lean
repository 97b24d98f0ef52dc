-- Out of the translation, by this session's turn of the print (wip/gp.py).
import Derived.Test.YteofcbkjhdadpaaCBuildSquaresx0
import Derived.Test.YteofcbkjhdadpaaCBuildSquaresx2
namespace Go.Proofs.Yteofcbkjhdadpaa.Pr
open Go.RowKit Go.Proofs.YteofcbkjhdadpaaW.PrintWords Go.Proofs.YteofcbkjhdadpaaW.PrintLast Go.Proofs.YteofcbkjhdadpaaW.PrintMore
attribute [local go_sem] max2_int min2_int max_two min_two max_three min_three max_four min_four   -- for this text's walks alone
set_option linter.unusedVariables false
set_option linter.unusedSimpArgs false

mutual
def recoupref04_wide.l0 : Nat → List Int → Int → Int → Int → List Int → Option (Int × Int × List Int × List Int)
  | 0, _, _, _, _, _ => none
  | k + 1, x4, x5, x189000, x189001, x189002 => if x5 < x189001 then (recoupref04_wide.l1 k x4 x5 (x4.length : Int) (x4.length : Int) x189000 x189001 x189002) else (some (x189000, x189001, x189002, x4))
def recoupref04_wide.l1 : Nat → List Int → Int → Int → Int → Int → Int → List Int → Option (Int × Int × List Int × List Int)
  | 0, _, _, _, _, _, _, _ => none
  | k + 1, x4, x5, x6, x7, x189000, x189001, x189002 => if x7 < x189000 then ((recoupref03_At.f x189000 x189001 x189002 x7 x5).bind fun t190 => (if t190 = 0 then (recoupref04_wide.l1 k x4 x5 x6 (wrap64 (x7 + 1)) x189000 x189001 x189002) else ((recoupref01_Inv.f t190).bind fun bt191 => (recoupref04_wide.l2 k x4 x5 x6 x7 bt191.1 0 x189000 x189001 x189002)))) else (recoupref04_wide.l0 k x4 (wrap64 (x5 + 1)) x189000 x189001 x189002)
def recoupref04_wide.l2 : Nat → List Int → Int → Int → Int → Int → Int → Int → Int → List Int → Option (Int × Int × List Int × List Int)
  | 0, _, _, _, _, _, _, _, _, _ => none
  | k + 1, x4, x5, x6, x7, x9, x11, x189000, x189001, x189002 => if x11 < x189001 then ((recoupref03_At.f x189000 x189001 x189002 x6 x11).bind fun t193 => ((recoupref03_At.f x189000 x189001 x189002 x7 x11).bind fun t194 => (if 0 ≤ (wrap64 ((wrap64 (x7 * x189001)) + x11)) then (if (wrap64 ((wrap64 (x7 * x189001)) + x11)) < (x189002.length : Int) then ((recoupref01_Mul.f x9 t194).bind fun t196 => (if 0 ≤ (wrap64 ((wrap64 (x6 * x189001)) + x11)) then (if (wrap64 ((wrap64 (x6 * x189001)) + x11)) < (x189002.length : Int) then (recoupref04_wide.l2 k x4 x5 x6 x7 x9 (wrap64 (x11 + 1)) x189000 x189001 ((x189002.set ((wrap64 ((wrap64 (x7 * x189001)) + x11)) : Int).toNat t193).set ((wrap64 ((wrap64 (x6 * x189001)) + x11)) : Int).toNat t196)) else (none)) else (none))) else (none)) else (none)))) else (recoupref04_wide.l3 k x4 x5 x6 0 x189000 x189001 x189002)
def recoupref04_wide.l3 : Nat → List Int → Int → Int → Int → Int → Int → List Int → Option (Int × Int × List Int × List Int)
  | 0, _, _, _, _, _, _, _ => none
  | k + 1, x4, x5, x6, x14, x189000, x189001, x189002 => if x14 < x189000 then ((recoupref03_At.f x189000 x189001 x189002 x14 x5).bind fun t201 => (recoupref04_wide.l4 k x4 x5 x6 x14 t201 0 x189000 x189001 x189002)) else (if x4.length < 17592186044416 then (recoupref04_wide.l0 k (x4 ++ [x5]) (wrap64 (x5 + 1)) x189000 x189001 x189002) else (none))
def recoupref04_wide.l4 : Nat → List Int → Int → Int → Int → Int → Int → Int → Int → List Int → Option (Int × Int × List Int × List Int)
  | 0, _, _, _, _, _, _, _, _, _ => none
  | k + 1, x4, x5, x6, x14, x15, x16, x189000, x189001, x189002 => if x16 < x189001 then (recoupref04_wide.j5 k x4 x5 x6 x14 x15 x16 (x14 != x6) x189000 x189001 x189002) else (recoupref04_wide.j5 k x4 x5 x6 x14 x15 x16 false x189000 x189001 x189002)
def recoupref04_wide.j5 : Nat → List Int → Int → Int → Int → Int → Int → Bool → Int → Int → List Int → Option (Int × Int × List Int × List Int)
  | 0, _, _, _, _, _, _, _, _, _, _ => none
  | k + 1, x4, x5, x6, x14, x15, x16, x97, x189000, x189001, x189002 => if x97 = true then (if 0 ≤ (wrap64 ((wrap64 (x14 * x189001)) + x16)) then (if (wrap64 ((wrap64 (x14 * x189001)) + x16)) < (x189002.length : Int) then ((recoupref03_At.f x189000 x189001 x189002 x6 x16).bind fun t203 => ((recoupref01_Mul.f x15 t203).bind fun t204 => (recoupref04_wide.l4 k x4 x5 x6 x14 x15 (wrap64 (x16 + 1)) x189000 x189001 (x189002.set ((wrap64 ((wrap64 (x14 * x189001)) + x16)) : Int).toNat (Go.bits .xor .u8 (rd x189002 (wrap64 ((wrap64 (x14 * x189001)) + x16))) t204))))) else (none)) else (none)) else (recoupref04_wide.l3 k x4 x5 x6 (wrap64 (x14 + 1)) x189000 x189001 x189002)
end
def recoupref04_wide.f (k : Nat) (a0_0 : Int) (a0_1 : Int) (l0_2 : List Int) : Option (Int × Int × List Int × List Int) := recoupref04_wide.l0 k ([] : List Int) 0 a0_0 a0_1 l0_2
end Go.Proofs.Yteofcbkjhdadpaa.Pr
