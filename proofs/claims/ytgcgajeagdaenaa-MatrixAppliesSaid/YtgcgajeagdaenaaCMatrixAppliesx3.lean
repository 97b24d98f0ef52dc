-- Out of the translation, by this session's turn of the print (wip/gp.py).
import Derived.Test.YtgcgajeagdaenaaCMatrixAppliesx0
import Derived.Test.YtgcgajeagdaenaaCMatrixAppliesx1
import Derived.Test.YtgcgajeagdaenaaCMatrixAppliesx2
namespace Go.Proofs.Ytgcgajeagdaenaa.Pr
open Go.RowKit Go.Proofs.YtgcgajeagdaenaaW.PrintWords Go.Proofs.YtgcgajeagdaenaaW.PrintLast Go.Proofs.YtgcgajeagdaenaaW.PrintMore
attribute [local go_sem] max2_int min2_int max_two min_two max_three min_three max_four min_four   -- for this text's walks alone
set_option linter.unusedVariables false
set_option linter.unusedSimpArgs false

mutual
def recoupref03_Kron.j0 : Nat → Bool → Int → Int → List Int → Int → Int → List Int → Option (Int × Int × List Int × Int)
  | 0, _, _, _, _, _, _, _ => none
  | k + 1, x16, x140000, x140001, x140002, x141000, x141001, x141002 => if x16 = true then (some (0, 0, ([] : List Int), 3)) else (if (wrap64 (x140000 * x141000)) > 64 then (recoupref03_Kron.j1 k true x140000 x140001 x140002 x141000 x141001 x141002) else (recoupref03_Kron.j1 k (decide ((wrap64 (x140001 * x141001)) > 64)) x140000 x140001 x140002 x141000 x141001 x141002))
def recoupref03_Kron.j1 : Nat → Bool → Int → Int → List Int → Int → Int → List Int → Option (Int × Int × List Int × Int)
  | 0, _, _, _, _, _, _, _ => none
  | k + 1, x31, x140000, x140001, x140002, x141000, x141001, x141002 => if x31 = true then (some (0, 0, ([] : List Int), 4)) else ((recoupref03_Zero.f (wrap64 (x140000 * x141000)) (wrap64 (x140001 * x141001))).bind fun bt144 => (recoupref03_Kron.l0 k 0 x140000 x140001 x140002 x141000 x141001 x141002 bt144.1 bt144.2.1 bt144.2.2))
def recoupref03_Kron.l0 : Nat → Int → Int → Int → List Int → Int → Int → List Int → Int → Int → List Int → Option (Int × Int × List Int × Int)
  | 0, _, _, _, _, _, _, _, _, _, _ => none
  | k + 1, x7, x140000, x140001, x140002, x141000, x141001, x141002, x150000, x150001, x150002 => if x7 < x150000 then (recoupref03_Kron.l1 k x7 0 x140000 x140001 x140002 x141000 x141001 x141002 x150000 x150001 x150002) else (some (x150000, x150001, x150002, 0))
def recoupref03_Kron.l1 : Nat → Int → Int → Int → Int → List Int → Int → Int → List Int → Int → Int → List Int → Option (Int × Int × List Int × Int)
  | 0, _, _, _, _, _, _, _, _, _, _, _ => none
  | k + 1, x7, x8, x140000, x140001, x140002, x141000, x141001, x141002, x150000, x150001, x150002 => if x8 < x150001 then (if x141000 = 0 then (none) else (if x141001 = 0 then (none) else ((recoupref03_At.f x140000 x140001 x140002 (wrap64 (Int.tdiv x7 x141000)) (wrap64 (Int.tdiv x8 x141001))).bind fun t150 => ((recoupref03_At.f x141000 x141001 x141002 (Int.tmod x7 x141000) (Int.tmod x8 x141001)).bind fun t151 => ((recoupref01_Mul.f t150 t151).bind fun t152 => (if 0 ≤ (wrap64 ((wrap64 (x7 * x150001)) + x8)) then (if (wrap64 ((wrap64 (x7 * x150001)) + x8)) < (x150002.length : Int) then (recoupref03_Kron.l1 k x7 (wrap64 (x8 + 1)) x140000 x140001 x140002 x141000 x141001 x141002 x150000 x150001 (x150002.set ((wrap64 ((wrap64 (x7 * x150001)) + x8)) : Int).toNat t152)) else (none)) else (none))))))) else (recoupref03_Kron.l0 k (wrap64 (x7 + 1)) x140000 x140001 x140002 x141000 x141001 x141002 x150000 x150001 x150002)
end
end Go.Proofs.Ytgcgajeagdaenaa.Pr
