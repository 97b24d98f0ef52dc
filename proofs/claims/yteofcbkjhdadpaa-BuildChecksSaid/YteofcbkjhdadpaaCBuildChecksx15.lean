import Derived.Test.YteofcbkjhdadpaaCBuildChecksx0
set_option linter.unusedSimpArgs false
set_option linter.unusedVariables false
namespace Go.Proofs.Yteofcbkjhdadpaa.Pr
open Go.RowKit Go.Proofs.aH.bJ Go.Proofs.aH.eI Go.Proofs.aH.fW
attribute [local go_sem] iN iL kP kO gK gJ iM iK   -- for this text's walks alone
mutual
def gV.l0 : Nat→Int→List Int→List Int→Int→Option (List Int)
 | 0,_,_,_,_ => none
 | k + 1,x0,x2,x7,x8 => if x8 < (x7.length : Int) then (if 0≤x8 then (gV.l0 k x0 x2 (x7.set (x8 : Int).toNat x8) (wrap64 (x8 + 1))) else (none)) else (gV.l1 k x0 x2 x7 0)
def gV.l1 : Nat→Int→List Int→List Int→Int→Option (List Int)
 | 0,_,_,_,_ => none
 | k + 1,x0,x2,x7,x9 => if (wrap64 (x9 + 1)) < (x2.length : Int) then (if 0≤x9 then (if x9 < (x2.length : Int) then (if (x7.length : Int) = 0 then (none) else (if 0≤(wrap64 (x9 + 1)) then (if 0≤(Int.tmod (wrap64 (rd x2 (wrap64 (x9 + 1)))) (x7.length : Int)) then (if (Int.tmod (wrap64 (rd x2 (wrap64 (x9 + 1)))) (x7.length : Int)) < (x7.length : Int) then (if 0≤(Int.tmod (wrap64 (rd x2 x9)) (x7.length : Int)) then (if (Int.tmod (wrap64 (rd x2 x9)) (x7.length : Int)) < (x7.length : Int) then (gV.l1 k x0 x2 ((x7.set ((Int.tmod (wrap64 (rd x2 x9)) (x7.length : Int)) : Int).toNat (rd x7 (Int.tmod (wrap64 (rd x2 (wrap64 (x9 + 1)))) (x7.length : Int)))).set ((Int.tmod (wrap64 (rd x2 (wrap64 (x9 + 1)))) (x7.length : Int)) : Int).toNat (rd x7 (Int.tmod (wrap64 (rd x2 x9)) (x7.length : Int)))) (wrap64 (x9 + 2))) else (none)) else (none)) else (none)) else (none)) else (none))) else (none)) else (none)) else (if 0≤x0 then (if x0≤(x7.length : Int) then (some (x7.take (x0 : Int).toNat)) else (none)) else (none))
end
def gV.f (k : Nat) (a0 : Int) (a1 : Int) (l2 : List Int) : Option (List Int):=if 0≤(wrap64 (a0 + a1)) then (if (wrap64 (a0 + a1) : Int).toNat≤35184372088832 then (gV.l0 k a0 l2 (List.replicate (wrap64 (a0 + a1) : Int).toNat 0) 0) else (none)) else (none)
end Go.Proofs.Yteofcbkjhdadpaa.Pr
