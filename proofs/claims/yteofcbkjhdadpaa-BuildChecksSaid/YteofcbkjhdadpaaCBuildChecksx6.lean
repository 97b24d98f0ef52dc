import Derived.Test.YteofcbkjhdadpaaCBuildChecksx0
import Derived.Test.YteofcbkjhdadpaaCBuildChecksx1
import Derived.Test.YteofcbkjhdadpaaCBuildChecksx2
import Derived.Test.YteofcbkjhdadpaaCBuildChecksx5
set_option linter.unusedSimpArgs false
set_option linter.unusedVariables false
namespace Go.Proofs.Yteofcbkjhdadpaa.Pr
open Go.RowKit Go.Proofs.aH.bJ Go.Proofs.aH.eI Go.Proofs.aH.fW
attribute [local go_sem] iN iL kP kO gK gJ iM iK   -- for this text's walks alone
mutual
def jS.j0 : Nat→Bool→Int→Int→List Int→Option (Int×Int×List Int×Int)
 | 0,_,_,_,_ => none
 | k + 1,x22,lW,CT,CS => if x22 = true then (some (0,0,([] : List Int),3)) else ((dZ.f lW CT CS).bind fun aZu => (if aZu.1 < lW then (some (0,0,([] : List Int),6)) else ((gH.f lW lW).bind fun aOt => (jS.l0 k 0 lW CT CS aOt.1 aOt.2.1 aOt.2.2))))
def jS.l0 : Nat→Int→Int→Int→List Int→Int→Int→List Int→Option (Int×Int×List Int×Int)
 | 0,_,_,_,_,_,_,_ => none
 | k + 1,x7,lW,CT,CS,OT,OS,KQ => if x7 < lW then (if 0≤lW then (if (lW : Int).toNat≤281474976710656 then ((some (List.replicate (lW : Int).toNat 0 : List Int)).bind fun y250 => (if 0≤x7 then (if x7 < (y250.length : Int) then ((aU.f k lW CT CS (y250.set (x7 : Int).toNat 1)).bind fun aZt => (jS.l1 k x7 aZt.1 0 lW CT CS OT OS KQ)) else (none)) else (none))) else (none)) else (none)) else (some (OT,OS,KQ,0))
def jS.l1 : Nat→Int→List Int→Int→Int→Int→List Int→Int→Int→List Int→Option (Int×Int×List Int×Int)
 | 0,_,_,_,_,_,_,_,_,_ => none
 | k + 1,x7,x9,x12,lW,CT,CS,OT,OS,KQ => if x12 < lW then (if 0≤x12 then (if x12 < (x9.length : Int) then (if 0≤(wrap64 ((wrap64 (x12 * lW)) + x7)) then (if (wrap64 ((wrap64 (x12 * lW)) + x7)) < (KQ.length : Int) then (jS.l1 k x7 x9 (wrap64 (x12 + 1)) lW CT CS OT OS (KQ.set ((wrap64 ((wrap64 (x12 * lW)) + x7)) : Int).toNat (rd x9 x12))) else (none)) else (none)) else (none)) else (none)) else (jS.l0 k (wrap64 (x7 + 1)) lW CT CS OT OS KQ)
end
def EI.f (l0 : List Int) : Option (List Int):=(some (([] : List Int) : List Int)).bind fun y261 => (if y261.length + l0.length < 140737488355328 then (some (y261 ++ l0)) else (none))
end Go.Proofs.Yteofcbkjhdadpaa.Pr
