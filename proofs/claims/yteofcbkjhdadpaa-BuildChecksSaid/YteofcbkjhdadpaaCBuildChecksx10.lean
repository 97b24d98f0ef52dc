import Derived.Test.YteofcbkjhdadpaaCBuildChecksx0
import Derived.Test.YteofcbkjhdadpaaCBuildChecksx1
import Derived.Test.YteofcbkjhdadpaaCBuildChecksx6
set_option linter.unusedSimpArgs false
set_option linter.unusedVariables false
namespace Go.Proofs.Yteofcbkjhdadpaa.Pr
open Go.RowKit Go.Proofs.aH.bJ Go.Proofs.aH.eI Go.Proofs.aH.fW
attribute [local go_sem] iN iL kP kO gK gJ iM iK   -- for this text's walks alone
mutual
def dK.j0 : Nat→List Int→List Int→Bool→Option (Int×Int×List Int×Int)
 | 0,_,_,_ => none
 | k + 1,x0,x1,x19 => if x19 = true then (some (0,0,([] : List Int),4)) else ((EI.f x0).bind fun aWb => (if aWb.length + x1.length < 140737488355328 then (dK.l0 k x0 x1 (aWb ++ x1) 0) else (none)))
def dK.l0 : Nat→List Int→List Int→List Int→Int→Option (Int×Int×List Int×Int)
 | 0,_,_,_,_ => none
 | k + 1,x0,x1,x6,x7 => if x7 < (x6.length : Int) then (dK.l1 k x0 x1 x6 x7 0) else ((gH.f (x0.length : Int) (x1.length : Int)).bind fun aOs => (dK.l2 k x0 x1 0 aOs.1 aOs.2.1 aOs.2.2))
def dK.l1 : Nat→List Int→List Int→List Int→Int→Int→Option (Int×Int×List Int×Int)
 | 0,_,_,_,_,_ => none
 | k + 1,x0,x1,x6,x7,x8 => if x8 < x7 then (if 0≤x7 then (if x7 < (x6.length : Int) then (if 0≤x8 then (if x8 < (x6.length : Int) then (if (rd x6 x7) = (rd x6 x8) then (some (0,0,([] : List Int),2)) else (dK.l1 k x0 x1 x6 x7 (wrap64 (x8 + 1)))) else (none)) else (none)) else (none)) else (none)) else (dK.l0 k x0 x1 x6 (wrap64 (x7 + 1)))
def dK.l2 : Nat→List Int→List Int→Int→Int→Int→List Int→Option (Int×Int×List Int×Int)
 | 0,_,_,_,_,_,_ => none
 | k + 1,x0,x1,VO,OR,CQ,KP => if VO < (x0.length : Int) then (dK.l3 k x0 x1 VO 0 OR CQ KP) else (some (OR,CQ,KP,0))
def dK.l3 : Nat→List Int→List Int→Int→Int→Int→Int→List Int→Option (Int×Int×List Int×Int)
 | 0,_,_,_,_,_,_,_ => none
 | k + 1,x0,x1,VO,IX,OR,CQ,KP => if IX < (x1.length : Int) then (if 0≤VO then (if VO < (x0.length : Int) then (if 0≤IX then ((iQ.f (Go.bits .xor .u8 (rd x0 VO) (rd x1 IX))).bind fun aZs => (if 0≤(wrap64 ((wrap64 (VO * CQ)) + IX)) then (if (wrap64 ((wrap64 (VO * CQ)) + IX)) < (KP.length : Int) then (dK.l3 k x0 x1 VO (wrap64 (IX + 1)) OR CQ (KP.set ((wrap64 ((wrap64 (VO * CQ)) + IX)) : Int).toNat aZs.1)) else (none)) else (none))) else (none)) else (none)) else (none)) else (dK.l2 k x0 x1 (wrap64 (VO + 1)) OR CQ KP)
end
def dK.f (k : Nat) (l0 : List Int) (l1 : List Int) : Option (Int×Int×List Int×Int):=if (l0.length : Int) > 64 then (dK.j0 k l0 l1 true) else (dK.j0 k l0 l1 (decide ((l1.length : Int) > 64)))
end Go.Proofs.Yteofcbkjhdadpaa.Pr
