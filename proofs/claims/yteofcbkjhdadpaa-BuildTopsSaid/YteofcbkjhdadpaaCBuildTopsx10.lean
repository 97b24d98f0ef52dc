import Derived.Test.YteofcbkjhdadpaaCBuildTopsx0
import Derived.Test.YteofcbkjhdadpaaCBuildTopsx1
import Derived.Test.YteofcbkjhdadpaaCBuildTopsx6
set_option linter.unusedSimpArgs false
set_option linter.unusedVariables false
namespace Go.Proofs.Yteofcbkjhdadpaa.Pr
open Go.RowKit Go.Proofs.aI.bE Go.Proofs.aI.fB Go.Proofs.aI.iS
attribute [local go_sem] kQ kO nK nJ jD jC kP kN   -- for this text's walks alone
mutual
def dQ.j0 : Nat→List Int→List Int→Bool→Option (Int×Int×List Int×Int)
 | 0,_,_,_ => none
 | k + 1,x0,x1,x19 => if x19 = true then (some (0,0,([] : List Int),4)) else ((gT.f x0).bind fun aUj => (if aUj.length + x1.length < 140737488355328 then (dQ.l0 k x0 x1 (aUj ++ x1) 0) else (none)))
def dQ.l0 : Nat→List Int→List Int→List Int→Int→Option (Int×Int×List Int×Int)
 | 0,_,_,_,_ => none
 | k + 1,x0,x1,x6,x7 => if x7 < (x6.length : Int) then (dQ.l1 k x0 x1 x6 x7 0) else ((eK.f (x0.length : Int) (x1.length : Int)).bind fun aMG => (dQ.l2 k x0 x1 0 aMG.1 aMG.2.1 aMG.2.2))
def dQ.l1 : Nat→List Int→List Int→List Int→Int→Int→Option (Int×Int×List Int×Int)
 | 0,_,_,_,_,_ => none
 | k + 1,x0,x1,x6,x7,x8 => if x8 < x7 then (if 0≤x7 then (if x7 < (x6.length : Int) then (if 0≤x8 then (if x8 < (x6.length : Int) then (if (rd x6 x7) = (rd x6 x8) then (some (0,0,([] : List Int),2)) else (dQ.l1 k x0 x1 x6 x7 (wrap64 (x8 + 1)))) else (none)) else (none)) else (none)) else (none)) else (dQ.l0 k x0 x1 x6 (wrap64 (x7 + 1)))
def dQ.l2 : Nat→List Int→List Int→Int→Int→Int→List Int→Option (Int×Int×List Int×Int)
 | 0,_,_,_,_,_,_ => none
 | k + 1,x0,x1,x10,NV,AQ,JA => if x10 < (x0.length : Int) then (dQ.l3 k x0 x1 x10 0 NV AQ JA) else (some (NV,AQ,JA,0))
def dQ.l3 : Nat→List Int→List Int→Int→Int→Int→Int→List Int→Option (Int×Int×List Int×Int)
 | 0,_,_,_,_,_,_,_ => none
 | k + 1,x0,x1,x10,x11,NV,AQ,JA => if x11 < (x1.length : Int) then (if 0≤x10 then (if x10 < (x0.length : Int) then (if 0≤x11 then ((iW.f (Go.bits .xor .u8 (rd x0 x10) (rd x1 x11))).bind fun aEr => (if 0≤(wrap64 ((wrap64 (x10 * AQ)) + x11)) then (if (wrap64 ((wrap64 (x10 * AQ)) + x11)) < (JA.length : Int) then (dQ.l3 k x0 x1 x10 (wrap64 (x11 + 1)) NV AQ (JA.set ((wrap64 ((wrap64 (x10 * AQ)) + x11)) : Int).toNat aEr.1)) else (none)) else (none))) else (none)) else (none)) else (none)) else (dQ.l2 k x0 x1 (wrap64 (x10 + 1)) NV AQ JA)
end
def dQ.f (k : Nat) (l0 : List Int) (l1 : List Int) : Option (Int×Int×List Int×Int):=if (l0.length : Int) > 64 then (dQ.j0 k l0 l1 true) else (dQ.j0 k l0 l1 (decide ((l1.length : Int) > 64)))
end Go.Proofs.Yteofcbkjhdadpaa.Pr
