import Derived.Test.YteofcbkjhdadpaaCBuildChecksx0
import Derived.Test.YteofcbkjhdadpaaCBuildChecksx1
import Derived.Test.YteofcbkjhdadpaaCBuildChecksx2
import Derived.Test.YteofcbkjhdadpaaCBuildChecksx6
set_option linter.unusedSimpArgs false
set_option linter.unusedVariables false
namespace Go.Proofs.Yteofcbkjhdadpaa.Pr
open Go.RowKit Go.Proofs.aH.bJ Go.Proofs.aH.eI Go.Proofs.aH.fW
attribute [local go_sem] iN iL kP kO gK gJ iM iK   -- for this text's walks alone
def kY.l0 : Nat→Int→Int→Int→Int→Int→List Int→Option (Int×Int×List Int×Int)
 | 0,_,_,_,_,_,_ => none
 | k + 1,x0,x5,x6,aCt,aCs,VL => if x6 < x0 then (if x5 = 0 then (if 0≤(wrap64 ((wrap64 (x6 * x0)) + x6)) then (if (wrap64 ((wrap64 (x6 * x0)) + x6)) < (VL.length : Int) then (kY.l0 k x0 x5 (wrap64 (x6 + 1)) aCt aCs (VL.set ((wrap64 ((wrap64 (x6 * x0)) + x6)) : Int).toNat 1)) else (none)) else (none)) else (some (aCt,aCs,VL,x5))) else (some (aCt,aCs,VL,x5))
def kY.f (k : Nat) (a0 : Int) : Option (Int×Int×List Int×Int):=(RZ.f a0 a0).bind fun aJE => (kY.l0 k a0 aJE.2.2.2 0 aJE.1 aJE.2.1 aJE.2.2.1)
def nD.j0 : Nat→Bool→Int→Int→List Int→Int→Int→List Int→Option (Int×Int×List Int×Int)
 | 0,_,_,_,_,_,_,_ => none
 | k + 1,x20,aHV,aPt,aPs,aHU,bAW,aHT => if x20 = true then (some (0,0,([] : List Int),3)) else (if (wrap64 (aHV + aHU)) > 64 then (some (0,0,([] : List Int),4)) else ((EI.f aPs).bind fun aWa => (if aWa.length + aHT.length < 140737488355328 then (some (wrap64 (aHV + aHU),aPt,(aWa ++ aHT),0)) else (none))))
def nD.f (k : Nat) (aK : Int) (aI : Int) (aQ : List Int) (fS : Int) (fR : Int) (fZ : List Int) : Option (Int×Int×List Int×Int):=(bA.f aK aI aQ).bind fun bEH => (if bEH = true then ((bA.f fS fR fZ).bind fun bEG => (if bEG = true then (nD.j0 k (aI != fR) aK aI aQ fS fR fZ) else (nD.j0 k true aK aI aQ fS fR fZ))) else (nD.j0 k true aK aI aQ fS fR fZ))
end Go.Proofs.Yteofcbkjhdadpaa.Pr
