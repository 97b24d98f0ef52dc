import Derived.Test.YteofcbkjhdadpaaCBuildChecksx0
import Derived.Test.YteofcbkjhdadpaaCBuildChecksx2
import Derived.Test.YteofcbkjhdadpaaCBuildChecksx6
import Derived.Test.YteofcbkjhdadpaaCBuildChecksx7
import Derived.Test.YteofcbkjhdadpaaCBuildChecksx8
set_option linter.unusedSimpArgs false
set_option linter.unusedVariables false
namespace Go.Proofs.Yteofcbkjhdadpaa.Pr
open Go.RowKit Go.Proofs.aH.bJ Go.Proofs.aH.eI Go.Proofs.aH.fW
attribute [local go_sem] iN iL kP kO gK gJ iM iK   -- for this text's walks alone
def ES.l0 : Nat→Int→List Int→Int→Int→Option (List Int)
 | 0,_,_,_,_ => none
 | k + 1,x0,x5,x7,x8 => if x8 < x7 then (if x5.length < 140737488355328 then (ES.l0 k x0 (x5 ++ [(wrap64 (x0 + x8)) % 256]) x7 (wrap64 (x8 + 1))) else (none)) else (some x5)
def ES.f (k : Nat) (a0 : Int) (a1 : Int) : Option (List Int):=ES.l0 k a0 ([] : List Int) a1 0
def aTh.f (k : Nat) (a0 : Int) (a1 : Int) : Option (Int×Int×List Int×Int):=(pW.f a0 a1).bind fun bEK => (if bEK = true then ((tI.f a0).bind fun aFY => (if aFY.2.2.2 = 0 then ((ES.f k a0 a1).bind fun bEJ => ((ES.f k 0 a0).bind fun bEI => ((AP.f bEJ bEI).bind fun aFX => (if aFX.2.2.2 = 0 then ((AL.f aFY.1 aFY.2.1 aFY.2.2.1 aFX.1 aFX.2.1 aFX.2.2.1).bind fun aJF => (some (aJF.1,aJF.2.1,aJF.2.2.1,aJF.2.2.2))) else (some (0,0,([] : List Int),aFX.2.2.2)))))) else (some (0,0,([] : List Int),aFY.2.2.2)))) else (some (0,0,([] : List Int),2)))
end Go.Proofs.Yteofcbkjhdadpaa.Pr
