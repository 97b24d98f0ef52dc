import Derived.Test.YteofcbkjhdadpaaCBuildChecksx0
import Derived.Test.YteofcbkjhdadpaaCBuildChecksx6
set_option linter.unusedSimpArgs false
set_option linter.unusedVariables false
namespace Go.Proofs.Yteofcbkjhdadpaa.Pr
open Go.RowKit Go.Proofs.aH.bJ Go.Proofs.aH.eI Go.Proofs.aH.fW
attribute [local go_sem] iN iL kP kO gK gJ iM iK   -- for this text's walks alone
end Go.Proofs.Yteofcbkjhdadpaa.Pr
