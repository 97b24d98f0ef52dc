import Derived.Test.YteofcbkjhdadpaaCBuildAnyx0
import Derived.Test.YteofcbkjhdadpaaCBuildAnyx6
set_option linter.unusedSimpArgs false
set_option linter.unusedVariables false
namespace Go.Proofs.Yteofcbkjhdadpaa.Pr
open Go.RowKit Go.Proofs.aD.aT Go.Proofs.aD.cY Go.Proofs.aD.eR
attribute [local go_sem] gP gM iU iT fF fE gN gL   -- for this text's walks alone
end Go.Proofs.Yteofcbkjhdadpaa.Pr
