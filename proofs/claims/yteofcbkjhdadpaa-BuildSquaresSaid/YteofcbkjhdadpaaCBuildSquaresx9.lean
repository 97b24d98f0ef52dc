-- Out of the translation, by this session's turn of the print (wip/gp.py).
import Derived.Test.YteofcbkjhdadpaaCBuildSquaresx0
import Derived.Test.YteofcbkjhdadpaaCBuildSquaresx2
import Derived.Test.YteofcbkjhdadpaaCBuildSquaresx6
import Derived.Test.YteofcbkjhdadpaaCBuildSquaresx7
import Derived.Test.YteofcbkjhdadpaaCBuildSquaresx8
namespace Go.Proofs.Yteofcbkjhdadpaa.Pr
open Go.RowKit Go.Proofs.YteofcbkjhdadpaaW.PrintWords Go.Proofs.YteofcbkjhdadpaaW.PrintLast Go.Proofs.YteofcbkjhdadpaaW.PrintMore
attribute [local go_sem] max2_int min2_int max_two min_two max_three min_three max_four min_four   -- for this text's walks alone
set_option linter.unusedVariables false
set_option linter.unusedSimpArgs false

-- given: function 11 (build_Cauchy)

-- given: function 68 (matrix_Identity)

-- given: function 70 (matrix_Stack)

end Go.Proofs.Yteofcbkjhdadpaa.Pr
