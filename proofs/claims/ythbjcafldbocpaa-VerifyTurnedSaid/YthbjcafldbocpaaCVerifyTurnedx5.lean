-- Out of the translation, by this session's turn of the print (wip/gp.py).
import Derived.Test.YthbjcafldbocpaaCVerifyTurnedx0
namespace Go.Proofs.Ythbjcafldbocpaa.P0
open Go.RowKit Go.Proofs.YthbjcafldbocpaaW.PrintWords Go.Proofs.YthbjcafldbocpaaW.PrintLast Go.Proofs.YthbjcafldbocpaaW.PrintMore
attribute [local go_sem] max2_int min2_int max_two min_two max_three min_three max_four min_four   -- for this text's walks alone
set_option linter.unusedVariables false
set_option linter.unusedSimpArgs false

-- NOT PRINTED: function 68 (recoupref25_inside)

-- NOT PRINTED: function 51 (recoupref25_state_do)

-- NOT PRINTED: function 31 (recoupref25_run)

-- NOT PRINTED: function 11 (recoupref25_Check)

-- NOT PRINTED: function 13 (verify_Makes)

-- NOT PRINTED: function 12 (recouplaw25_anchored)

-- NOT PRINTED: function 3 (recouplaw25_VerifyChecks)

-- NOT PRINTED: function 14 (recoupref23_Run)

-- given: function 44 (matrix_Mul)

-- NOT PRINTED: function 26 (verify_Does)

end Go.Proofs.Ythbjcafldbocpaa.P0
