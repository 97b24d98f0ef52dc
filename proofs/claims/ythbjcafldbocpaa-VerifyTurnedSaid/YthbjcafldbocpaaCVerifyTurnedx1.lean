-- Out of the translation, by this session's turn of the print (wip/gp.py).
import Derived.Test.YthbjcafldbocpaaCVerifyTurnedx0
namespace Go.Proofs.Ythbjcafldbocpaa.P0
open Go.RowKit Go.Proofs.YthbjcafldbocpaaW.PrintWords Go.Proofs.YthbjcafldbocpaaW.PrintLast Go.Proofs.YthbjcafldbocpaaW.PrintMore
attribute [local go_sem] max2_int min2_int max_two min_two max_three min_three max_four min_four   -- for this text's walks alone
set_option linter.unusedVariables false
set_option linter.unusedSimpArgs false

theorem eqA59 (d : Nat) (w : World) (x0 y0 : Int) (x1 y1 : Int) (x2 y2 : Int) (x3 y3 : Int) :
    (Op.equalIn (d + 2) 59 (.agg #[.int .u8 x0, .int .i64 x1, .int .i64 x2, .int .u8 x3]) (.agg #[.int .u8 y0, .int .i64 y1, .int .i64 y2, .int .u8 y3])).run Try.prog w = .ok (x0 == y0 && (x1 == y1 && (x2 == y2 && (x3 == y3)))) w := by
  refine eqA_of Try.underlying59 (by kernel_rfl) ?_
  refine eqf_cons (by rfl) (by go_simp; rfl) (by go_simp; rfl) (by go_simp) ?_
  refine eqf_cons (by rfl) (by go_simp; rfl) (by go_simp; rfl) (by go_simp) ?_
  refine eqf_cons (by rfl) (by go_simp; rfl) (by go_simp; rfl) (by go_simp) ?_
  exact eqf_last (by rfl) (by go_simp; rfl) (by go_simp; rfl) (by go_simp)
end Go.Proofs.Ythbjcafldbocpaa.P0
