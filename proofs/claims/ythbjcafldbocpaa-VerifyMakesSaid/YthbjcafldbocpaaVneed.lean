/- The walk of verify.need. -/
import Derived.Test.YthbjcafldbocpaaProg
import Derived.Test.YthbjcafldbocpaaWWords
import Derived.WalkKit
import Derived.WalkSmall
namespace Go.Proofs.Ythbjcafldbocpaa
open Go.RowKit
set_option linter.unusedVariables false
set_option linter.unusedSimpArgs false

/-- how the looker gives up -/
def giveUp : List PanicEntry := [{ v := .iface 125 (.agg #[]), recovered := false }]
theorem need_yes (w : World) : Calls Try.prog 66 #[.bool true] w fun e w' => e = .returned (.tuple #[]) ∧ w' = w := by
  go_enter Try.func66, Try.ntmps66
  go_wp2_with fail
  go_end0
  exact ⟨rfl, rfl⟩
theorem need_no (w : World) : Calls Try.prog 66 #[.bool false] w fun e w' => e = .panicked giveUp ∧ w' = w := by
  go_enter Try.func66, Try.ntmps66
  go_wp2_with fail
  first | exact ⟨rfl, rfl⟩ | simp [bodyPost, giveUp]
end Go.Proofs.Ythbjcafldbocpaa
