/- The walk of the looker's deferred function: it takes the panic up, or finds none. -/
import Derived.Test.YthbjcafldbocpaaVneed
import Derived.Test.YthbjcafldbocpaaMem
import Derived.Tactics
import Derived.Tactics2
import Derived.Defers
import Derived.Recover
import Derived.Laws.Pointers
namespace Go.Proofs.Ythbjcafldbocpaa
open Go.RowKit
set_option linter.unusedVariables false
set_option linter.unusedSimpArgs false
theorem catch_idle (p : Addr) (w : World) :
    CallsD Try.prog 63 #[.pointer (some p)] .returning w fun e u' w' => e = .returned (.tuple #[]) ∧ u' = .returning ∧ w' = w := by
  refine callsD_of_wpS Try.func63 rfl fun c₀ cs hu => ?_
  apply wpS_seq
  apply wpS_region
  simp [wpOpsS, go_sem, recoverD, hu, Try.ntmps63, Exit.thenS]
  refine wpS_of_wp ?_
  go_wp2_with fail
  cases c₀
  simp_all [bodyPostS, results, Try.results63]
set_option maxRecDepth 100000 in
theorem catch_panic (g : Nat) (w : World) (u : Value) (hr : Row w g 4 [u]) :
    CallsD Try.prog 63 #[.pointer (some ⟨g, 0, none⟩)] (.panicking giveUp) w fun e u' w' => e = .returned (.tuple #[]) ∧ u' = .panicking [{ v := .iface 125 (.agg #[]), recovered := true }] ∧ w' = (w.alloc (.cells #[] 125)).setCell ⟨g, 0, none⟩ (.bool false) := by
  have hr1 := hr.alloc (.cells #[] 125)
  have hc : (w.alloc (.cells #[] 125)).cell? ⟨g, 0, none⟩ = some u := hr1.cell 0
  have hz : (w.alloc (.cells #[] 125)).frozen? ⟨g, 0, none⟩ = false := hr1.frozen 0
  refine callsD_of_wpS Try.func63 rfl fun c₀ cs hu => ?_
  apply wpS_seq
  apply wpS_region
  simp [wpOpsS, go_sem, recoverD, hu, giveUp, Try.ntmps63, Exit.thenS]
  refine wpS_of_wp ?_
  generalize hQ : (fun e a' w' => bodyPostS Try.prog _ c₀ cs _ e a' _ w') = Q
  change Code.wp _ _ Q { tmps := #[.pointer (some ⟨g, 0, none⟩), .iface 125 (.agg #[]), undef, undef, .iface 125 (.agg #[]), undef, undef, undef, undef, undef, undef, undef, undef, undef, undef], defers := [] } w
  have hta : ∀ w : World, (Instr.typeAssert (.iface 125 (.agg #[])) 20 125 true).run Try.prog w = .ok (.tuple #[.agg #[], .bool true]) w := fun w => by rfl
  apply wp_seq
  go_wp2_with fail
  rw [← hQ]
  simp [bodyPostS, results, Try.results63]
end Go.Proofs.Ythbjcafldbocpaa
