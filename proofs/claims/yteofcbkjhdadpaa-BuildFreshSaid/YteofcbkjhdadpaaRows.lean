/-
  No cell of these rows narrows 'for every input' (looked for: loops, veiled, ifaces, maps, wideKeys, modest, calm, conditions, laid).
  DERIVED. THE GIVEN ROWS OF THIS SEAT. 8 by the template 'for every input the law returns true; each argument reads behind the call as it read before'; 0 by the template 'total and deterministic' (their statements: YteofcbkjhdadpaaTotals.lean).
  GIVEN WITH THE SEED: the statements are not yours to turn. If you find one false, say at which input.
  Laid BY PROGRAM, IN A SANDBOX (cutbox-rows.mjs): the forced cells as the released guide's own fill.sh prints them over the translation b9a73384074927ff… (all of the seat's roots in one cut). By AI agents, Wed Nov 11 2026. No macro, syntax, notation, axiom, sorry.
-/
import Derived.Test.YteofcbkjhdadpaaChecked
import GoSem.Claim
import GoSem.ClaimJoined
import GoSem.ClaimMapViews
import Derived.JoinedTies
import Derived.KernelRfl
namespace Go.Proofs.Yteofcbkjhdadpaa
/- THE CELL 'sum', in the pinned program and in every row, IS THE sha256 OF THE DUMP (.gsa) THAT YteofcbkjhdadpaaProg.lean LOADS. Nothing in Lean hashes anything: it is a label: what it is worth is what the hold of that sum in a sandbox is worth. -/
noncomputable def Try.pinned : Pinned := { name := "yteofcbkjhdadpaa", sum := "b9a73384074927ff8674192f25de7ab0e692f3f8169cfad554c365346cdcbb22", checked := Try.checked }
namespace Rows
def none {H : Type} : Left H := { results := [], args := [] }

/-- 'recouplaw05.BuildCauchy': WHATEVER THE INPUT: true; the input reads as it did. -/
def buildCauchySpec : ChangeSpec := { name := "buildCauchy", fn := fun _ => fun
  | [d1, d2] => { results := [.lit (.bool true)], args := [d1, d2] }
  | _ => none }
def buildCauchyRow : OpenClaim := { program := "yteofcbkjhdadpaa", sum := "b9a73384074927ff8674192f25de7ab0e692f3f8169cfad554c365346cdcbb22", func := "recoup/recouplaw05.BuildCauchy", spec := "buildCauchy", apart := false }
def BuildCauchySaid : Prop := buildCauchyRow.holds Try.pinned (OpenSpec.ofChange buildCauchySpec)

/-- ITS FALSE NEIGHBOUR: 'it returns false'. Refute it at one input. -/
def buildCauchyWrong : ChangeSpec := { name := "buildCauchy", fn := fun _ => fun
  | [d1, d2] => { results := [.lit (.bool false)], args := [d1, d2] }
  | _ => none }
def BuildCauchyWrongFalsely : Prop := buildCauchyRow.holds Try.pinned (OpenSpec.ofChange buildCauchyWrong)

/-- 'recouplaw05.BuildTops': WHATEVER THE INPUT: true; the input reads as it did. -/
def buildTopsSpec : ChangeSpec := { name := "buildTops", fn := fun _ => fun
  | [d] => { results := [.lit (.bool true)], args := [d] }
  | _ => none }
def buildTopsRow : OpenClaim := { program := "yteofcbkjhdadpaa", sum := "b9a73384074927ff8674192f25de7ab0e692f3f8169cfad554c365346cdcbb22", func := "recoup/recouplaw05.BuildTops", spec := "buildTops", inPlace := ["internal/bytealg.MakeNoZero"], unfollowed := true, recurses := true, apart := false }
def BuildTopsSaid : Prop := buildTopsRow.holds Try.pinned (OpenSpec.ofChange buildTopsSpec)

/-- ITS FALSE NEIGHBOUR: 'it returns false'. Refute it at one input. -/
def buildTopsWrong : ChangeSpec := { name := "buildTops", fn := fun _ => fun
  | [d] => { results := [.lit (.bool false)], args := [d] }
  | _ => none }
def BuildTopsWrongFalsely : Prop := buildTopsRow.holds Try.pinned (OpenSpec.ofChange buildTopsWrong)

/-- 'recouplaw05.BuildSquares': WHATEVER THE INPUT: true; the input reads as it did. -/
def buildSquaresSpec : ChangeSpec := { name := "buildSquares", fn := fun _ => fun
  | [d1, d2] => { results := [.lit (.bool true)], args := [d1, d2] }
  | _ => none }
def buildSquaresRow : OpenClaim := { program := "yteofcbkjhdadpaa", sum := "b9a73384074927ff8674192f25de7ab0e692f3f8169cfad554c365346cdcbb22", func := "recoup/recouplaw05.BuildSquares", spec := "buildSquares", inPlace := ["internal/bytealg.MakeNoZero"], unfollowed := true, recurses := true, apart := false }
def BuildSquaresSaid : Prop := buildSquaresRow.holds Try.pinned (OpenSpec.ofChange buildSquaresSpec)

/-- ITS FALSE NEIGHBOUR: 'it returns false'. Refute it at one input. -/
def buildSquaresWrong : ChangeSpec := { name := "buildSquares", fn := fun _ => fun
  | [d1, d2] => { results := [.lit (.bool false)], args := [d1, d2] }
  | _ => none }
def BuildSquaresWrongFalsely : Prop := buildSquaresRow.holds Try.pinned (OpenSpec.ofChange buildSquaresWrong)

/-- 'recouplaw05.BuildChecks': WHATEVER THE INPUT: true; the input reads as it did. -/
def buildChecksSpec : ChangeSpec := { name := "buildChecks", fn := fun _ => fun
  | [d1, d2, d3] => { results := [.lit (.bool true)], args := [d1, d2, d3] }
  | _ => none }
def buildChecksRow : OpenClaim := { program := "yteofcbkjhdadpaa", sum := "b9a73384074927ff8674192f25de7ab0e692f3f8169cfad554c365346cdcbb22", func := "recoup/recouplaw05.BuildChecks", spec := "buildChecks", inPlace := ["internal/bytealg.MakeNoZero"], unfollowed := true, recurses := true, apart := false }
def BuildChecksSaid : Prop := buildChecksRow.holds Try.pinned (OpenSpec.ofChange buildChecksSpec)

/-- ITS FALSE NEIGHBOUR: 'it returns false'. Refute it at one input. -/
def buildChecksWrong : ChangeSpec := { name := "buildChecks", fn := fun _ => fun
  | [d1, d2, d3] => { results := [.lit (.bool false)], args := [d1, d2, d3] }
  | _ => none }
def BuildChecksWrongFalsely : Prop := buildChecksRow.holds Try.pinned (OpenSpec.ofChange buildChecksWrong)

/-- 'recouplaw05.BuildMade': WHATEVER THE INPUT: true; the input reads as it did. -/
def buildMadeSpec : ChangeSpec := { name := "buildMade", fn := fun _ => fun
  | [d1, d2] => { results := [.lit (.bool true)], args := [d1, d2] }
  | _ => none }
def buildMadeRow : OpenClaim := { program := "yteofcbkjhdadpaa", sum := "b9a73384074927ff8674192f25de7ab0e692f3f8169cfad554c365346cdcbb22", func := "recoup/recouplaw05.BuildMade", spec := "buildMade", inPlace := ["internal/bytealg.MakeNoZero"], unfollowed := true, recurses := true, apart := false }
def BuildMadeSaid : Prop := buildMadeRow.holds Try.pinned (OpenSpec.ofChange buildMadeSpec)

/-- ITS FALSE NEIGHBOUR: 'it returns false'. Refute it at one input. -/
def buildMadeWrong : ChangeSpec := { name := "buildMade", fn := fun _ => fun
  | [d1, d2] => { results := [.lit (.bool false)], args := [d1, d2] }
  | _ => none }
def BuildMadeWrongFalsely : Prop := buildMadeRow.holds Try.pinned (OpenSpec.ofChange buildMadeWrong)

/-- 'recouplaw05.BuildTurned': WHATEVER THE INPUT: true; the input reads as it did. -/
def buildTurnedSpec : ChangeSpec := { name := "buildTurned", fn := fun _ => fun
  | [d] => { results := [.lit (.bool true)], args := [d] }
  | _ => none }
def buildTurnedRow : OpenClaim := { program := "yteofcbkjhdadpaa", sum := "b9a73384074927ff8674192f25de7ab0e692f3f8169cfad554c365346cdcbb22", func := "recoup/recouplaw05.BuildTurned", spec := "buildTurned", inPlace := ["internal/bytealg.MakeNoZero"], unfollowed := true, recurses := true, apart := false }
def BuildTurnedSaid : Prop := buildTurnedRow.holds Try.pinned (OpenSpec.ofChange buildTurnedSpec)

/-- ITS FALSE NEIGHBOUR: 'it returns false'. Refute it at one input. -/
def buildTurnedWrong : ChangeSpec := { name := "buildTurned", fn := fun _ => fun
  | [d] => { results := [.lit (.bool false)], args := [d] }
  | _ => none }
def BuildTurnedWrongFalsely : Prop := buildTurnedRow.holds Try.pinned (OpenSpec.ofChange buildTurnedWrong)

/-- 'recouplaw05.BuildAny': WHATEVER THE INPUT: true; the input reads as it did. -/
def buildAnySpec : ChangeSpec := { name := "buildAny", fn := fun _ => fun
  | [d1, d2, d3] => { results := [.lit (.bool true)], args := [d1, d2, d3] }
  | _ => none }
def buildAnyRow : OpenClaim := { program := "yteofcbkjhdadpaa", sum := "b9a73384074927ff8674192f25de7ab0e692f3f8169cfad554c365346cdcbb22", func := "recoup/recouplaw05.BuildAny", spec := "buildAny", inPlace := ["internal/bytealg.MakeNoZero"], unfollowed := true, recurses := true, apart := false }
def BuildAnySaid : Prop := buildAnyRow.holds Try.pinned (OpenSpec.ofChange buildAnySpec)

/-- ITS FALSE NEIGHBOUR: 'it returns false'. Refute it at one input. -/
def buildAnyWrong : ChangeSpec := { name := "buildAny", fn := fun _ => fun
  | [d1, d2, d3] => { results := [.lit (.bool false)], args := [d1, d2, d3] }
  | _ => none }
def BuildAnyWrongFalsely : Prop := buildAnyRow.holds Try.pinned (OpenSpec.ofChange buildAnyWrong)

/-- 'recouplaw05.BuildFresh': WHATEVER THE INPUT: true; the input reads as it did. -/
def buildFreshSpec : ChangeSpec := { name := "buildFresh", fn := fun _ => fun
  | [d1, d2, d3] => { results := [.lit (.bool true)], args := [d1, d2, d3] }
  | _ => none }
def buildFreshRow : OpenClaim := { program := "yteofcbkjhdadpaa", sum := "b9a73384074927ff8674192f25de7ab0e692f3f8169cfad554c365346cdcbb22", func := "recoup/recouplaw05.BuildFresh", spec := "buildFresh", inPlace := ["internal/bytealg.MakeNoZero"], unfollowed := true, recurses := true, apart := false }
def BuildFreshSaid : Prop := buildFreshRow.holds Try.pinned (OpenSpec.ofChange buildFreshSpec)

/-- ITS FALSE NEIGHBOUR: 'it returns false'. Refute it at one input. -/
def buildFreshWrong : ChangeSpec := { name := "buildFresh", fn := fun _ => fun
  | [d1, d2, d3] => { results := [.lit (.bool false)], args := [d1, d2, d3] }
  | _ => none }
def BuildFreshWrongFalsely : Prop := buildFreshRow.holds Try.pinned (OpenSpec.ofChange buildFreshWrong)

/- THE SECOND FORM. 'bulk': how many values and letters a reading holds, each counted each time it is reached (what is shared counts as often as it is met; a slice's spare places count too). A statement '..UptoSaid' is the law's where the arguments, and the package variables that the reading takes, are together of bulk at most 1048576: NARROWER than '..Said'. Prove '..Said' where nothing that the law and all that it calls make is longer than what came in: it says more and counts as full. Else prove '..UptoSaid'. A law counts once. -/
mutual
def uptoBulk {H : Type} : DataW H → Nat
  | .lit (.string bytes) => bytes.length + 1
  | .lit _ => 1
  | .nil => 1
  | .ptr d => uptoBulk d + 1
  | .slice elems spare => uptoBulkAll elems + uptoBulkAll spare + 1
  | .agg parts => uptoBulkAll parts + 1
  | .iface _ d => uptoBulk d + 1
  | .map entries => uptoBulkEntries entries + 1
  | .held _ => 1
def uptoBulkAll {H : Type} : List (DataW H) → Nat
  | [] => 0
  | d :: r => uptoBulk d + uptoBulkAll r
def uptoBulkEntries {H : Type} : List (Lit × DataW H) → Nat
  | [] => 0
  | x :: r => uptoBulkEntry x + uptoBulkEntries r
def uptoBulkEntry {H : Type} : Lit × DataW H → Nat
  | (.string bytes, d) => bytes.length + uptoBulk d + 1
  | (_, d) => uptoBulk d + 1
 end
def uptoSmall : (H : Type) → List (DataW H) → Bool := fun _ ds => decide (uptoBulkAll ds ≤ 1048576)
def OpenSpec.upto (s : _root_.Go.ChangeSpec) : _root_.Go.OpenSpec := { _root_.Go.OpenSpec.ofChange s with cond := some uptoSmall }

/-- 'recouplaw05.BuildCauchy', WHERE WHAT IT READS IS OF BULK AT MOST 1048576: true; the input reads as it did. -/
def buildCauchyUptoRow : OpenClaim := { program := "yteofcbkjhdadpaa", sum := "b9a73384074927ff8674192f25de7ab0e692f3f8169cfad554c365346cdcbb22", func := "recoup/recouplaw05.BuildCauchy", spec := "buildCauchy", apart := false, narrowed := true }
def BuildCauchyUptoSaid : Prop := buildCauchyUptoRow.holds Try.pinned (OpenSpec.upto buildCauchySpec)

/-- 'recouplaw05.BuildTops', WHERE WHAT IT READS IS OF BULK AT MOST 1048576: true; the input reads as it did. -/
def buildTopsUptoRow : OpenClaim := { program := "yteofcbkjhdadpaa", sum := "b9a73384074927ff8674192f25de7ab0e692f3f8169cfad554c365346cdcbb22", func := "recoup/recouplaw05.BuildTops", spec := "buildTops", inPlace := ["internal/bytealg.MakeNoZero"], unfollowed := true, recurses := true, apart := false, narrowed := true }
def BuildTopsUptoSaid : Prop := buildTopsUptoRow.holds Try.pinned (OpenSpec.upto buildTopsSpec)

/-- 'recouplaw05.BuildSquares', WHERE WHAT IT READS IS OF BULK AT MOST 1048576: true; the input reads as it did. -/
def buildSquaresUptoRow : OpenClaim := { program := "yteofcbkjhdadpaa", sum := "b9a73384074927ff8674192f25de7ab0e692f3f8169cfad554c365346cdcbb22", func := "recoup/recouplaw05.BuildSquares", spec := "buildSquares", inPlace := ["internal/bytealg.MakeNoZero"], unfollowed := true, recurses := true, apart := false, narrowed := true }
def BuildSquaresUptoSaid : Prop := buildSquaresUptoRow.holds Try.pinned (OpenSpec.upto buildSquaresSpec)

/-- 'recouplaw05.BuildChecks', WHERE WHAT IT READS IS OF BULK AT MOST 1048576: true; the input reads as it did. -/
def buildChecksUptoRow : OpenClaim := { program := "yteofcbkjhdadpaa", sum := "b9a73384074927ff8674192f25de7ab0e692f3f8169cfad554c365346cdcbb22", func := "recoup/recouplaw05.BuildChecks", spec := "buildChecks", inPlace := ["internal/bytealg.MakeNoZero"], unfollowed := true, recurses := true, apart := false, narrowed := true }
def BuildChecksUptoSaid : Prop := buildChecksUptoRow.holds Try.pinned (OpenSpec.upto buildChecksSpec)

/-- 'recouplaw05.BuildMade', WHERE WHAT IT READS IS OF BULK AT MOST 1048576: true; the input reads as it did. -/
def buildMadeUptoRow : OpenClaim := { program := "yteofcbkjhdadpaa", sum := "b9a73384074927ff8674192f25de7ab0e692f3f8169cfad554c365346cdcbb22", func := "recoup/recouplaw05.BuildMade", spec := "buildMade", inPlace := ["internal/bytealg.MakeNoZero"], unfollowed := true, recurses := true, apart := false, narrowed := true }
def BuildMadeUptoSaid : Prop := buildMadeUptoRow.holds Try.pinned (OpenSpec.upto buildMadeSpec)

/-- 'recouplaw05.BuildTurned', WHERE WHAT IT READS IS OF BULK AT MOST 1048576: true; the input reads as it did. -/
def buildTurnedUptoRow : OpenClaim := { program := "yteofcbkjhdadpaa", sum := "b9a73384074927ff8674192f25de7ab0e692f3f8169cfad554c365346cdcbb22", func := "recoup/recouplaw05.BuildTurned", spec := "buildTurned", inPlace := ["internal/bytealg.MakeNoZero"], unfollowed := true, recurses := true, apart := false, narrowed := true }
def BuildTurnedUptoSaid : Prop := buildTurnedUptoRow.holds Try.pinned (OpenSpec.upto buildTurnedSpec)

/-- 'recouplaw05.BuildAny', WHERE WHAT IT READS IS OF BULK AT MOST 1048576: true; the input reads as it did. -/
def buildAnyUptoRow : OpenClaim := { program := "yteofcbkjhdadpaa", sum := "b9a73384074927ff8674192f25de7ab0e692f3f8169cfad554c365346cdcbb22", func := "recoup/recouplaw05.BuildAny", spec := "buildAny", inPlace := ["internal/bytealg.MakeNoZero"], unfollowed := true, recurses := true, apart := false, narrowed := true }
def BuildAnyUptoSaid : Prop := buildAnyUptoRow.holds Try.pinned (OpenSpec.upto buildAnySpec)

/-- 'recouplaw05.BuildFresh', WHERE WHAT IT READS IS OF BULK AT MOST 1048576: true; the input reads as it did. -/
def buildFreshUptoRow : OpenClaim := { program := "yteofcbkjhdadpaa", sum := "b9a73384074927ff8674192f25de7ab0e692f3f8169cfad554c365346cdcbb22", func := "recoup/recouplaw05.BuildFresh", spec := "buildFresh", inPlace := ["internal/bytealg.MakeNoZero"], unfollowed := true, recurses := true, apart := false, narrowed := true }
def BuildFreshUptoSaid : Prop := buildFreshUptoRow.holds Try.pinned (OpenSpec.upto buildFreshSpec)

end Rows
end Go.Proofs.Yteofcbkjhdadpaa
