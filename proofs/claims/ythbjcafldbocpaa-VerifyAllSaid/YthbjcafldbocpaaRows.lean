/-
  No cell of these rows narrows 'for every input' (looked for: loops, veiled, ifaces, maps, wideKeys, modest, calm, conditions, laid).
  DERIVED. THE GIVEN ROWS OF THIS SEAT. 7 by the template 'for every input the law returns true; each argument reads behind the call as it read before'; 0 by the template 'total and deterministic' (their statements: YthbjcafldbocpaaTotals.lean).
  GIVEN WITH THE SEED: the statements are not yours to turn. If you find one false, say at which input.
  Laid BY PROGRAM, IN A SANDBOX (cutbox-rows.mjs): the forced cells as the released guide's own fill.sh prints them over the translation 4a193693e7ed8355… (all of the seat's roots in one cut). By AI agents, Wed Nov 11 2026. No macro, syntax, notation, axiom, sorry.
-/
import Derived.Test.YthbjcafldbocpaaChecked
import GoSem.Claim
import GoSem.ClaimJoined
import GoSem.ClaimMapViews
import Derived.JoinedTies
import Derived.KernelRfl
namespace Go.Proofs.Ythbjcafldbocpaa
/- THE CELL 'sum', in the pinned program and in every row, IS THE sha256 OF THE DUMP (.gsa) THAT YthbjcafldbocpaaProg.lean LOADS. Nothing in Lean hashes anything: it is a label: what it is worth is what the hold of that sum in a sandbox is worth. -/
noncomputable def Try.pinned : Pinned := { name := "ythbjcafldbocpaa", sum := "4a193693e7ed83559b7694fa12a93750a208b54872b3c7170a77c62e7d6431a1", checked := Try.checked }
namespace Rows
def none {H : Type} : Left H := { results := [], args := [] }

/-- 'recouplaw25.VerifyChecks': WHATEVER THE INPUT: true; the input reads as it did. -/
def verifyChecksSpec : ChangeSpec := { name := "verifyChecks", fn := fun _ => fun
  | [d1, d2] => { results := [.lit (.bool true)], args := [d1, d2] }
  | _ => none }
def verifyChecksRow : OpenClaim := { program := "ythbjcafldbocpaa", sum := "4a193693e7ed83559b7694fa12a93750a208b54872b3c7170a77c62e7d6431a1", func := "recoup/recouplaw25.VerifyChecks", spec := "verifyChecks", unfollowed := true, recurses := true, apart := false }
def VerifyChecksSaid : Prop := verifyChecksRow.holds Try.pinned (OpenSpec.ofChange verifyChecksSpec)

/-- ITS FALSE NEIGHBOUR: 'it returns false'. Refute it at one input. -/
def verifyChecksWrong : ChangeSpec := { name := "verifyChecks", fn := fun _ => fun
  | [d1, d2] => { results := [.lit (.bool false)], args := [d1, d2] }
  | _ => none }
def VerifyChecksWrongFalsely : Prop := verifyChecksRow.holds Try.pinned (OpenSpec.ofChange verifyChecksWrong)

/-- 'recouplaw25.VerifyRuns': WHATEVER THE INPUT: true; the input reads as it did. -/
def verifyRunsSpec : ChangeSpec := { name := "verifyRuns", fn := fun _ => fun
  | [d1, d2] => { results := [.lit (.bool true)], args := [d1, d2] }
  | _ => none }
def verifyRunsRow : OpenClaim := { program := "ythbjcafldbocpaa", sum := "4a193693e7ed83559b7694fa12a93750a208b54872b3c7170a77c62e7d6431a1", func := "recoup/recouplaw25.VerifyRuns", spec := "verifyRuns", unfollowed := true, recurses := true, apart := false }
def VerifyRunsSaid : Prop := verifyRunsRow.holds Try.pinned (OpenSpec.ofChange verifyRunsSpec)

/-- ITS FALSE NEIGHBOUR: 'it returns false'. Refute it at one input. -/
def verifyRunsWrong : ChangeSpec := { name := "verifyRuns", fn := fun _ => fun
  | [d1, d2] => { results := [.lit (.bool false)], args := [d1, d2] }
  | _ => none }
def VerifyRunsWrongFalsely : Prop := verifyRunsRow.holds Try.pinned (OpenSpec.ofChange verifyRunsWrong)

/-- 'recouplaw25.VerifyGiven': WHATEVER THE INPUT: true; the input reads as it did. -/
def verifyGivenSpec : ChangeSpec := { name := "verifyGiven", fn := fun _ => fun
  | [d1, d2] => { results := [.lit (.bool true)], args := [d1, d2] }
  | _ => none }
def verifyGivenRow : OpenClaim := { program := "ythbjcafldbocpaa", sum := "4a193693e7ed83559b7694fa12a93750a208b54872b3c7170a77c62e7d6431a1", func := "recoup/recouplaw25.VerifyGiven", spec := "verifyGiven", unfollowed := true, recurses := true, apart := false }
def VerifyGivenSaid : Prop := verifyGivenRow.holds Try.pinned (OpenSpec.ofChange verifyGivenSpec)

/-- ITS FALSE NEIGHBOUR: 'it returns false'. Refute it at one input. -/
def verifyGivenWrong : ChangeSpec := { name := "verifyGiven", fn := fun _ => fun
  | [d1, d2] => { results := [.lit (.bool false)], args := [d1, d2] }
  | _ => none }
def VerifyGivenWrongFalsely : Prop := verifyGivenRow.holds Try.pinned (OpenSpec.ofChange verifyGivenWrong)

/-- 'recouplaw25.VerifyTurned': WHATEVER THE INPUT: true; the input reads as it did. -/
def verifyTurnedSpec : ChangeSpec := { name := "verifyTurned", fn := fun _ => fun
  | [d1, d2, d3] => { results := [.lit (.bool true)], args := [d1, d2, d3] }
  | _ => none }
def verifyTurnedRow : OpenClaim := { program := "ythbjcafldbocpaa", sum := "4a193693e7ed83559b7694fa12a93750a208b54872b3c7170a77c62e7d6431a1", func := "recoup/recouplaw25.VerifyTurned", spec := "verifyTurned", unfollowed := true, recurses := true, apart := false }
def VerifyTurnedSaid : Prop := verifyTurnedRow.holds Try.pinned (OpenSpec.ofChange verifyTurnedSpec)

/-- ITS FALSE NEIGHBOUR: 'it returns false'. Refute it at one input. -/
def verifyTurnedWrong : ChangeSpec := { name := "verifyTurned", fn := fun _ => fun
  | [d1, d2, d3] => { results := [.lit (.bool false)], args := [d1, d2, d3] }
  | _ => none }
def VerifyTurnedWrongFalsely : Prop := verifyTurnedRow.holds Try.pinned (OpenSpec.ofChange verifyTurnedWrong)

/-- 'recouplaw25.VerifyMakes': WHATEVER THE INPUT: true; the input reads as it did. -/
def verifyMakesSpec : ChangeSpec := { name := "verifyMakes", fn := fun _ => fun
  | [d1, d2, d3] => { results := [.lit (.bool true)], args := [d1, d2, d3] }
  | _ => none }
def verifyMakesRow : OpenClaim := { program := "ythbjcafldbocpaa", sum := "4a193693e7ed83559b7694fa12a93750a208b54872b3c7170a77c62e7d6431a1", func := "recoup/recouplaw25.VerifyMakes", spec := "verifyMakes", unfollowed := true, recurses := true, apart := false }
def VerifyMakesSaid : Prop := verifyMakesRow.holds Try.pinned (OpenSpec.ofChange verifyMakesSpec)

/-- ITS FALSE NEIGHBOUR: 'it returns false'. Refute it at one input. -/
def verifyMakesWrong : ChangeSpec := { name := "verifyMakes", fn := fun _ => fun
  | [d1, d2, d3] => { results := [.lit (.bool false)], args := [d1, d2, d3] }
  | _ => none }
def VerifyMakesWrongFalsely : Prop := verifyMakesRow.holds Try.pinned (OpenSpec.ofChange verifyMakesWrong)

/-- 'recouplaw25.VerifyDoes': WHATEVER THE INPUT: true; the input reads as it did. -/
def verifyDoesSpec : ChangeSpec := { name := "verifyDoes", fn := fun _ => fun
  | [d1, d2, d3] => { results := [.lit (.bool true)], args := [d1, d2, d3] }
  | _ => none }
def verifyDoesRow : OpenClaim := { program := "ythbjcafldbocpaa", sum := "4a193693e7ed83559b7694fa12a93750a208b54872b3c7170a77c62e7d6431a1", func := "recoup/recouplaw25.VerifyDoes", spec := "verifyDoes", unfollowed := true, recurses := true, apart := false }
def VerifyDoesSaid : Prop := verifyDoesRow.holds Try.pinned (OpenSpec.ofChange verifyDoesSpec)

/-- ITS FALSE NEIGHBOUR: 'it returns false'. Refute it at one input. -/
def verifyDoesWrong : ChangeSpec := { name := "verifyDoes", fn := fun _ => fun
  | [d1, d2, d3] => { results := [.lit (.bool false)], args := [d1, d2, d3] }
  | _ => none }
def VerifyDoesWrongFalsely : Prop := verifyDoesRow.holds Try.pinned (OpenSpec.ofChange verifyDoesWrong)

/-- 'recouplaw25.VerifyAll': WHATEVER THE INPUT: true; the input reads as it did. -/
def verifyAllSpec : ChangeSpec := { name := "verifyAll", fn := fun _ => fun
  | [d1, d2, d3] => { results := [.lit (.bool true)], args := [d1, d2, d3] }
  | _ => none }
def verifyAllRow : OpenClaim := { program := "ythbjcafldbocpaa", sum := "4a193693e7ed83559b7694fa12a93750a208b54872b3c7170a77c62e7d6431a1", func := "recoup/recouplaw25.VerifyAll", spec := "verifyAll", unfollowed := true, recurses := true, apart := false }
def VerifyAllSaid : Prop := verifyAllRow.holds Try.pinned (OpenSpec.ofChange verifyAllSpec)

/-- ITS FALSE NEIGHBOUR: 'it returns false'. Refute it at one input. -/
def verifyAllWrong : ChangeSpec := { name := "verifyAll", fn := fun _ => fun
  | [d1, d2, d3] => { results := [.lit (.bool false)], args := [d1, d2, d3] }
  | _ => none }
def VerifyAllWrongFalsely : Prop := verifyAllRow.holds Try.pinned (OpenSpec.ofChange verifyAllWrong)

/- THE SECOND FORM. 'bulk': how many values and letters a reading holds, each counted each time it is reached (what is shared counts as often as it is met; a slice's spare places count too). A statement '..UptoSaid' is the law's where the arguments, and the package variables that the reading takes, are together of bulk at most 1048576: NARROWER than '..Said'. Prove '..Said' where nothing that the law and all that it calls make is longer than what came in: it says more and counts as full. Else prove '..UptoSaid'. A law counts once. -/
mutual
def uptoBulk {H : Type} : DataW H → Nat
  | .lit (.string bytes) => bytes.length + 1
  | .lit _ => 1
  | .nil => 1
  | .ptr d => uptoBulk d + 1
  | .slice elems spare => uptoBulkAll elems + uptoBulkAll spare + 1
  | .agg parts => uptoBulkAll parts + 1
  | .iface _ d => uptoBulk d + 1
  | .map entries => uptoBulkEntries entries + 1
  | .held _ => 1
def uptoBulkAll {H : Type} : List (DataW H) → Nat
  | [] => 0
  | d :: r => uptoBulk d + uptoBulkAll r
def uptoBulkEntries {H : Type} : List (Lit × DataW H) → Nat
  | [] => 0
  | x :: r => uptoBulkEntry x + uptoBulkEntries r
def uptoBulkEntry {H : Type} : Lit × DataW H → Nat
  | (.string bytes, d) => bytes.length + uptoBulk d + 1
  | (_, d) => uptoBulk d + 1
 end
def uptoSmall : (H : Type) → List (DataW H) → Bool := fun _ ds => decide (uptoBulkAll ds ≤ 1048576)
def OpenSpec.upto (s : _root_.Go.ChangeSpec) : _root_.Go.OpenSpec := { _root_.Go.OpenSpec.ofChange s with cond := some uptoSmall }

/-- 'recouplaw25.VerifyChecks', WHERE WHAT IT READS IS OF BULK AT MOST 1048576: true; the input reads as it did. -/
def verifyChecksUptoRow : OpenClaim := { program := "ythbjcafldbocpaa", sum := "4a193693e7ed83559b7694fa12a93750a208b54872b3c7170a77c62e7d6431a1", func := "recoup/recouplaw25.VerifyChecks", spec := "verifyChecks", unfollowed := true, recurses := true, apart := false, narrowed := true }
def VerifyChecksUptoSaid : Prop := verifyChecksUptoRow.holds Try.pinned (OpenSpec.upto verifyChecksSpec)

/-- 'recouplaw25.VerifyRuns', WHERE WHAT IT READS IS OF BULK AT MOST 1048576: true; the input reads as it did. -/
def verifyRunsUptoRow : OpenClaim := { program := "ythbjcafldbocpaa", sum := "4a193693e7ed83559b7694fa12a93750a208b54872b3c7170a77c62e7d6431a1", func := "recoup/recouplaw25.VerifyRuns", spec := "verifyRuns", unfollowed := true, recurses := true, apart := false, narrowed := true }
def VerifyRunsUptoSaid : Prop := verifyRunsUptoRow.holds Try.pinned (OpenSpec.upto verifyRunsSpec)

/-- 'recouplaw25.VerifyGiven', WHERE WHAT IT READS IS OF BULK AT MOST 1048576: true; the input reads as it did. -/
def verifyGivenUptoRow : OpenClaim := { program := "ythbjcafldbocpaa", sum := "4a193693e7ed83559b7694fa12a93750a208b54872b3c7170a77c62e7d6431a1", func := "recoup/recouplaw25.VerifyGiven", spec := "verifyGiven", unfollowed := true, recurses := true, apart := false, narrowed := true }
def VerifyGivenUptoSaid : Prop := verifyGivenUptoRow.holds Try.pinned (OpenSpec.upto verifyGivenSpec)

/-- 'recouplaw25.VerifyTurned', WHERE WHAT IT READS IS OF BULK AT MOST 1048576: true; the input reads as it did. -/
def verifyTurnedUptoRow : OpenClaim := { program := "ythbjcafldbocpaa", sum := "4a193693e7ed83559b7694fa12a93750a208b54872b3c7170a77c62e7d6431a1", func := "recoup/recouplaw25.VerifyTurned", spec := "verifyTurned", unfollowed := true, recurses := true, apart := false, narrowed := true }
def VerifyTurnedUptoSaid : Prop := verifyTurnedUptoRow.holds Try.pinned (OpenSpec.upto verifyTurnedSpec)

/-- 'recouplaw25.VerifyMakes', WHERE WHAT IT READS IS OF BULK AT MOST 1048576: true; the input reads as it did. -/
def verifyMakesUptoRow : OpenClaim := { program := "ythbjcafldbocpaa", sum := "4a193693e7ed83559b7694fa12a93750a208b54872b3c7170a77c62e7d6431a1", func := "recoup/recouplaw25.VerifyMakes", spec := "verifyMakes", unfollowed := true, recurses := true, apart := false, narrowed := true }
def VerifyMakesUptoSaid : Prop := verifyMakesUptoRow.holds Try.pinned (OpenSpec.upto verifyMakesSpec)

/-- 'recouplaw25.VerifyDoes', WHERE WHAT IT READS IS OF BULK AT MOST 1048576: true; the input reads as it did. -/
def verifyDoesUptoRow : OpenClaim := { program := "ythbjcafldbocpaa", sum := "4a193693e7ed83559b7694fa12a93750a208b54872b3c7170a77c62e7d6431a1", func := "recoup/recouplaw25.VerifyDoes", spec := "verifyDoes", unfollowed := true, recurses := true, apart := false, narrowed := true }
def VerifyDoesUptoSaid : Prop := verifyDoesUptoRow.holds Try.pinned (OpenSpec.upto verifyDoesSpec)

/-- 'recouplaw25.VerifyAll', WHERE WHAT IT READS IS OF BULK AT MOST 1048576: true; the input reads as it did. -/
def verifyAllUptoRow : OpenClaim := { program := "ythbjcafldbocpaa", sum := "4a193693e7ed83559b7694fa12a93750a208b54872b3c7170a77c62e7d6431a1", func := "recoup/recouplaw25.VerifyAll", spec := "verifyAll", unfollowed := true, recurses := true, apart := false, narrowed := true }
def VerifyAllUptoSaid : Prop := verifyAllUptoRow.holds Try.pinned (OpenSpec.upto verifyAllSpec)

end Rows
end Go.Proofs.Ythbjcafldbocpaa
