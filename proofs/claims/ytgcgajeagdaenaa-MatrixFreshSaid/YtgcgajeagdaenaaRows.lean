/-
  No cell of these rows narrows 'for every input' (looked for: loops, veiled, ifaces, maps, wideKeys, modest, calm, conditions, laid).
  DERIVED. THE GIVEN ROWS OF THIS SEAT. 10 by the template 'for every input the law returns true; each argument reads behind the call as it read before'; 0 by the template 'total and deterministic' (their statements: YtgcgajeagdaenaaTotals.lean).
  GIVEN WITH THE SEED: the statements are not yours to turn. If you find one false, say at which input.
  Laid BY PROGRAM, IN A SANDBOX (cutbox-rows.mjs): the forced cells as the released guide's own fill.sh prints them over the translation 955d7bce6356d3dd… (all of the seat's roots in one cut). By AI agents, Wed Nov 11 2026. No macro, syntax, notation, axiom, sorry.
-/
import Derived.Test.YtgcgajeagdaenaaChecked
import GoSem.Claim
import GoSem.ClaimJoined
import GoSem.ClaimMapViews
import Derived.JoinedTies
import Derived.KernelRfl
namespace Go.Proofs.Ytgcgajeagdaenaa
/- THE CELL 'sum', in the pinned program and in every row, IS THE sha256 OF THE DUMP (.gsa) THAT YtgcgajeagdaenaaProg.lean LOADS. Nothing in Lean hashes anything: it is a label: what it is worth is what the hold of that sum in a sandbox is worth. -/
noncomputable def Try.pinned : Pinned := { name := "ytgcgajeagdaenaa", sum := "955d7bce6356d3dd3ef6e8110de1537ae47a14ab850b47d4f22d8c8886a8ada0", checked := Try.checked }
namespace Rows
def none {H : Type} : Left H := { results := [], args := [] }

/-- 'recouplaw03.MatrixMade': WHATEVER THE INPUT: true; the input reads as it did. -/
def matrixMadeSpec : ChangeSpec := { name := "matrixMade", fn := fun _ => fun
  | [d1, d2, d3] => { results := [.lit (.bool true)], args := [d1, d2, d3] }
  | _ => none }
def matrixMadeRow : OpenClaim := { program := "ytgcgajeagdaenaa", sum := "955d7bce6356d3dd3ef6e8110de1537ae47a14ab850b47d4f22d8c8886a8ada0", func := "recoup/recouplaw03.MatrixMade", spec := "matrixMade", apart := false }
def MatrixMadeSaid : Prop := matrixMadeRow.holds Try.pinned (OpenSpec.ofChange matrixMadeSpec)

/-- ITS FALSE NEIGHBOUR: 'it returns false'. Refute it at one input. -/
def matrixMadeWrong : ChangeSpec := { name := "matrixMade", fn := fun _ => fun
  | [d1, d2, d3] => { results := [.lit (.bool false)], args := [d1, d2, d3] }
  | _ => none }
def MatrixMadeWrongFalsely : Prop := matrixMadeRow.holds Try.pinned (OpenSpec.ofChange matrixMadeWrong)

/-- 'recouplaw03.MatrixPicks': WHATEVER THE INPUT: true; the input reads as it did. -/
def matrixPicksSpec : ChangeSpec := { name := "matrixPicks", fn := fun _ => fun
  | [d1, d2] => { results := [.lit (.bool true)], args := [d1, d2] }
  | _ => none }
def matrixPicksRow : OpenClaim := { program := "ytgcgajeagdaenaa", sum := "955d7bce6356d3dd3ef6e8110de1537ae47a14ab850b47d4f22d8c8886a8ada0", func := "recoup/recouplaw03.MatrixPicks", spec := "matrixPicks", apart := false }
def MatrixPicksSaid : Prop := matrixPicksRow.holds Try.pinned (OpenSpec.ofChange matrixPicksSpec)

/-- ITS FALSE NEIGHBOUR: 'it returns false'. Refute it at one input. -/
def matrixPicksWrong : ChangeSpec := { name := "matrixPicks", fn := fun _ => fun
  | [d1, d2] => { results := [.lit (.bool false)], args := [d1, d2] }
  | _ => none }
def MatrixPicksWrongFalsely : Prop := matrixPicksRow.holds Try.pinned (OpenSpec.ofChange matrixPicksWrong)

/-- 'recouplaw03.MatrixRows': WHATEVER THE INPUT: true; the input reads as it did. -/
def matrixRowsSpec : ChangeSpec := { name := "matrixRows", fn := fun _ => fun
  | [d1, d2, d3] => { results := [.lit (.bool true)], args := [d1, d2, d3] }
  | _ => none }
def matrixRowsRow : OpenClaim := { program := "ytgcgajeagdaenaa", sum := "955d7bce6356d3dd3ef6e8110de1537ae47a14ab850b47d4f22d8c8886a8ada0", func := "recoup/recouplaw03.MatrixRows", spec := "matrixRows", apart := false }
def MatrixRowsSaid : Prop := matrixRowsRow.holds Try.pinned (OpenSpec.ofChange matrixRowsSpec)

/-- ITS FALSE NEIGHBOUR: 'it returns false'. Refute it at one input. -/
def matrixRowsWrong : ChangeSpec := { name := "matrixRows", fn := fun _ => fun
  | [d1, d2, d3] => { results := [.lit (.bool false)], args := [d1, d2, d3] }
  | _ => none }
def MatrixRowsWrongFalsely : Prop := matrixRowsRow.holds Try.pinned (OpenSpec.ofChange matrixRowsWrong)

/-- 'recouplaw03.MatrixGroups': WHATEVER THE INPUT: true; the input reads as it did. -/
def matrixGroupsSpec : ChangeSpec := { name := "matrixGroups", fn := fun _ => fun
  | [d1, d2, d3] => { results := [.lit (.bool true)], args := [d1, d2, d3] }
  | _ => none }
def matrixGroupsRow : OpenClaim := { program := "ytgcgajeagdaenaa", sum := "955d7bce6356d3dd3ef6e8110de1537ae47a14ab850b47d4f22d8c8886a8ada0", func := "recoup/recouplaw03.MatrixGroups", spec := "matrixGroups", apart := false }
def MatrixGroupsSaid : Prop := matrixGroupsRow.holds Try.pinned (OpenSpec.ofChange matrixGroupsSpec)

/-- ITS FALSE NEIGHBOUR: 'it returns false'. Refute it at one input. -/
def matrixGroupsWrong : ChangeSpec := { name := "matrixGroups", fn := fun _ => fun
  | [d1, d2, d3] => { results := [.lit (.bool false)], args := [d1, d2, d3] }
  | _ => none }
def MatrixGroupsWrongFalsely : Prop := matrixGroupsRow.holds Try.pinned (OpenSpec.ofChange matrixGroupsWrong)

/-- 'recouplaw03.MatrixTurns': WHATEVER THE INPUT: true; the input reads as it did. -/
def matrixTurnsSpec : ChangeSpec := { name := "matrixTurns", fn := fun _ => fun
  | [d1, d2] => { results := [.lit (.bool true)], args := [d1, d2] }
  | _ => none }
def matrixTurnsRow : OpenClaim := { program := "ytgcgajeagdaenaa", sum := "955d7bce6356d3dd3ef6e8110de1537ae47a14ab850b47d4f22d8c8886a8ada0", func := "recoup/recouplaw03.MatrixTurns", spec := "matrixTurns", apart := false }
def MatrixTurnsSaid : Prop := matrixTurnsRow.holds Try.pinned (OpenSpec.ofChange matrixTurnsSpec)

/-- ITS FALSE NEIGHBOUR: 'it returns false'. Refute it at one input. -/
def matrixTurnsWrong : ChangeSpec := { name := "matrixTurns", fn := fun _ => fun
  | [d1, d2] => { results := [.lit (.bool false)], args := [d1, d2] }
  | _ => none }
def MatrixTurnsWrongFalsely : Prop := matrixTurnsRow.holds Try.pinned (OpenSpec.ofChange matrixTurnsWrong)

/-- 'recouplaw03.MatrixProducts': WHATEVER THE INPUT: true; the input reads as it did. -/
def matrixProductsSpec : ChangeSpec := { name := "matrixProducts", fn := fun _ => fun
  | [d1, d2, d3] => { results := [.lit (.bool true)], args := [d1, d2, d3] }
  | _ => none }
def matrixProductsRow : OpenClaim := { program := "ytgcgajeagdaenaa", sum := "955d7bce6356d3dd3ef6e8110de1537ae47a14ab850b47d4f22d8c8886a8ada0", func := "recoup/recouplaw03.MatrixProducts", spec := "matrixProducts", apart := false }
def MatrixProductsSaid : Prop := matrixProductsRow.holds Try.pinned (OpenSpec.ofChange matrixProductsSpec)

/-- ITS FALSE NEIGHBOUR: 'it returns false'. Refute it at one input. -/
def matrixProductsWrong : ChangeSpec := { name := "matrixProducts", fn := fun _ => fun
  | [d1, d2, d3] => { results := [.lit (.bool false)], args := [d1, d2, d3] }
  | _ => none }
def MatrixProductsWrongFalsely : Prop := matrixProductsRow.holds Try.pinned (OpenSpec.ofChange matrixProductsWrong)

/-- 'recouplaw03.MatrixLaid': WHATEVER THE INPUT: true; the input reads as it did. -/
def matrixLaidSpec : ChangeSpec := { name := "matrixLaid", fn := fun _ => fun
  | [d1, d2] => { results := [.lit (.bool true)], args := [d1, d2] }
  | _ => none }
def matrixLaidRow : OpenClaim := { program := "ytgcgajeagdaenaa", sum := "955d7bce6356d3dd3ef6e8110de1537ae47a14ab850b47d4f22d8c8886a8ada0", func := "recoup/recouplaw03.MatrixLaid", spec := "matrixLaid", apart := false }
def MatrixLaidSaid : Prop := matrixLaidRow.holds Try.pinned (OpenSpec.ofChange matrixLaidSpec)

/-- ITS FALSE NEIGHBOUR: 'it returns false'. Refute it at one input. -/
def matrixLaidWrong : ChangeSpec := { name := "matrixLaid", fn := fun _ => fun
  | [d1, d2] => { results := [.lit (.bool false)], args := [d1, d2] }
  | _ => none }
def MatrixLaidWrongFalsely : Prop := matrixLaidRow.holds Try.pinned (OpenSpec.ofChange matrixLaidWrong)

/-- 'recouplaw03.MatrixApplies': WHATEVER THE INPUT: true; the input reads as it did. -/
def matrixAppliesSpec : ChangeSpec := { name := "matrixApplies", fn := fun _ => fun
  | [d1, d2, d3] => { results := [.lit (.bool true)], args := [d1, d2, d3] }
  | _ => none }
def matrixAppliesRow : OpenClaim := { program := "ytgcgajeagdaenaa", sum := "955d7bce6356d3dd3ef6e8110de1537ae47a14ab850b47d4f22d8c8886a8ada0", func := "recoup/recouplaw03.MatrixApplies", spec := "matrixApplies", apart := false }
def MatrixAppliesSaid : Prop := matrixAppliesRow.holds Try.pinned (OpenSpec.ofChange matrixAppliesSpec)

/-- ITS FALSE NEIGHBOUR: 'it returns false'. Refute it at one input. -/
def matrixAppliesWrong : ChangeSpec := { name := "matrixApplies", fn := fun _ => fun
  | [d1, d2, d3] => { results := [.lit (.bool false)], args := [d1, d2, d3] }
  | _ => none }
def MatrixAppliesWrongFalsely : Prop := matrixAppliesRow.holds Try.pinned (OpenSpec.ofChange matrixAppliesWrong)

/-- 'recouplaw03.MatrixKrons': WHATEVER THE INPUT: true; the input reads as it did. -/
def matrixKronsSpec : ChangeSpec := { name := "matrixKrons", fn := fun _ => fun
  | [d1, d2] => { results := [.lit (.bool true)], args := [d1, d2] }
  | _ => none }
def matrixKronsRow : OpenClaim := { program := "ytgcgajeagdaenaa", sum := "955d7bce6356d3dd3ef6e8110de1537ae47a14ab850b47d4f22d8c8886a8ada0", func := "recoup/recouplaw03.MatrixKrons", spec := "matrixKrons", apart := false }
def MatrixKronsSaid : Prop := matrixKronsRow.holds Try.pinned (OpenSpec.ofChange matrixKronsSpec)

/-- ITS FALSE NEIGHBOUR: 'it returns false'. Refute it at one input. -/
def matrixKronsWrong : ChangeSpec := { name := "matrixKrons", fn := fun _ => fun
  | [d1, d2] => { results := [.lit (.bool false)], args := [d1, d2] }
  | _ => none }
def MatrixKronsWrongFalsely : Prop := matrixKronsRow.holds Try.pinned (OpenSpec.ofChange matrixKronsWrong)

/-- 'recouplaw03.MatrixFresh': WHATEVER THE INPUT: true; the input reads as it did. -/
def matrixFreshSpec : ChangeSpec := { name := "matrixFresh", fn := fun _ => fun
  | [d1, d2] => { results := [.lit (.bool true)], args := [d1, d2] }
  | _ => none }
def matrixFreshRow : OpenClaim := { program := "ytgcgajeagdaenaa", sum := "955d7bce6356d3dd3ef6e8110de1537ae47a14ab850b47d4f22d8c8886a8ada0", func := "recoup/recouplaw03.MatrixFresh", spec := "matrixFresh", apart := false }
def MatrixFreshSaid : Prop := matrixFreshRow.holds Try.pinned (OpenSpec.ofChange matrixFreshSpec)

/-- ITS FALSE NEIGHBOUR: 'it returns false'. Refute it at one input. -/
def matrixFreshWrong : ChangeSpec := { name := "matrixFresh", fn := fun _ => fun
  | [d1, d2] => { results := [.lit (.bool false)], args := [d1, d2] }
  | _ => none }
def MatrixFreshWrongFalsely : Prop := matrixFreshRow.holds Try.pinned (OpenSpec.ofChange matrixFreshWrong)

/- THE SECOND FORM. 'bulk': how many values and letters a reading holds, each counted each time it is reached (what is shared counts as often as it is met; a slice's spare places count too). A statement '..UptoSaid' is the law's where the arguments, and the package variables that the reading takes, are together of bulk at most 1048576: NARROWER than '..Said'. Prove '..Said' where nothing that the law and all that it calls make is longer than what came in: it says more and counts as full. Else prove '..UptoSaid'. A law counts once. -/
mutual
def uptoBulk {H : Type} : DataW H → Nat
  | .lit (.string bytes) => bytes.length + 1
  | .lit _ => 1
  | .nil => 1
  | .ptr d => uptoBulk d + 1
  | .slice elems spare => uptoBulkAll elems + uptoBulkAll spare + 1
  | .agg parts => uptoBulkAll parts + 1
  | .iface _ d => uptoBulk d + 1
  | .map entries => uptoBulkEntries entries + 1
  | .held _ => 1
def uptoBulkAll {H : Type} : List (DataW H) → Nat
  | [] => 0
  | d :: r => uptoBulk d + uptoBulkAll r
def uptoBulkEntries {H : Type} : List (Lit × DataW H) → Nat
  | [] => 0
  | x :: r => uptoBulkEntry x + uptoBulkEntries r
def uptoBulkEntry {H : Type} : Lit × DataW H → Nat
  | (.string bytes, d) => bytes.length + uptoBulk d + 1
  | (_, d) => uptoBulk d + 1
 end
def uptoSmall : (H : Type) → List (DataW H) → Bool := fun _ ds => decide (uptoBulkAll ds ≤ 1048576)
def OpenSpec.upto (s : _root_.Go.ChangeSpec) : _root_.Go.OpenSpec := { _root_.Go.OpenSpec.ofChange s with cond := some uptoSmall }

/-- 'recouplaw03.MatrixMade', WHERE WHAT IT READS IS OF BULK AT MOST 1048576: true; the input reads as it did. -/
def matrixMadeUptoRow : OpenClaim := { program := "ytgcgajeagdaenaa", sum := "955d7bce6356d3dd3ef6e8110de1537ae47a14ab850b47d4f22d8c8886a8ada0", func := "recoup/recouplaw03.MatrixMade", spec := "matrixMade", apart := false, narrowed := true }
def MatrixMadeUptoSaid : Prop := matrixMadeUptoRow.holds Try.pinned (OpenSpec.upto matrixMadeSpec)

/-- 'recouplaw03.MatrixPicks', WHERE WHAT IT READS IS OF BULK AT MOST 1048576: true; the input reads as it did. -/
def matrixPicksUptoRow : OpenClaim := { program := "ytgcgajeagdaenaa", sum := "955d7bce6356d3dd3ef6e8110de1537ae47a14ab850b47d4f22d8c8886a8ada0", func := "recoup/recouplaw03.MatrixPicks", spec := "matrixPicks", apart := false, narrowed := true }
def MatrixPicksUptoSaid : Prop := matrixPicksUptoRow.holds Try.pinned (OpenSpec.upto matrixPicksSpec)

/-- 'recouplaw03.MatrixRows', WHERE WHAT IT READS IS OF BULK AT MOST 1048576: true; the input reads as it did. -/
def matrixRowsUptoRow : OpenClaim := { program := "ytgcgajeagdaenaa", sum := "955d7bce6356d3dd3ef6e8110de1537ae47a14ab850b47d4f22d8c8886a8ada0", func := "recoup/recouplaw03.MatrixRows", spec := "matrixRows", apart := false, narrowed := true }
def MatrixRowsUptoSaid : Prop := matrixRowsUptoRow.holds Try.pinned (OpenSpec.upto matrixRowsSpec)

/-- 'recouplaw03.MatrixGroups', WHERE WHAT IT READS IS OF BULK AT MOST 1048576: true; the input reads as it did. -/
def matrixGroupsUptoRow : OpenClaim := { program := "ytgcgajeagdaenaa", sum := "955d7bce6356d3dd3ef6e8110de1537ae47a14ab850b47d4f22d8c8886a8ada0", func := "recoup/recouplaw03.MatrixGroups", spec := "matrixGroups", apart := false, narrowed := true }
def MatrixGroupsUptoSaid : Prop := matrixGroupsUptoRow.holds Try.pinned (OpenSpec.upto matrixGroupsSpec)

/-- 'recouplaw03.MatrixTurns', WHERE WHAT IT READS IS OF BULK AT MOST 1048576: true; the input reads as it did. -/
def matrixTurnsUptoRow : OpenClaim := { program := "ytgcgajeagdaenaa", sum := "955d7bce6356d3dd3ef6e8110de1537ae47a14ab850b47d4f22d8c8886a8ada0", func := "recoup/recouplaw03.MatrixTurns", spec := "matrixTurns", apart := false, narrowed := true }
def MatrixTurnsUptoSaid : Prop := matrixTurnsUptoRow.holds Try.pinned (OpenSpec.upto matrixTurnsSpec)

/-- 'recouplaw03.MatrixProducts', WHERE WHAT IT READS IS OF BULK AT MOST 1048576: true; the input reads as it did. -/
def matrixProductsUptoRow : OpenClaim := { program := "ytgcgajeagdaenaa", sum := "955d7bce6356d3dd3ef6e8110de1537ae47a14ab850b47d4f22d8c8886a8ada0", func := "recoup/recouplaw03.MatrixProducts", spec := "matrixProducts", apart := false, narrowed := true }
def MatrixProductsUptoSaid : Prop := matrixProductsUptoRow.holds Try.pinned (OpenSpec.upto matrixProductsSpec)

/-- 'recouplaw03.MatrixLaid', WHERE WHAT IT READS IS OF BULK AT MOST 1048576: true; the input reads as it did. -/
def matrixLaidUptoRow : OpenClaim := { program := "ytgcgajeagdaenaa", sum := "955d7bce6356d3dd3ef6e8110de1537ae47a14ab850b47d4f22d8c8886a8ada0", func := "recoup/recouplaw03.MatrixLaid", spec := "matrixLaid", apart := false, narrowed := true }
def MatrixLaidUptoSaid : Prop := matrixLaidUptoRow.holds Try.pinned (OpenSpec.upto matrixLaidSpec)

/-- 'recouplaw03.MatrixApplies', WHERE WHAT IT READS IS OF BULK AT MOST 1048576: true; the input reads as it did. -/
def matrixAppliesUptoRow : OpenClaim := { program := "ytgcgajeagdaenaa", sum := "955d7bce6356d3dd3ef6e8110de1537ae47a14ab850b47d4f22d8c8886a8ada0", func := "recoup/recouplaw03.MatrixApplies", spec := "matrixApplies", apart := false, narrowed := true }
def MatrixAppliesUptoSaid : Prop := matrixAppliesUptoRow.holds Try.pinned (OpenSpec.upto matrixAppliesSpec)

/-- 'recouplaw03.MatrixKrons', WHERE WHAT IT READS IS OF BULK AT MOST 1048576: true; the input reads as it did. -/
def matrixKronsUptoRow : OpenClaim := { program := "ytgcgajeagdaenaa", sum := "955d7bce6356d3dd3ef6e8110de1537ae47a14ab850b47d4f22d8c8886a8ada0", func := "recoup/recouplaw03.MatrixKrons", spec := "matrixKrons", apart := false, narrowed := true }
def MatrixKronsUptoSaid : Prop := matrixKronsUptoRow.holds Try.pinned (OpenSpec.upto matrixKronsSpec)

/-- 'recouplaw03.MatrixFresh', WHERE WHAT IT READS IS OF BULK AT MOST 1048576: true; the input reads as it did. -/
def matrixFreshUptoRow : OpenClaim := { program := "ytgcgajeagdaenaa", sum := "955d7bce6356d3dd3ef6e8110de1537ae47a14ab850b47d4f22d8c8886a8ada0", func := "recoup/recouplaw03.MatrixFresh", spec := "matrixFresh", apart := false, narrowed := true }
def MatrixFreshUptoSaid : Prop := matrixFreshUptoRow.holds Try.pinned (OpenSpec.upto matrixFreshSpec)

end Rows
end Go.Proofs.Ytgcgajeagdaenaa
