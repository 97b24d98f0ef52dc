/-
  No cell of these rows narrows 'for every input' (looked for: loops, veiled, ifaces, maps, wideKeys, modest, calm, conditions, laid).
  DERIVED. THE GIVEN ROWS OF THIS SEAT. 10 by the template 'for every input the law returns true; each argument reads behind the call as it read before'; 0 by the template 'total and deterministic' (their statements: YtkalponomccaiaaTotals.lean).
  GIVEN WITH THE SEED: the statements are not yours to turn. If you find one false, say at which input.
  Laid BY PROGRAM, IN A SANDBOX (cutbox-rows.mjs): the forced cells as the released guide's own fill.sh prints them over the translation efc5436c34b65a44… (all of the seat's roots in one cut). By AI agents, Wed Nov 11 2026. No macro, syntax, notation, axiom, sorry.
-/
import Derived.Test.YtkalponomccaiaaChecked
import GoSem.Claim
import GoSem.ClaimJoined
import GoSem.ClaimMapViews
import Derived.JoinedTies
import Derived.KernelRfl
namespace Go.Proofs.Ytkalponomccaiaa
/- THE CELL 'sum', in the pinned program and in every row, IS THE sha256 OF THE DUMP (.gsa) THAT YtkalponomccaiaaProg.lean LOADS. Nothing in Lean hashes anything: it is a label: what it is worth is what the hold of that sum in a sandbox is worth. -/
noncomputable def Try.pinned : Pinned := { name := "ytkalponomccaiaa", sum := "efc5436c34b65a4409242eb1e5d8e219a47ae6d8e9869e3c635a2ab6687f16e4", checked := Try.checked }
namespace Rows
def none {H : Type} : Left H := { results := [], args := [] }

/-- 'recouplaw01.FieldProducts': WHATEVER THE INPUT: true; the input reads as it did. -/
def fieldProductsSpec : ChangeSpec := { name := "fieldProducts", fn := fun _ => fun
  | [d1, d2] => { results := [.lit (.bool true)], args := [d1, d2] }
  | _ => none }
def fieldProductsRow : OpenClaim := { program := "ytkalponomccaiaa", sum := "efc5436c34b65a4409242eb1e5d8e219a47ae6d8e9869e3c635a2ab6687f16e4", func := "recoup/recouplaw01.FieldProducts", spec := "fieldProducts", apart := false }
def FieldProductsSaid : Prop := fieldProductsRow.holds Try.pinned (OpenSpec.ofChange fieldProductsSpec)

/-- ITS FALSE NEIGHBOUR: 'it returns false'. Refute it at one input. -/
def fieldProductsWrong : ChangeSpec := { name := "fieldProducts", fn := fun _ => fun
  | [d1, d2] => { results := [.lit (.bool false)], args := [d1, d2] }
  | _ => none }
def FieldProductsWrongFalsely : Prop := fieldProductsRow.holds Try.pinned (OpenSpec.ofChange fieldProductsWrong)

/-- 'recouplaw01.FieldRing': WHATEVER THE INPUT: true; the input reads as it did. -/
def fieldRingSpec : ChangeSpec := { name := "fieldRing", fn := fun _ => fun
  | [d1, d2, d3] => { results := [.lit (.bool true)], args := [d1, d2, d3] }
  | _ => none }
def fieldRingRow : OpenClaim := { program := "ytkalponomccaiaa", sum := "efc5436c34b65a4409242eb1e5d8e219a47ae6d8e9869e3c635a2ab6687f16e4", func := "recoup/recouplaw01.FieldRing", spec := "fieldRing", apart := false }
def FieldRingSaid : Prop := fieldRingRow.holds Try.pinned (OpenSpec.ofChange fieldRingSpec)

/-- ITS FALSE NEIGHBOUR: 'it returns false'. Refute it at one input. -/
def fieldRingWrong : ChangeSpec := { name := "fieldRing", fn := fun _ => fun
  | [d1, d2, d3] => { results := [.lit (.bool false)], args := [d1, d2, d3] }
  | _ => none }
def FieldRingWrongFalsely : Prop := fieldRingRow.holds Try.pinned (OpenSpec.ofChange fieldRingWrong)

/-- 'recouplaw01.FieldLogs': WHATEVER THE INPUT: true; the input reads as it did. -/
def fieldLogsSpec : ChangeSpec := { name := "fieldLogs", fn := fun _ => fun
  | [d1, d2] => { results := [.lit (.bool true)], args := [d1, d2] }
  | _ => none }
def fieldLogsRow : OpenClaim := { program := "ytkalponomccaiaa", sum := "efc5436c34b65a4409242eb1e5d8e219a47ae6d8e9869e3c635a2ab6687f16e4", func := "recoup/recouplaw01.FieldLogs", spec := "fieldLogs", apart := false }
def FieldLogsSaid : Prop := fieldLogsRow.holds Try.pinned (OpenSpec.ofChange fieldLogsSpec)

/-- ITS FALSE NEIGHBOUR: 'it returns false'. Refute it at one input. -/
def fieldLogsWrong : ChangeSpec := { name := "fieldLogs", fn := fun _ => fun
  | [d1, d2] => { results := [.lit (.bool false)], args := [d1, d2] }
  | _ => none }
def FieldLogsWrongFalsely : Prop := fieldLogsRow.holds Try.pinned (OpenSpec.ofChange fieldLogsWrong)

/-- 'recouplaw01.FieldPowers': WHATEVER THE INPUT: true; the input reads as it did. -/
def fieldPowersSpec : ChangeSpec := { name := "fieldPowers", fn := fun _ => fun
  | [d1, d2] => { results := [.lit (.bool true)], args := [d1, d2] }
  | _ => none }
def fieldPowersRow : OpenClaim := { program := "ytkalponomccaiaa", sum := "efc5436c34b65a4409242eb1e5d8e219a47ae6d8e9869e3c635a2ab6687f16e4", func := "recoup/recouplaw01.FieldPowers", spec := "fieldPowers", apart := false }
def FieldPowersSaid : Prop := fieldPowersRow.holds Try.pinned (OpenSpec.ofChange fieldPowersSpec)

/-- ITS FALSE NEIGHBOUR: 'it returns false'. Refute it at one input. -/
def fieldPowersWrong : ChangeSpec := { name := "fieldPowers", fn := fun _ => fun
  | [d1, d2] => { results := [.lit (.bool false)], args := [d1, d2] }
  | _ => none }
def FieldPowersWrongFalsely : Prop := fieldPowersRow.holds Try.pinned (OpenSpec.ofChange fieldPowersWrong)

/-- 'recouplaw01.FieldExponents': WHATEVER THE INPUT: true; the input reads as it did. -/
def fieldExponentsSpec : ChangeSpec := { name := "fieldExponents", fn := fun _ => fun
  | [d1, d2, d3] => { results := [.lit (.bool true)], args := [d1, d2, d3] }
  | _ => none }
def fieldExponentsRow : OpenClaim := { program := "ytkalponomccaiaa", sum := "efc5436c34b65a4409242eb1e5d8e219a47ae6d8e9869e3c635a2ab6687f16e4", func := "recoup/recouplaw01.FieldExponents", spec := "fieldExponents", apart := false }
def FieldExponentsSaid : Prop := fieldExponentsRow.holds Try.pinned (OpenSpec.ofChange fieldExponentsSpec)

/-- ITS FALSE NEIGHBOUR: 'it returns false'. Refute it at one input. -/
def fieldExponentsWrong : ChangeSpec := { name := "fieldExponents", fn := fun _ => fun
  | [d1, d2, d3] => { results := [.lit (.bool false)], args := [d1, d2, d3] }
  | _ => none }
def FieldExponentsWrongFalsely : Prop := fieldExponentsRow.holds Try.pinned (OpenSpec.ofChange fieldExponentsWrong)

/-- 'recouplaw01.FieldQuotients': WHATEVER THE INPUT: true; the input reads as it did. -/
def fieldQuotientsSpec : ChangeSpec := { name := "fieldQuotients", fn := fun _ => fun
  | [d1, d2] => { results := [.lit (.bool true)], args := [d1, d2] }
  | _ => none }
def fieldQuotientsRow : OpenClaim := { program := "ytkalponomccaiaa", sum := "efc5436c34b65a4409242eb1e5d8e219a47ae6d8e9869e3c635a2ab6687f16e4", func := "recoup/recouplaw01.FieldQuotients", spec := "fieldQuotients", apart := false }
def FieldQuotientsSaid : Prop := fieldQuotientsRow.holds Try.pinned (OpenSpec.ofChange fieldQuotientsSpec)

/-- ITS FALSE NEIGHBOUR: 'it returns false'. Refute it at one input. -/
def fieldQuotientsWrong : ChangeSpec := { name := "fieldQuotients", fn := fun _ => fun
  | [d1, d2] => { results := [.lit (.bool false)], args := [d1, d2] }
  | _ => none }
def FieldQuotientsWrongFalsely : Prop := fieldQuotientsRow.holds Try.pinned (OpenSpec.ofChange fieldQuotientsWrong)

/-- 'recouplaw01.FieldInverts': WHATEVER THE INPUT: true; the input reads as it did. -/
def fieldInvertsSpec : ChangeSpec := { name := "fieldInverts", fn := fun _ => fun
  | [d1, d2] => { results := [.lit (.bool true)], args := [d1, d2] }
  | _ => none }
def fieldInvertsRow : OpenClaim := { program := "ytkalponomccaiaa", sum := "efc5436c34b65a4409242eb1e5d8e219a47ae6d8e9869e3c635a2ab6687f16e4", func := "recoup/recouplaw01.FieldInverts", spec := "fieldInverts", apart := false }
def FieldInvertsSaid : Prop := fieldInvertsRow.holds Try.pinned (OpenSpec.ofChange fieldInvertsSpec)

/-- ITS FALSE NEIGHBOUR: 'it returns false'. Refute it at one input. -/
def fieldInvertsWrong : ChangeSpec := { name := "fieldInverts", fn := fun _ => fun
  | [d1, d2] => { results := [.lit (.bool false)], args := [d1, d2] }
  | _ => none }
def FieldInvertsWrongFalsely : Prop := fieldInvertsRow.holds Try.pinned (OpenSpec.ofChange fieldInvertsWrong)

/-- 'recouplaw01.FieldLists': WHATEVER THE INPUT: true; the input reads as it did. -/
def fieldListsSpec : ChangeSpec := { name := "fieldLists", fn := fun _ => fun
  | [d1, d2, d3] => { results := [.lit (.bool true)], args := [d1, d2, d3] }
  | _ => none }
def fieldListsRow : OpenClaim := { program := "ytkalponomccaiaa", sum := "efc5436c34b65a4409242eb1e5d8e219a47ae6d8e9869e3c635a2ab6687f16e4", func := "recoup/recouplaw01.FieldLists", spec := "fieldLists", apart := false }
def FieldListsSaid : Prop := fieldListsRow.holds Try.pinned (OpenSpec.ofChange fieldListsSpec)

/-- ITS FALSE NEIGHBOUR: 'it returns false'. Refute it at one input. -/
def fieldListsWrong : ChangeSpec := { name := "fieldLists", fn := fun _ => fun
  | [d1, d2, d3] => { results := [.lit (.bool false)], args := [d1, d2, d3] }
  | _ => none }
def FieldListsWrongFalsely : Prop := fieldListsRow.holds Try.pinned (OpenSpec.ofChange fieldListsWrong)

/-- 'recouplaw01.FieldFresh': WHATEVER THE INPUT: true; the input reads as it did. -/
def fieldFreshSpec : ChangeSpec := { name := "fieldFresh", fn := fun _ => fun
  | [d1, d2, d3] => { results := [.lit (.bool true)], args := [d1, d2, d3] }
  | _ => none }
def fieldFreshRow : OpenClaim := { program := "ytkalponomccaiaa", sum := "efc5436c34b65a4409242eb1e5d8e219a47ae6d8e9869e3c635a2ab6687f16e4", func := "recoup/recouplaw01.FieldFresh", spec := "fieldFresh", apart := false }
def FieldFreshSaid : Prop := fieldFreshRow.holds Try.pinned (OpenSpec.ofChange fieldFreshSpec)

/-- ITS FALSE NEIGHBOUR: 'it returns false'. Refute it at one input. -/
def fieldFreshWrong : ChangeSpec := { name := "fieldFresh", fn := fun _ => fun
  | [d1, d2, d3] => { results := [.lit (.bool false)], args := [d1, d2, d3] }
  | _ => none }
def FieldFreshWrongFalsely : Prop := fieldFreshRow.holds Try.pinned (OpenSpec.ofChange fieldFreshWrong)

/-- 'recouplaw01.FieldDots': WHATEVER THE INPUT: true; the input reads as it did. -/
def fieldDotsSpec : ChangeSpec := { name := "fieldDots", fn := fun _ => fun
  | [d1, d2, d3] => { results := [.lit (.bool true)], args := [d1, d2, d3] }
  | _ => none }
def fieldDotsRow : OpenClaim := { program := "ytkalponomccaiaa", sum := "efc5436c34b65a4409242eb1e5d8e219a47ae6d8e9869e3c635a2ab6687f16e4", func := "recoup/recouplaw01.FieldDots", spec := "fieldDots", apart := false }
def FieldDotsSaid : Prop := fieldDotsRow.holds Try.pinned (OpenSpec.ofChange fieldDotsSpec)

/-- ITS FALSE NEIGHBOUR: 'it returns false'. Refute it at one input. -/
def fieldDotsWrong : ChangeSpec := { name := "fieldDots", fn := fun _ => fun
  | [d1, d2, d3] => { results := [.lit (.bool false)], args := [d1, d2, d3] }
  | _ => none }
def FieldDotsWrongFalsely : Prop := fieldDotsRow.holds Try.pinned (OpenSpec.ofChange fieldDotsWrong)

/- THE SECOND FORM. 'bulk': how many values and letters a reading holds, each counted each time it is reached (what is shared counts as often as it is met; a slice's spare places count too). A statement '..UptoSaid' is the law's where the arguments, and the package variables that the reading takes, are together of bulk at most 1048576: NARROWER than '..Said'. Prove '..Said' where nothing that the law and all that it calls make is longer than what came in: it says more and counts as full. Else prove '..UptoSaid'. A law counts once. -/
mutual
def uptoBulk {H : Type} : DataW H → Nat
  | .lit (.string bytes) => bytes.length + 1
  | .lit _ => 1
  | .nil => 1
  | .ptr d => uptoBulk d + 1
  | .slice elems spare => uptoBulkAll elems + uptoBulkAll spare + 1
  | .agg parts => uptoBulkAll parts + 1
  | .iface _ d => uptoBulk d + 1
  | .map entries => uptoBulkEntries entries + 1
  | .held _ => 1
def uptoBulkAll {H : Type} : List (DataW H) → Nat
  | [] => 0
  | d :: r => uptoBulk d + uptoBulkAll r
def uptoBulkEntries {H : Type} : List (Lit × DataW H) → Nat
  | [] => 0
  | x :: r => uptoBulkEntry x + uptoBulkEntries r
def uptoBulkEntry {H : Type} : Lit × DataW H → Nat
  | (.string bytes, d) => bytes.length + uptoBulk d + 1
  | (_, d) => uptoBulk d + 1
 end
def uptoSmall : (H : Type) → List (DataW H) → Bool := fun _ ds => decide (uptoBulkAll ds ≤ 1048576)
def OpenSpec.upto (s : _root_.Go.ChangeSpec) : _root_.Go.OpenSpec := { _root_.Go.OpenSpec.ofChange s with cond := some uptoSmall }

/-- 'recouplaw01.FieldProducts', WHERE WHAT IT READS IS OF BULK AT MOST 1048576: true; the input reads as it did. -/
def fieldProductsUptoRow : OpenClaim := { program := "ytkalponomccaiaa", sum := "efc5436c34b65a4409242eb1e5d8e219a47ae6d8e9869e3c635a2ab6687f16e4", func := "recoup/recouplaw01.FieldProducts", spec := "fieldProducts", apart := false, narrowed := true }
def FieldProductsUptoSaid : Prop := fieldProductsUptoRow.holds Try.pinned (OpenSpec.upto fieldProductsSpec)

/-- 'recouplaw01.FieldRing', WHERE WHAT IT READS IS OF BULK AT MOST 1048576: true; the input reads as it did. -/
def fieldRingUptoRow : OpenClaim := { program := "ytkalponomccaiaa", sum := "efc5436c34b65a4409242eb1e5d8e219a47ae6d8e9869e3c635a2ab6687f16e4", func := "recoup/recouplaw01.FieldRing", spec := "fieldRing", apart := false, narrowed := true }
def FieldRingUptoSaid : Prop := fieldRingUptoRow.holds Try.pinned (OpenSpec.upto fieldRingSpec)

/-- 'recouplaw01.FieldLogs', WHERE WHAT IT READS IS OF BULK AT MOST 1048576: true; the input reads as it did. -/
def fieldLogsUptoRow : OpenClaim := { program := "ytkalponomccaiaa", sum := "efc5436c34b65a4409242eb1e5d8e219a47ae6d8e9869e3c635a2ab6687f16e4", func := "recoup/recouplaw01.FieldLogs", spec := "fieldLogs", apart := false, narrowed := true }
def FieldLogsUptoSaid : Prop := fieldLogsUptoRow.holds Try.pinned (OpenSpec.upto fieldLogsSpec)

/-- 'recouplaw01.FieldPowers', WHERE WHAT IT READS IS OF BULK AT MOST 1048576: true; the input reads as it did. -/
def fieldPowersUptoRow : OpenClaim := { program := "ytkalponomccaiaa", sum := "efc5436c34b65a4409242eb1e5d8e219a47ae6d8e9869e3c635a2ab6687f16e4", func := "recoup/recouplaw01.FieldPowers", spec := "fieldPowers", apart := false, narrowed := true }
def FieldPowersUptoSaid : Prop := fieldPowersUptoRow.holds Try.pinned (OpenSpec.upto fieldPowersSpec)

/-- 'recouplaw01.FieldExponents', WHERE WHAT IT READS IS OF BULK AT MOST 1048576: true; the input reads as it did. -/
def fieldExponentsUptoRow : OpenClaim := { program := "ytkalponomccaiaa", sum := "efc5436c34b65a4409242eb1e5d8e219a47ae6d8e9869e3c635a2ab6687f16e4", func := "recoup/recouplaw01.FieldExponents", spec := "fieldExponents", apart := false, narrowed := true }
def FieldExponentsUptoSaid : Prop := fieldExponentsUptoRow.holds Try.pinned (OpenSpec.upto fieldExponentsSpec)

/-- 'recouplaw01.FieldQuotients', WHERE WHAT IT READS IS OF BULK AT MOST 1048576: true; the input reads as it did. -/
def fieldQuotientsUptoRow : OpenClaim := { program := "ytkalponomccaiaa", sum := "efc5436c34b65a4409242eb1e5d8e219a47ae6d8e9869e3c635a2ab6687f16e4", func := "recoup/recouplaw01.FieldQuotients", spec := "fieldQuotients", apart := false, narrowed := true }
def FieldQuotientsUptoSaid : Prop := fieldQuotientsUptoRow.holds Try.pinned (OpenSpec.upto fieldQuotientsSpec)

/-- 'recouplaw01.FieldInverts', WHERE WHAT IT READS IS OF BULK AT MOST 1048576: true; the input reads as it did. -/
def fieldInvertsUptoRow : OpenClaim := { program := "ytkalponomccaiaa", sum := "efc5436c34b65a4409242eb1e5d8e219a47ae6d8e9869e3c635a2ab6687f16e4", func := "recoup/recouplaw01.FieldInverts", spec := "fieldInverts", apart := false, narrowed := true }
def FieldInvertsUptoSaid : Prop := fieldInvertsUptoRow.holds Try.pinned (OpenSpec.upto fieldInvertsSpec)

/-- 'recouplaw01.FieldLists', WHERE WHAT IT READS IS OF BULK AT MOST 1048576: true; the input reads as it did. -/
def fieldListsUptoRow : OpenClaim := { program := "ytkalponomccaiaa", sum := "efc5436c34b65a4409242eb1e5d8e219a47ae6d8e9869e3c635a2ab6687f16e4", func := "recoup/recouplaw01.FieldLists", spec := "fieldLists", apart := false, narrowed := true }
def FieldListsUptoSaid : Prop := fieldListsUptoRow.holds Try.pinned (OpenSpec.upto fieldListsSpec)

/-- 'recouplaw01.FieldFresh', WHERE WHAT IT READS IS OF BULK AT MOST 1048576: true; the input reads as it did. -/
def fieldFreshUptoRow : OpenClaim := { program := "ytkalponomccaiaa", sum := "efc5436c34b65a4409242eb1e5d8e219a47ae6d8e9869e3c635a2ab6687f16e4", func := "recoup/recouplaw01.FieldFresh", spec := "fieldFresh", apart := false, narrowed := true }
def FieldFreshUptoSaid : Prop := fieldFreshUptoRow.holds Try.pinned (OpenSpec.upto fieldFreshSpec)

/-- 'recouplaw01.FieldDots', WHERE WHAT IT READS IS OF BULK AT MOST 1048576: true; the input reads as it did. -/
def fieldDotsUptoRow : OpenClaim := { program := "ytkalponomccaiaa", sum := "efc5436c34b65a4409242eb1e5d8e219a47ae6d8e9869e3c635a2ab6687f16e4", func := "recoup/recouplaw01.FieldDots", spec := "fieldDots", apart := false, narrowed := true }
def FieldDotsUptoSaid : Prop := fieldDotsUptoRow.holds Try.pinned (OpenSpec.upto fieldDotsSpec)

end Rows
end Go.Proofs.Ytkalponomccaiaa
