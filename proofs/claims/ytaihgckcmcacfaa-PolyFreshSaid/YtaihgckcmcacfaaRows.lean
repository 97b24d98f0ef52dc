/-
  No cell of these rows narrows 'for every input' (looked for: loops, veiled, ifaces, maps, wideKeys, modest, calm, conditions, laid).
  DERIVED. THE GIVEN ROWS OF THIS SEAT. 10 by the template 'for every input the law returns true; each argument reads behind the call as it read before'; 0 by the template 'total and deterministic' (their statements: YtaihgckcmcacfaaTotals.lean).
  GIVEN WITH THE SEED: the statements are not yours to turn. If you find one false, say at which input.
  Laid BY PROGRAM, IN A SANDBOX (cutbox-rows.mjs): the forced cells as the released guide's own fill.sh prints them over the translation b999d42cf661b1ab… (all of the seat's roots in one cut). By AI agents, Wed Nov 11 2026. No macro, syntax, notation, axiom, sorry.
-/
import Derived.Test.YtaihgckcmcacfaaChecked
import GoSem.Claim
import GoSem.ClaimJoined
import GoSem.ClaimMapViews
import Derived.JoinedTies
import Derived.KernelRfl
namespace Go.Proofs.Ytaihgckcmcacfaa
/- THE CELL 'sum', in the pinned program and in every row, IS THE sha256 OF THE DUMP (.gsa) THAT YtaihgckcmcacfaaProg.lean LOADS. Nothing in Lean hashes anything: it is a label: what it is worth is what the hold of that sum in a sandbox is worth. -/
noncomputable def Try.pinned : Pinned := { name := "ytaihgckcmcacfaa", sum := "b999d42cf661b1abe34246eb4bbf5ef72c7c9e4cd437995fa49141aaa7b7ed4a", checked := Try.checked }
namespace Rows
def none {H : Type} : Left H := { results := [], args := [] }

/-- 'recouplaw02.PolyValues': WHATEVER THE INPUT: true; the input reads as it did. -/
def polyValuesSpec : ChangeSpec := { name := "polyValues", fn := fun _ => fun
  | [d1, d2] => { results := [.lit (.bool true)], args := [d1, d2] }
  | _ => none }
def polyValuesRow : OpenClaim := { program := "ytaihgckcmcacfaa", sum := "b999d42cf661b1abe34246eb4bbf5ef72c7c9e4cd437995fa49141aaa7b7ed4a", func := "recoup/recouplaw02.PolyValues", spec := "polyValues", apart := false }
def PolyValuesSaid : Prop := polyValuesRow.holds Try.pinned (OpenSpec.ofChange polyValuesSpec)

/-- ITS FALSE NEIGHBOUR: 'it returns false'. Refute it at one input. -/
def polyValuesWrong : ChangeSpec := { name := "polyValues", fn := fun _ => fun
  | [d1, d2] => { results := [.lit (.bool false)], args := [d1, d2] }
  | _ => none }
def PolyValuesWrongFalsely : Prop := polyValuesRow.holds Try.pinned (OpenSpec.ofChange polyValuesWrong)

/-- 'recouplaw02.PolySums': WHATEVER THE INPUT: true; the input reads as it did. -/
def polySumsSpec : ChangeSpec := { name := "polySums", fn := fun _ => fun
  | [d1, d2] => { results := [.lit (.bool true)], args := [d1, d2] }
  | _ => none }
def polySumsRow : OpenClaim := { program := "ytaihgckcmcacfaa", sum := "b999d42cf661b1abe34246eb4bbf5ef72c7c9e4cd437995fa49141aaa7b7ed4a", func := "recoup/recouplaw02.PolySums", spec := "polySums", unfollowed := true, recurses := true, apart := false }
def PolySumsSaid : Prop := polySumsRow.holds Try.pinned (OpenSpec.ofChange polySumsSpec)

/-- ITS FALSE NEIGHBOUR: 'it returns false'. Refute it at one input. -/
def polySumsWrong : ChangeSpec := { name := "polySums", fn := fun _ => fun
  | [d1, d2] => { results := [.lit (.bool false)], args := [d1, d2] }
  | _ => none }
def PolySumsWrongFalsely : Prop := polySumsRow.holds Try.pinned (OpenSpec.ofChange polySumsWrong)

/-- 'recouplaw02.PolyRoots': WHATEVER THE INPUT: true; the input reads as it did. -/
def polyRootsSpec : ChangeSpec := { name := "polyRoots", fn := fun _ => fun
  | [d] => { results := [.lit (.bool true)], args := [d] }
  | _ => none }
def polyRootsRow : OpenClaim := { program := "ytaihgckcmcacfaa", sum := "b999d42cf661b1abe34246eb4bbf5ef72c7c9e4cd437995fa49141aaa7b7ed4a", func := "recoup/recouplaw02.PolyRoots", spec := "polyRoots", apart := false }
def PolyRootsSaid : Prop := polyRootsRow.holds Try.pinned (OpenSpec.ofChange polyRootsSpec)

/-- ITS FALSE NEIGHBOUR: 'it returns false'. Refute it at one input. -/
def polyRootsWrong : ChangeSpec := { name := "polyRoots", fn := fun _ => fun
  | [d] => { results := [.lit (.bool false)], args := [d] }
  | _ => none }
def PolyRootsWrongFalsely : Prop := polyRootsRow.holds Try.pinned (OpenSpec.ofChange polyRootsWrong)

/-- 'recouplaw02.PolyEvals': WHATEVER THE INPUT: true; the input reads as it did. -/
def polyEvalsSpec : ChangeSpec := { name := "polyEvals", fn := fun _ => fun
  | [d1, d2, d3] => { results := [.lit (.bool true)], args := [d1, d2, d3] }
  | _ => none }
def polyEvalsRow : OpenClaim := { program := "ytaihgckcmcacfaa", sum := "b999d42cf661b1abe34246eb4bbf5ef72c7c9e4cd437995fa49141aaa7b7ed4a", func := "recoup/recouplaw02.PolyEvals", spec := "polyEvals", unfollowed := true, recurses := true, apart := false }
def PolyEvalsSaid : Prop := polyEvalsRow.holds Try.pinned (OpenSpec.ofChange polyEvalsSpec)

/-- ITS FALSE NEIGHBOUR: 'it returns false'. Refute it at one input. -/
def polyEvalsWrong : ChangeSpec := { name := "polyEvals", fn := fun _ => fun
  | [d1, d2, d3] => { results := [.lit (.bool false)], args := [d1, d2, d3] }
  | _ => none }
def PolyEvalsWrongFalsely : Prop := polyEvalsRow.holds Try.pinned (OpenSpec.ofChange polyEvalsWrong)

/-- 'recouplaw02.PolyFactors': WHATEVER THE INPUT: true; the input reads as it did. -/
def polyFactorsSpec : ChangeSpec := { name := "polyFactors", fn := fun _ => fun
  | [d] => { results := [.lit (.bool true)], args := [d] }
  | _ => none }
def polyFactorsRow : OpenClaim := { program := "ytaihgckcmcacfaa", sum := "b999d42cf661b1abe34246eb4bbf5ef72c7c9e4cd437995fa49141aaa7b7ed4a", func := "recoup/recouplaw02.PolyFactors", spec := "polyFactors", unfollowed := true, recurses := true, apart := false }
def PolyFactorsSaid : Prop := polyFactorsRow.holds Try.pinned (OpenSpec.ofChange polyFactorsSpec)

/-- ITS FALSE NEIGHBOUR: 'it returns false'. Refute it at one input. -/
def polyFactorsWrong : ChangeSpec := { name := "polyFactors", fn := fun _ => fun
  | [d] => { results := [.lit (.bool false)], args := [d] }
  | _ => none }
def PolyFactorsWrongFalsely : Prop := polyFactorsRow.holds Try.pinned (OpenSpec.ofChange polyFactorsWrong)

/-- 'recouplaw02.PolyQuotients': WHATEVER THE INPUT: true; the input reads as it did. -/
def polyQuotientsSpec : ChangeSpec := { name := "polyQuotients", fn := fun _ => fun
  | [d1, d2] => { results := [.lit (.bool true)], args := [d1, d2] }
  | _ => none }
def polyQuotientsRow : OpenClaim := { program := "ytaihgckcmcacfaa", sum := "b999d42cf661b1abe34246eb4bbf5ef72c7c9e4cd437995fa49141aaa7b7ed4a", func := "recoup/recouplaw02.PolyQuotients", spec := "polyQuotients", unfollowed := true, recurses := true, apart := false }
def PolyQuotientsSaid : Prop := polyQuotientsRow.holds Try.pinned (OpenSpec.ofChange polyQuotientsSpec)

/-- ITS FALSE NEIGHBOUR: 'it returns false'. Refute it at one input. -/
def polyQuotientsWrong : ChangeSpec := { name := "polyQuotients", fn := fun _ => fun
  | [d1, d2] => { results := [.lit (.bool false)], args := [d1, d2] }
  | _ => none }
def PolyQuotientsWrongFalsely : Prop := polyQuotientsRow.holds Try.pinned (OpenSpec.ofChange polyQuotientsWrong)

/-- 'recouplaw02.PolyDivides': WHATEVER THE INPUT: true; the input reads as it did. -/
def polyDividesSpec : ChangeSpec := { name := "polyDivides", fn := fun _ => fun
  | [d1, d2] => { results := [.lit (.bool true)], args := [d1, d2] }
  | _ => none }
def polyDividesRow : OpenClaim := { program := "ytaihgckcmcacfaa", sum := "b999d42cf661b1abe34246eb4bbf5ef72c7c9e4cd437995fa49141aaa7b7ed4a", func := "recoup/recouplaw02.PolyDivides", spec := "polyDivides", unfollowed := true, recurses := true, apart := false }
def PolyDividesSaid : Prop := polyDividesRow.holds Try.pinned (OpenSpec.ofChange polyDividesSpec)

/-- ITS FALSE NEIGHBOUR: 'it returns false'. Refute it at one input. -/
def polyDividesWrong : ChangeSpec := { name := "polyDivides", fn := fun _ => fun
  | [d1, d2] => { results := [.lit (.bool false)], args := [d1, d2] }
  | _ => none }
def PolyDividesWrongFalsely : Prop := polyDividesRow.holds Try.pinned (OpenSpec.ofChange polyDividesWrong)

/-- 'recouplaw02.PolyCommon': WHATEVER THE INPUT: true; the input reads as it did. -/
def polyCommonSpec : ChangeSpec := { name := "polyCommon", fn := fun _ => fun
  | [d1, d2, d3] => { results := [.lit (.bool true)], args := [d1, d2, d3] }
  | _ => none }
def polyCommonRow : OpenClaim := { program := "ytaihgckcmcacfaa", sum := "b999d42cf661b1abe34246eb4bbf5ef72c7c9e4cd437995fa49141aaa7b7ed4a", func := "recoup/recouplaw02.PolyCommon", spec := "polyCommon", unfollowed := true, recurses := true, apart := false }
def PolyCommonSaid : Prop := polyCommonRow.holds Try.pinned (OpenSpec.ofChange polyCommonSpec)

/-- ITS FALSE NEIGHBOUR: 'it returns false'. Refute it at one input. -/
def polyCommonWrong : ChangeSpec := { name := "polyCommon", fn := fun _ => fun
  | [d1, d2, d3] => { results := [.lit (.bool false)], args := [d1, d2, d3] }
  | _ => none }
def PolyCommonWrongFalsely : Prop := polyCommonRow.holds Try.pinned (OpenSpec.ofChange polyCommonWrong)

/-- 'recouplaw02.PolyThrough': WHATEVER THE INPUT: true; the input reads as it did. -/
def polyThroughSpec : ChangeSpec := { name := "polyThrough", fn := fun _ => fun
  | [d1, d2] => { results := [.lit (.bool true)], args := [d1, d2] }
  | _ => none }
def polyThroughRow : OpenClaim := { program := "ytaihgckcmcacfaa", sum := "b999d42cf661b1abe34246eb4bbf5ef72c7c9e4cd437995fa49141aaa7b7ed4a", func := "recoup/recouplaw02.PolyThrough", spec := "polyThrough", unfollowed := true, recurses := true, apart := false }
def PolyThroughSaid : Prop := polyThroughRow.holds Try.pinned (OpenSpec.ofChange polyThroughSpec)

/-- ITS FALSE NEIGHBOUR: 'it returns false'. Refute it at one input. -/
def polyThroughWrong : ChangeSpec := { name := "polyThrough", fn := fun _ => fun
  | [d1, d2] => { results := [.lit (.bool false)], args := [d1, d2] }
  | _ => none }
def PolyThroughWrongFalsely : Prop := polyThroughRow.holds Try.pinned (OpenSpec.ofChange polyThroughWrong)

/-- 'recouplaw02.PolyFresh': WHATEVER THE INPUT: true; the input reads as it did. -/
def polyFreshSpec : ChangeSpec := { name := "polyFresh", fn := fun _ => fun
  | [d1, d2] => { results := [.lit (.bool true)], args := [d1, d2] }
  | _ => none }
def polyFreshRow : OpenClaim := { program := "ytaihgckcmcacfaa", sum := "b999d42cf661b1abe34246eb4bbf5ef72c7c9e4cd437995fa49141aaa7b7ed4a", func := "recoup/recouplaw02.PolyFresh", spec := "polyFresh", unfollowed := true, recurses := true, apart := false }
def PolyFreshSaid : Prop := polyFreshRow.holds Try.pinned (OpenSpec.ofChange polyFreshSpec)

/-- ITS FALSE NEIGHBOUR: 'it returns false'. Refute it at one input. -/
def polyFreshWrong : ChangeSpec := { name := "polyFresh", fn := fun _ => fun
  | [d1, d2] => { results := [.lit (.bool false)], args := [d1, d2] }
  | _ => none }
def PolyFreshWrongFalsely : Prop := polyFreshRow.holds Try.pinned (OpenSpec.ofChange polyFreshWrong)

/- THE SECOND FORM. 'bulk': how many values and letters a reading holds, each counted each time it is reached (what is shared counts as often as it is met; a slice's spare places count too). A statement '..UptoSaid' is the law's where the arguments, and the package variables that the reading takes, are together of bulk at most 1048576: NARROWER than '..Said'. Prove '..Said' where nothing that the law and all that it calls make is longer than what came in: it says more and counts as full. Else prove '..UptoSaid'. A law counts once. -/
mutual
def uptoBulk {H : Type} : DataW H → Nat
  | .lit (.string bytes) => bytes.length + 1
  | .lit _ => 1
  | .nil => 1
  | .ptr d => uptoBulk d + 1
  | .slice elems spare => uptoBulkAll elems + uptoBulkAll spare + 1
  | .agg parts => uptoBulkAll parts + 1
  | .iface _ d => uptoBulk d + 1
  | .map entries => uptoBulkEntries entries + 1
  | .held _ => 1
def uptoBulkAll {H : Type} : List (DataW H) → Nat
  | [] => 0
  | d :: r => uptoBulk d + uptoBulkAll r
def uptoBulkEntries {H : Type} : List (Lit × DataW H) → Nat
  | [] => 0
  | x :: r => uptoBulkEntry x + uptoBulkEntries r
def uptoBulkEntry {H : Type} : Lit × DataW H → Nat
  | (.string bytes, d) => bytes.length + uptoBulk d + 1
  | (_, d) => uptoBulk d + 1
 end
def uptoSmall : (H : Type) → List (DataW H) → Bool := fun _ ds => decide (uptoBulkAll ds ≤ 1048576)
def OpenSpec.upto (s : _root_.Go.ChangeSpec) : _root_.Go.OpenSpec := { _root_.Go.OpenSpec.ofChange s with cond := some uptoSmall }

/-- 'recouplaw02.PolyValues', WHERE WHAT IT READS IS OF BULK AT MOST 1048576: true; the input reads as it did. -/
def polyValuesUptoRow : OpenClaim := { program := "ytaihgckcmcacfaa", sum := "b999d42cf661b1abe34246eb4bbf5ef72c7c9e4cd437995fa49141aaa7b7ed4a", func := "recoup/recouplaw02.PolyValues", spec := "polyValues", apart := false, narrowed := true }
def PolyValuesUptoSaid : Prop := polyValuesUptoRow.holds Try.pinned (OpenSpec.upto polyValuesSpec)

/-- 'recouplaw02.PolySums', WHERE WHAT IT READS IS OF BULK AT MOST 1048576: true; the input reads as it did. -/
def polySumsUptoRow : OpenClaim := { program := "ytaihgckcmcacfaa", sum := "b999d42cf661b1abe34246eb4bbf5ef72c7c9e4cd437995fa49141aaa7b7ed4a", func := "recoup/recouplaw02.PolySums", spec := "polySums", unfollowed := true, recurses := true, apart := false, narrowed := true }
def PolySumsUptoSaid : Prop := polySumsUptoRow.holds Try.pinned (OpenSpec.upto polySumsSpec)

/-- 'recouplaw02.PolyRoots', WHERE WHAT IT READS IS OF BULK AT MOST 1048576: true; the input reads as it did. -/
def polyRootsUptoRow : OpenClaim := { program := "ytaihgckcmcacfaa", sum := "b999d42cf661b1abe34246eb4bbf5ef72c7c9e4cd437995fa49141aaa7b7ed4a", func := "recoup/recouplaw02.PolyRoots", spec := "polyRoots", apart := false, narrowed := true }
def PolyRootsUptoSaid : Prop := polyRootsUptoRow.holds Try.pinned (OpenSpec.upto polyRootsSpec)

/-- 'recouplaw02.PolyEvals', WHERE WHAT IT READS IS OF BULK AT MOST 1048576: true; the input reads as it did. -/
def polyEvalsUptoRow : OpenClaim := { program := "ytaihgckcmcacfaa", sum := "b999d42cf661b1abe34246eb4bbf5ef72c7c9e4cd437995fa49141aaa7b7ed4a", func := "recoup/recouplaw02.PolyEvals", spec := "polyEvals", unfollowed := true, recurses := true, apart := false, narrowed := true }
def PolyEvalsUptoSaid : Prop := polyEvalsUptoRow.holds Try.pinned (OpenSpec.upto polyEvalsSpec)

/-- 'recouplaw02.PolyFactors', WHERE WHAT IT READS IS OF BULK AT MOST 1048576: true; the input reads as it did. -/
def polyFactorsUptoRow : OpenClaim := { program := "ytaihgckcmcacfaa", sum := "b999d42cf661b1abe34246eb4bbf5ef72c7c9e4cd437995fa49141aaa7b7ed4a", func := "recoup/recouplaw02.PolyFactors", spec := "polyFactors", unfollowed := true, recurses := true, apart := false, narrowed := true }
def PolyFactorsUptoSaid : Prop := polyFactorsUptoRow.holds Try.pinned (OpenSpec.upto polyFactorsSpec)

/-- 'recouplaw02.PolyQuotients', WHERE WHAT IT READS IS OF BULK AT MOST 1048576: true; the input reads as it did. -/
def polyQuotientsUptoRow : OpenClaim := { program := "ytaihgckcmcacfaa", sum := "b999d42cf661b1abe34246eb4bbf5ef72c7c9e4cd437995fa49141aaa7b7ed4a", func := "recoup/recouplaw02.PolyQuotients", spec := "polyQuotients", unfollowed := true, recurses := true, apart := false, narrowed := true }
def PolyQuotientsUptoSaid : Prop := polyQuotientsUptoRow.holds Try.pinned (OpenSpec.upto polyQuotientsSpec)

/-- 'recouplaw02.PolyDivides', WHERE WHAT IT READS IS OF BULK AT MOST 1048576: true; the input reads as it did. -/
def polyDividesUptoRow : OpenClaim := { program := "ytaihgckcmcacfaa", sum := "b999d42cf661b1abe34246eb4bbf5ef72c7c9e4cd437995fa49141aaa7b7ed4a", func := "recoup/recouplaw02.PolyDivides", spec := "polyDivides", unfollowed := true, recurses := true, apart := false, narrowed := true }
def PolyDividesUptoSaid : Prop := polyDividesUptoRow.holds Try.pinned (OpenSpec.upto polyDividesSpec)

/-- 'recouplaw02.PolyCommon', WHERE WHAT IT READS IS OF BULK AT MOST 1048576: true; the input reads as it did. -/
def polyCommonUptoRow : OpenClaim := { program := "ytaihgckcmcacfaa", sum := "b999d42cf661b1abe34246eb4bbf5ef72c7c9e4cd437995fa49141aaa7b7ed4a", func := "recoup/recouplaw02.PolyCommon", spec := "polyCommon", unfollowed := true, recurses := true, apart := false, narrowed := true }
def PolyCommonUptoSaid : Prop := polyCommonUptoRow.holds Try.pinned (OpenSpec.upto polyCommonSpec)

/-- 'recouplaw02.PolyThrough', WHERE WHAT IT READS IS OF BULK AT MOST 1048576: true; the input reads as it did. -/
def polyThroughUptoRow : OpenClaim := { program := "ytaihgckcmcacfaa", sum := "b999d42cf661b1abe34246eb4bbf5ef72c7c9e4cd437995fa49141aaa7b7ed4a", func := "recoup/recouplaw02.PolyThrough", spec := "polyThrough", unfollowed := true, recurses := true, apart := false, narrowed := true }
def PolyThroughUptoSaid : Prop := polyThroughUptoRow.holds Try.pinned (OpenSpec.upto polyThroughSpec)

/-- 'recouplaw02.PolyFresh', WHERE WHAT IT READS IS OF BULK AT MOST 1048576: true; the input reads as it did. -/
def polyFreshUptoRow : OpenClaim := { program := "ytaihgckcmcacfaa", sum := "b999d42cf661b1abe34246eb4bbf5ef72c7c9e4cd437995fa49141aaa7b7ed4a", func := "recoup/recouplaw02.PolyFresh", spec := "polyFresh", unfollowed := true, recurses := true, apart := false, narrowed := true }
def PolyFreshUptoSaid : Prop := polyFreshUptoRow.holds Try.pinned (OpenSpec.upto polyFreshSpec)

end Rows
end Go.Proofs.Ytaihgckcmcacfaa
