/-
  No cell of these rows narrows 'for every input' (looked for: loops, veiled, ifaces, maps, wideKeys, modest, calm, conditions, laid).
  DERIVED. THE GIVEN ROWS OF THIS SEAT. 15 by the template 'for every input the law returns true; each argument reads behind the call as it read before'; 0 by the template 'total and deterministic' (their statements: YtldbhkpeppgneaaTotals.lean).
  GIVEN WITH THE SEED: the statements are not yours to turn. If you find one false, say at which input.
  Laid BY PROGRAM, IN A SANDBOX (cutbox-rows.mjs): the forced cells as the released guide's own fill.sh prints them over the translation e37ca1f450233c10… (all of the seat's roots in one cut). By AI agents, Wed Nov 11 2026. No macro, syntax, notation, axiom, sorry.
-/
import Derived.Test.YtldbhkpeppgneaaChecked
import GoSem.Claim
import GoSem.ClaimJoined
import GoSem.ClaimMapViews
import Derived.JoinedTies
import Derived.KernelRfl
namespace Go.Proofs.Ytldbhkpeppgneaa
/- THE CELL 'sum', in the pinned program and in every row, IS THE sha256 OF THE DUMP (.gsa) THAT YtldbhkpeppgneaaProg.lean LOADS. Nothing in Lean hashes anything: it is a label: what it is worth is what the hold of that sum in a sandbox is worth. -/
noncomputable def Try.pinned : Pinned := { name := "ytldbhkpeppgneaa", sum := "e37ca1f450233c10676ccaa6c33ee8ef4371a5fbd15b85494b2ea4c975e150ad", checked := Try.checked }
namespace Rows
def none {H : Type} : Left H := { results := [], args := [] }

/-- 'laws.FnExactPairChains': WHATEVER THE INPUT: true; the input reads as it did. -/
def fnExactPairChainsSpec : ChangeSpec := { name := "fnExactPairChains", fn := fun _ => fun
  | [d1, d2, d3] => { results := [.lit (.bool true)], args := [d1, d2, d3] }
  | _ => none }
def fnExactPairChainsRow : OpenClaim := { program := "ytldbhkpeppgneaa", sum := "e37ca1f450233c10676ccaa6c33ee8ef4371a5fbd15b85494b2ea4c975e150ad", func := "loop.example/g01119/laws.FnExactPairChains", spec := "fnExactPairChains", apart := false }
def FnExactPairChainsSaid : Prop := fnExactPairChainsRow.holds Try.pinned (OpenSpec.ofChange fnExactPairChainsSpec)

/-- ITS FALSE NEIGHBOUR: 'it returns false'. Refute it at one input. -/
def fnExactPairChainsWrong : ChangeSpec := { name := "fnExactPairChains", fn := fun _ => fun
  | [d1, d2, d3] => { results := [.lit (.bool false)], args := [d1, d2, d3] }
  | _ => none }
def FnExactPairChainsWrongFalsely : Prop := fnExactPairChainsRow.holds Try.pinned (OpenSpec.ofChange fnExactPairChainsWrong)

/-- 'laws.FnExactIsBraid': WHATEVER THE INPUT: true; the input reads as it did. -/
def fnExactIsBraidSpec : ChangeSpec := { name := "fnExactIsBraid", fn := fun _ => fun
  | [d] => { results := [.lit (.bool true)], args := [d] }
  | _ => none }
def fnExactIsBraidRow : OpenClaim := { program := "ytldbhkpeppgneaa", sum := "e37ca1f450233c10676ccaa6c33ee8ef4371a5fbd15b85494b2ea4c975e150ad", func := "loop.example/g01119/laws.FnExactIsBraid", spec := "fnExactIsBraid", unfollowed := true, recurses := true, apart := false }
def FnExactIsBraidSaid : Prop := fnExactIsBraidRow.holds Try.pinned (OpenSpec.ofChange fnExactIsBraidSpec)

/-- ITS FALSE NEIGHBOUR: 'it returns false'. Refute it at one input. -/
def fnExactIsBraidWrong : ChangeSpec := { name := "fnExactIsBraid", fn := fun _ => fun
  | [d] => { results := [.lit (.bool false)], args := [d] }
  | _ => none }
def FnExactIsBraidWrongFalsely : Prop := fnExactIsBraidRow.holds Try.pinned (OpenSpec.ofChange fnExactIsBraidWrong)

/-- 'laws.FnExactShiftOfExtension': WHATEVER THE INPUT: true; the input reads as it did. -/
def fnExactShiftOfExtensionSpec : ChangeSpec := { name := "fnExactShiftOfExtension", fn := fun _ => fun
  | [d1, d2, d3] => { results := [.lit (.bool true)], args := [d1, d2, d3] }
  | _ => none }
def fnExactShiftOfExtensionRow : OpenClaim := { program := "ytldbhkpeppgneaa", sum := "e37ca1f450233c10676ccaa6c33ee8ef4371a5fbd15b85494b2ea4c975e150ad", func := "loop.example/g01119/laws.FnExactShiftOfExtension", spec := "fnExactShiftOfExtension", apart := false }
def FnExactShiftOfExtensionSaid : Prop := fnExactShiftOfExtensionRow.holds Try.pinned (OpenSpec.ofChange fnExactShiftOfExtensionSpec)

/-- ITS FALSE NEIGHBOUR: 'it returns false'. Refute it at one input. -/
def fnExactShiftOfExtensionWrong : ChangeSpec := { name := "fnExactShiftOfExtension", fn := fun _ => fun
  | [d1, d2, d3] => { results := [.lit (.bool false)], args := [d1, d2, d3] }
  | _ => none }
def FnExactShiftOfExtensionWrongFalsely : Prop := fnExactShiftOfExtensionRow.holds Try.pinned (OpenSpec.ofChange fnExactShiftOfExtensionWrong)

/-- 'laws.FnExactTupleAt': WHATEVER THE INPUT: true; the input reads as it did. -/
def fnExactTupleAtSpec : ChangeSpec := { name := "fnExactTupleAt", fn := fun _ => fun
  | [d1, d2, d3] => { results := [.lit (.bool true)], args := [d1, d2, d3] }
  | _ => none }
def fnExactTupleAtRow : OpenClaim := { program := "ytldbhkpeppgneaa", sum := "e37ca1f450233c10676ccaa6c33ee8ef4371a5fbd15b85494b2ea4c975e150ad", func := "loop.example/g01119/laws.FnExactTupleAt", spec := "fnExactTupleAt", apart := false }
def FnExactTupleAtSaid : Prop := fnExactTupleAtRow.holds Try.pinned (OpenSpec.ofChange fnExactTupleAtSpec)

/-- ITS FALSE NEIGHBOUR: 'it returns false'. Refute it at one input. -/
def fnExactTupleAtWrong : ChangeSpec := { name := "fnExactTupleAt", fn := fun _ => fun
  | [d1, d2, d3] => { results := [.lit (.bool false)], args := [d1, d2, d3] }
  | _ => none }
def FnExactTupleAtWrongFalsely : Prop := fnExactTupleAtRow.holds Try.pinned (OpenSpec.ofChange fnExactTupleAtWrong)

/-- 'laws.FnExactHalfTwist': WHATEVER THE INPUT: true; the input reads as it did. -/
def fnExactHalfTwistSpec : ChangeSpec := { name := "fnExactHalfTwist", fn := fun _ => fun
  | [d] => { results := [.lit (.bool true)], args := [d] }
  | _ => none }
def fnExactHalfTwistRow : OpenClaim := { program := "ytldbhkpeppgneaa", sum := "e37ca1f450233c10676ccaa6c33ee8ef4371a5fbd15b85494b2ea4c975e150ad", func := "loop.example/g01119/laws.FnExactHalfTwist", spec := "fnExactHalfTwist", apart := false }
def FnExactHalfTwistSaid : Prop := fnExactHalfTwistRow.holds Try.pinned (OpenSpec.ofChange fnExactHalfTwistSpec)

/-- ITS FALSE NEIGHBOUR: 'it returns false'. Refute it at one input. -/
def fnExactHalfTwistWrong : ChangeSpec := { name := "fnExactHalfTwist", fn := fun _ => fun
  | [d] => { results := [.lit (.bool false)], args := [d] }
  | _ => none }
def FnExactHalfTwistWrongFalsely : Prop := fnExactHalfTwistRow.holds Try.pinned (OpenSpec.ofChange fnExactHalfTwistWrong)

/-- 'laws.FnExactBraidSum': WHATEVER THE INPUT: true; the input reads as it did. -/
def fnExactBraidSumSpec : ChangeSpec := { name := "fnExactBraidSum", fn := fun _ => fun
  | [d] => { results := [.lit (.bool true)], args := [d] }
  | _ => none }
def fnExactBraidSumRow : OpenClaim := { program := "ytldbhkpeppgneaa", sum := "e37ca1f450233c10676ccaa6c33ee8ef4371a5fbd15b85494b2ea4c975e150ad", func := "loop.example/g01119/laws.FnExactBraidSum", spec := "fnExactBraidSum", unfollowed := true, recurses := true, apart := false }
def FnExactBraidSumSaid : Prop := fnExactBraidSumRow.holds Try.pinned (OpenSpec.ofChange fnExactBraidSumSpec)

/-- ITS FALSE NEIGHBOUR: 'it returns false'. Refute it at one input. -/
def fnExactBraidSumWrong : ChangeSpec := { name := "fnExactBraidSum", fn := fun _ => fun
  | [d] => { results := [.lit (.bool false)], args := [d] }
  | _ => none }
def FnExactBraidSumWrongFalsely : Prop := fnExactBraidSumRow.holds Try.pinned (OpenSpec.ofChange fnExactBraidSumWrong)

/-- 'laws.FnExactBraidText': WHATEVER THE INPUT: true; the input reads as it did. -/
def fnExactBraidTextSpec : ChangeSpec := { name := "fnExactBraidText", fn := fun _ => fun
  | [d] => { results := [.lit (.bool true)], args := [d] }
  | _ => none }
def fnExactBraidTextRow : OpenClaim := { program := "ytldbhkpeppgneaa", sum := "e37ca1f450233c10676ccaa6c33ee8ef4371a5fbd15b85494b2ea4c975e150ad", func := "loop.example/g01119/laws.FnExactBraidText", spec := "fnExactBraidText", unfollowed := true, recurses := true, apart := false }
def FnExactBraidTextSaid : Prop := fnExactBraidTextRow.holds Try.pinned (OpenSpec.ofChange fnExactBraidTextSpec)

/-- ITS FALSE NEIGHBOUR: 'it returns false'. Refute it at one input. -/
def fnExactBraidTextWrong : ChangeSpec := { name := "fnExactBraidText", fn := fun _ => fun
  | [d] => { results := [.lit (.bool false)], args := [d] }
  | _ => none }
def FnExactBraidTextWrongFalsely : Prop := fnExactBraidTextRow.holds Try.pinned (OpenSpec.ofChange fnExactBraidTextWrong)

/-- 'laws.FnExactReduceBraid': WHATEVER THE INPUT: true; the input reads as it did. -/
def fnExactReduceBraidSpec : ChangeSpec := { name := "fnExactReduceBraid", fn := fun _ => fun
  | [d] => { results := [.lit (.bool true)], args := [d] }
  | _ => none }
def fnExactReduceBraidRow : OpenClaim := { program := "ytldbhkpeppgneaa", sum := "e37ca1f450233c10676ccaa6c33ee8ef4371a5fbd15b85494b2ea4c975e150ad", func := "loop.example/g01119/laws.FnExactReduceBraid", spec := "fnExactReduceBraid", unfollowed := true, recurses := true, apart := false }
def FnExactReduceBraidSaid : Prop := fnExactReduceBraidRow.holds Try.pinned (OpenSpec.ofChange fnExactReduceBraidSpec)

/-- ITS FALSE NEIGHBOUR: 'it returns false'. Refute it at one input. -/
def fnExactReduceBraidWrong : ChangeSpec := { name := "fnExactReduceBraid", fn := fun _ => fun
  | [d] => { results := [.lit (.bool false)], args := [d] }
  | _ => none }
def FnExactReduceBraidWrongFalsely : Prop := fnExactReduceBraidRow.holds Try.pinned (OpenSpec.ofChange fnExactReduceBraidWrong)

/-- 'laws.FnExactInverseBraid': WHATEVER THE INPUT: true; the input reads as it did. -/
def fnExactInverseBraidSpec : ChangeSpec := { name := "fnExactInverseBraid", fn := fun _ => fun
  | [d] => { results := [.lit (.bool true)], args := [d] }
  | _ => none }
def fnExactInverseBraidRow : OpenClaim := { program := "ytldbhkpeppgneaa", sum := "e37ca1f450233c10676ccaa6c33ee8ef4371a5fbd15b85494b2ea4c975e150ad", func := "loop.example/g01119/laws.FnExactInverseBraid", spec := "fnExactInverseBraid", unfollowed := true, recurses := true, apart := false }
def FnExactInverseBraidSaid : Prop := fnExactInverseBraidRow.holds Try.pinned (OpenSpec.ofChange fnExactInverseBraidSpec)

/-- ITS FALSE NEIGHBOUR: 'it returns false'. Refute it at one input. -/
def fnExactInverseBraidWrong : ChangeSpec := { name := "fnExactInverseBraid", fn := fun _ => fun
  | [d] => { results := [.lit (.bool false)], args := [d] }
  | _ => none }
def FnExactInverseBraidWrongFalsely : Prop := fnExactInverseBraidRow.holds Try.pinned (OpenSpec.ofChange fnExactInverseBraidWrong)

/-- 'laws.FnExactTimesBraid': WHATEVER THE INPUT: true; the input reads as it did. -/
def fnExactTimesBraidSpec : ChangeSpec := { name := "fnExactTimesBraid", fn := fun _ => fun
  | [d1, d2] => { results := [.lit (.bool true)], args := [d1, d2] }
  | _ => none }
def fnExactTimesBraidRow : OpenClaim := { program := "ytldbhkpeppgneaa", sum := "e37ca1f450233c10676ccaa6c33ee8ef4371a5fbd15b85494b2ea4c975e150ad", func := "loop.example/g01119/laws.FnExactTimesBraid", spec := "fnExactTimesBraid", unfollowed := true, recurses := true, apart := false }
def FnExactTimesBraidSaid : Prop := fnExactTimesBraidRow.holds Try.pinned (OpenSpec.ofChange fnExactTimesBraidSpec)

/-- ITS FALSE NEIGHBOUR: 'it returns false'. Refute it at one input. -/
def fnExactTimesBraidWrong : ChangeSpec := { name := "fnExactTimesBraid", fn := fun _ => fun
  | [d1, d2] => { results := [.lit (.bool false)], args := [d1, d2] }
  | _ => none }
def FnExactTimesBraidWrongFalsely : Prop := fnExactTimesBraidRow.holds Try.pinned (OpenSpec.ofChange fnExactTimesBraidWrong)

/-- 'laws.FnExactParseBraid': WHATEVER THE INPUT: true; the input reads as it did. -/
def fnExactParseBraidSpec : ChangeSpec := { name := "fnExactParseBraid", fn := fun _ => fun
  | [d] => { results := [.lit (.bool true)], args := [d] }
  | _ => none }
def fnExactParseBraidRow : OpenClaim := { program := "ytldbhkpeppgneaa", sum := "e37ca1f450233c10676ccaa6c33ee8ef4371a5fbd15b85494b2ea4c975e150ad", func := "loop.example/g01119/laws.FnExactParseBraid", spec := "fnExactParseBraid", unfollowed := true, recurses := true, apart := false }
def FnExactParseBraidSaid : Prop := fnExactParseBraidRow.holds Try.pinned (OpenSpec.ofChange fnExactParseBraidSpec)

/-- ITS FALSE NEIGHBOUR: 'it returns false'. Refute it at one input. -/
def fnExactParseBraidWrong : ChangeSpec := { name := "fnExactParseBraid", fn := fun _ => fun
  | [d] => { results := [.lit (.bool false)], args := [d] }
  | _ => none }
def FnExactParseBraidWrongFalsely : Prop := fnExactParseBraidRow.holds Try.pinned (OpenSpec.ofChange fnExactParseBraidWrong)

/-- 'laws.FnExactBraidPermutation': WHATEVER THE INPUT: true; the input reads as it did. -/
def fnExactBraidPermutationSpec : ChangeSpec := { name := "fnExactBraidPermutation", fn := fun _ => fun
  | [d] => { results := [.lit (.bool true)], args := [d] }
  | _ => none }
def fnExactBraidPermutationRow : OpenClaim := { program := "ytldbhkpeppgneaa", sum := "e37ca1f450233c10676ccaa6c33ee8ef4371a5fbd15b85494b2ea4c975e150ad", func := "loop.example/g01119/laws.FnExactBraidPermutation", spec := "fnExactBraidPermutation", unfollowed := true, recurses := true, apart := false }
def FnExactBraidPermutationSaid : Prop := fnExactBraidPermutationRow.holds Try.pinned (OpenSpec.ofChange fnExactBraidPermutationSpec)

/-- ITS FALSE NEIGHBOUR: 'it returns false'. Refute it at one input. -/
def fnExactBraidPermutationWrong : ChangeSpec := { name := "fnExactBraidPermutation", fn := fun _ => fun
  | [d] => { results := [.lit (.bool false)], args := [d] }
  | _ => none }
def FnExactBraidPermutationWrongFalsely : Prop := fnExactBraidPermutationRow.holds Try.pinned (OpenSpec.ofChange fnExactBraidPermutationWrong)

/-- 'laws.FnExactIsPureBraid': WHATEVER THE INPUT: true; the input reads as it did. -/
def fnExactIsPureBraidSpec : ChangeSpec := { name := "fnExactIsPureBraid", fn := fun _ => fun
  | [d] => { results := [.lit (.bool true)], args := [d] }
  | _ => none }
def fnExactIsPureBraidRow : OpenClaim := { program := "ytldbhkpeppgneaa", sum := "e37ca1f450233c10676ccaa6c33ee8ef4371a5fbd15b85494b2ea4c975e150ad", func := "loop.example/g01119/laws.FnExactIsPureBraid", spec := "fnExactIsPureBraid", unfollowed := true, recurses := true, apart := false }
def FnExactIsPureBraidSaid : Prop := fnExactIsPureBraidRow.holds Try.pinned (OpenSpec.ofChange fnExactIsPureBraidSpec)

/-- ITS FALSE NEIGHBOUR: 'it returns false'. Refute it at one input. -/
def fnExactIsPureBraidWrong : ChangeSpec := { name := "fnExactIsPureBraid", fn := fun _ => fun
  | [d] => { results := [.lit (.bool false)], args := [d] }
  | _ => none }
def FnExactIsPureBraidWrongFalsely : Prop := fnExactIsPureBraidRow.holds Try.pinned (OpenSpec.ofChange fnExactIsPureBraidWrong)

/-- 'laws.FnExactNormalBraid': WHATEVER THE INPUT: true; the input reads as it did. -/
def fnExactNormalBraidSpec : ChangeSpec := { name := "fnExactNormalBraid", fn := fun _ => fun
  | [d] => { results := [.lit (.bool true)], args := [d] }
  | _ => none }
def fnExactNormalBraidRow : OpenClaim := { program := "ytldbhkpeppgneaa", sum := "e37ca1f450233c10676ccaa6c33ee8ef4371a5fbd15b85494b2ea4c975e150ad", func := "loop.example/g01119/laws.FnExactNormalBraid", spec := "fnExactNormalBraid", unfollowed := true, recurses := true, apart := false }
def FnExactNormalBraidSaid : Prop := fnExactNormalBraidRow.holds Try.pinned (OpenSpec.ofChange fnExactNormalBraidSpec)

/-- ITS FALSE NEIGHBOUR: 'it returns false'. Refute it at one input. -/
def fnExactNormalBraidWrong : ChangeSpec := { name := "fnExactNormalBraid", fn := fun _ => fun
  | [d] => { results := [.lit (.bool false)], args := [d] }
  | _ => none }
def FnExactNormalBraidWrongFalsely : Prop := fnExactNormalBraidRow.holds Try.pinned (OpenSpec.ofChange fnExactNormalBraidWrong)

/-- 'laws.FnExactAreEqualBraids': WHATEVER THE INPUT: true; the input reads as it did. -/
def fnExactAreEqualBraidsSpec : ChangeSpec := { name := "fnExactAreEqualBraids", fn := fun _ => fun
  | [d1, d2] => { results := [.lit (.bool true)], args := [d1, d2] }
  | _ => none }
def fnExactAreEqualBraidsRow : OpenClaim := { program := "ytldbhkpeppgneaa", sum := "e37ca1f450233c10676ccaa6c33ee8ef4371a5fbd15b85494b2ea4c975e150ad", func := "loop.example/g01119/laws.FnExactAreEqualBraids", spec := "fnExactAreEqualBraids", unfollowed := true, recurses := true, apart := false }
def FnExactAreEqualBraidsSaid : Prop := fnExactAreEqualBraidsRow.holds Try.pinned (OpenSpec.ofChange fnExactAreEqualBraidsSpec)

/-- ITS FALSE NEIGHBOUR: 'it returns false'. Refute it at one input. -/
def fnExactAreEqualBraidsWrong : ChangeSpec := { name := "fnExactAreEqualBraids", fn := fun _ => fun
  | [d1, d2] => { results := [.lit (.bool false)], args := [d1, d2] }
  | _ => none }
def FnExactAreEqualBraidsWrongFalsely : Prop := fnExactAreEqualBraidsRow.holds Try.pinned (OpenSpec.ofChange fnExactAreEqualBraidsWrong)

/- THE SECOND FORM. 'bulk': how many values and letters a reading holds, each counted each time it is reached (what is shared counts as often as it is met; a slice's spare places count too). A statement '..UptoSaid' is the law's where the arguments, and the package variables that the reading takes, are together of bulk at most 1048576: NARROWER than '..Said'. Prove '..Said' where nothing that the law and all that it calls make is longer than what came in: it says more and counts as full. Else prove '..UptoSaid'. A law counts once. -/
mutual
def uptoBulk {H : Type} : DataW H → Nat
  | .lit (.string bytes) => bytes.length + 1
  | .lit _ => 1
  | .nil => 1
  | .ptr d => uptoBulk d + 1
  | .slice elems spare => uptoBulkAll elems + uptoBulkAll spare + 1
  | .agg parts => uptoBulkAll parts + 1
  | .iface _ d => uptoBulk d + 1
  | .map entries => uptoBulkEntries entries + 1
  | .held _ => 1
def uptoBulkAll {H : Type} : List (DataW H) → Nat
  | [] => 0
  | d :: r => uptoBulk d + uptoBulkAll r
def uptoBulkEntries {H : Type} : List (Lit × DataW H) → Nat
  | [] => 0
  | x :: r => uptoBulkEntry x + uptoBulkEntries r
def uptoBulkEntry {H : Type} : Lit × DataW H → Nat
  | (.string bytes, d) => bytes.length + uptoBulk d + 1
  | (_, d) => uptoBulk d + 1
 end
def uptoSmall : (H : Type) → List (DataW H) → Bool := fun _ ds => decide (uptoBulkAll ds ≤ 1048576)
def OpenSpec.upto (s : _root_.Go.ChangeSpec) : _root_.Go.OpenSpec := { _root_.Go.OpenSpec.ofChange s with cond := some uptoSmall }

/-- 'laws.FnExactPairChains', WHERE WHAT IT READS IS OF BULK AT MOST 1048576: true; the input reads as it did. -/
def fnExactPairChainsUptoRow : OpenClaim := { program := "ytldbhkpeppgneaa", sum := "e37ca1f450233c10676ccaa6c33ee8ef4371a5fbd15b85494b2ea4c975e150ad", func := "loop.example/g01119/laws.FnExactPairChains", spec := "fnExactPairChains", apart := false, narrowed := true }
def FnExactPairChainsUptoSaid : Prop := fnExactPairChainsUptoRow.holds Try.pinned (OpenSpec.upto fnExactPairChainsSpec)

/-- 'laws.FnExactIsBraid', WHERE WHAT IT READS IS OF BULK AT MOST 1048576: true; the input reads as it did. -/
def fnExactIsBraidUptoRow : OpenClaim := { program := "ytldbhkpeppgneaa", sum := "e37ca1f450233c10676ccaa6c33ee8ef4371a5fbd15b85494b2ea4c975e150ad", func := "loop.example/g01119/laws.FnExactIsBraid", spec := "fnExactIsBraid", unfollowed := true, recurses := true, apart := false, narrowed := true }
def FnExactIsBraidUptoSaid : Prop := fnExactIsBraidUptoRow.holds Try.pinned (OpenSpec.upto fnExactIsBraidSpec)

/-- 'laws.FnExactShiftOfExtension', WHERE WHAT IT READS IS OF BULK AT MOST 1048576: true; the input reads as it did. -/
def fnExactShiftOfExtensionUptoRow : OpenClaim := { program := "ytldbhkpeppgneaa", sum := "e37ca1f450233c10676ccaa6c33ee8ef4371a5fbd15b85494b2ea4c975e150ad", func := "loop.example/g01119/laws.FnExactShiftOfExtension", spec := "fnExactShiftOfExtension", apart := false, narrowed := true }
def FnExactShiftOfExtensionUptoSaid : Prop := fnExactShiftOfExtensionUptoRow.holds Try.pinned (OpenSpec.upto fnExactShiftOfExtensionSpec)

/-- 'laws.FnExactTupleAt', WHERE WHAT IT READS IS OF BULK AT MOST 1048576: true; the input reads as it did. -/
def fnExactTupleAtUptoRow : OpenClaim := { program := "ytldbhkpeppgneaa", sum := "e37ca1f450233c10676ccaa6c33ee8ef4371a5fbd15b85494b2ea4c975e150ad", func := "loop.example/g01119/laws.FnExactTupleAt", spec := "fnExactTupleAt", apart := false, narrowed := true }
def FnExactTupleAtUptoSaid : Prop := fnExactTupleAtUptoRow.holds Try.pinned (OpenSpec.upto fnExactTupleAtSpec)

/-- 'laws.FnExactHalfTwist', WHERE WHAT IT READS IS OF BULK AT MOST 1048576: true; the input reads as it did. -/
def fnExactHalfTwistUptoRow : OpenClaim := { program := "ytldbhkpeppgneaa", sum := "e37ca1f450233c10676ccaa6c33ee8ef4371a5fbd15b85494b2ea4c975e150ad", func := "loop.example/g01119/laws.FnExactHalfTwist", spec := "fnExactHalfTwist", apart := false, narrowed := true }
def FnExactHalfTwistUptoSaid : Prop := fnExactHalfTwistUptoRow.holds Try.pinned (OpenSpec.upto fnExactHalfTwistSpec)

/-- 'laws.FnExactBraidSum', WHERE WHAT IT READS IS OF BULK AT MOST 1048576: true; the input reads as it did. -/
def fnExactBraidSumUptoRow : OpenClaim := { program := "ytldbhkpeppgneaa", sum := "e37ca1f450233c10676ccaa6c33ee8ef4371a5fbd15b85494b2ea4c975e150ad", func := "loop.example/g01119/laws.FnExactBraidSum", spec := "fnExactBraidSum", unfollowed := true, recurses := true, apart := false, narrowed := true }
def FnExactBraidSumUptoSaid : Prop := fnExactBraidSumUptoRow.holds Try.pinned (OpenSpec.upto fnExactBraidSumSpec)

/-- 'laws.FnExactBraidText', WHERE WHAT IT READS IS OF BULK AT MOST 1048576: true; the input reads as it did. -/
def fnExactBraidTextUptoRow : OpenClaim := { program := "ytldbhkpeppgneaa", sum := "e37ca1f450233c10676ccaa6c33ee8ef4371a5fbd15b85494b2ea4c975e150ad", func := "loop.example/g01119/laws.FnExactBraidText", spec := "fnExactBraidText", unfollowed := true, recurses := true, apart := false, narrowed := true }
def FnExactBraidTextUptoSaid : Prop := fnExactBraidTextUptoRow.holds Try.pinned (OpenSpec.upto fnExactBraidTextSpec)

/-- 'laws.FnExactReduceBraid', WHERE WHAT IT READS IS OF BULK AT MOST 1048576: true; the input reads as it did. -/
def fnExactReduceBraidUptoRow : OpenClaim := { program := "ytldbhkpeppgneaa", sum := "e37ca1f450233c10676ccaa6c33ee8ef4371a5fbd15b85494b2ea4c975e150ad", func := "loop.example/g01119/laws.FnExactReduceBraid", spec := "fnExactReduceBraid", unfollowed := true, recurses := true, apart := false, narrowed := true }
def FnExactReduceBraidUptoSaid : Prop := fnExactReduceBraidUptoRow.holds Try.pinned (OpenSpec.upto fnExactReduceBraidSpec)

/-- 'laws.FnExactInverseBraid', WHERE WHAT IT READS IS OF BULK AT MOST 1048576: true; the input reads as it did. -/
def fnExactInverseBraidUptoRow : OpenClaim := { program := "ytldbhkpeppgneaa", sum := "e37ca1f450233c10676ccaa6c33ee8ef4371a5fbd15b85494b2ea4c975e150ad", func := "loop.example/g01119/laws.FnExactInverseBraid", spec := "fnExactInverseBraid", unfollowed := true, recurses := true, apart := false, narrowed := true }
def FnExactInverseBraidUptoSaid : Prop := fnExactInverseBraidUptoRow.holds Try.pinned (OpenSpec.upto fnExactInverseBraidSpec)

/-- 'laws.FnExactTimesBraid', WHERE WHAT IT READS IS OF BULK AT MOST 1048576: true; the input reads as it did. -/
def fnExactTimesBraidUptoRow : OpenClaim := { program := "ytldbhkpeppgneaa", sum := "e37ca1f450233c10676ccaa6c33ee8ef4371a5fbd15b85494b2ea4c975e150ad", func := "loop.example/g01119/laws.FnExactTimesBraid", spec := "fnExactTimesBraid", unfollowed := true, recurses := true, apart := false, narrowed := true }
def FnExactTimesBraidUptoSaid : Prop := fnExactTimesBraidUptoRow.holds Try.pinned (OpenSpec.upto fnExactTimesBraidSpec)

/-- 'laws.FnExactParseBraid', WHERE WHAT IT READS IS OF BULK AT MOST 1048576: true; the input reads as it did. -/
def fnExactParseBraidUptoRow : OpenClaim := { program := "ytldbhkpeppgneaa", sum := "e37ca1f450233c10676ccaa6c33ee8ef4371a5fbd15b85494b2ea4c975e150ad", func := "loop.example/g01119/laws.FnExactParseBraid", spec := "fnExactParseBraid", unfollowed := true, recurses := true, apart := false, narrowed := true }
def FnExactParseBraidUptoSaid : Prop := fnExactParseBraidUptoRow.holds Try.pinned (OpenSpec.upto fnExactParseBraidSpec)

/-- 'laws.FnExactBraidPermutation', WHERE WHAT IT READS IS OF BULK AT MOST 1048576: true; the input reads as it did. -/
def fnExactBraidPermutationUptoRow : OpenClaim := { program := "ytldbhkpeppgneaa", sum := "e37ca1f450233c10676ccaa6c33ee8ef4371a5fbd15b85494b2ea4c975e150ad", func := "loop.example/g01119/laws.FnExactBraidPermutation", spec := "fnExactBraidPermutation", unfollowed := true, recurses := true, apart := false, narrowed := true }
def FnExactBraidPermutationUptoSaid : Prop := fnExactBraidPermutationUptoRow.holds Try.pinned (OpenSpec.upto fnExactBraidPermutationSpec)

/-- 'laws.FnExactIsPureBraid', WHERE WHAT IT READS IS OF BULK AT MOST 1048576: true; the input reads as it did. -/
def fnExactIsPureBraidUptoRow : OpenClaim := { program := "ytldbhkpeppgneaa", sum := "e37ca1f450233c10676ccaa6c33ee8ef4371a5fbd15b85494b2ea4c975e150ad", func := "loop.example/g01119/laws.FnExactIsPureBraid", spec := "fnExactIsPureBraid", unfollowed := true, recurses := true, apart := false, narrowed := true }
def FnExactIsPureBraidUptoSaid : Prop := fnExactIsPureBraidUptoRow.holds Try.pinned (OpenSpec.upto fnExactIsPureBraidSpec)

/-- 'laws.FnExactNormalBraid', WHERE WHAT IT READS IS OF BULK AT MOST 1048576: true; the input reads as it did. -/
def fnExactNormalBraidUptoRow : OpenClaim := { program := "ytldbhkpeppgneaa", sum := "e37ca1f450233c10676ccaa6c33ee8ef4371a5fbd15b85494b2ea4c975e150ad", func := "loop.example/g01119/laws.FnExactNormalBraid", spec := "fnExactNormalBraid", unfollowed := true, recurses := true, apart := false, narrowed := true }
def FnExactNormalBraidUptoSaid : Prop := fnExactNormalBraidUptoRow.holds Try.pinned (OpenSpec.upto fnExactNormalBraidSpec)

/-- 'laws.FnExactAreEqualBraids', WHERE WHAT IT READS IS OF BULK AT MOST 1048576: true; the input reads as it did. -/
def fnExactAreEqualBraidsUptoRow : OpenClaim := { program := "ytldbhkpeppgneaa", sum := "e37ca1f450233c10676ccaa6c33ee8ef4371a5fbd15b85494b2ea4c975e150ad", func := "loop.example/g01119/laws.FnExactAreEqualBraids", spec := "fnExactAreEqualBraids", unfollowed := true, recurses := true, apart := false, narrowed := true }
def FnExactAreEqualBraidsUptoSaid : Prop := fnExactAreEqualBraidsUptoRow.holds Try.pinned (OpenSpec.upto fnExactAreEqualBraidsSpec)

end Rows
end Go.Proofs.Ytldbhkpeppgneaa
