/-
  No cell of these rows narrows 'for every input' (looked for: loops, veiled, ifaces, maps, wideKeys, modest, calm, conditions, laid).
  DERIVED. THE GIVEN ROWS OF THIS SEAT. 18 by the template 'for every input the law returns true; each argument reads behind the call as it read before'; 0 by the template 'total and deterministic' (their statements: YtclhpegldfcemaaTotals.lean).
  GIVEN WITH THE SEED: the statements are not yours to turn. If you find one false, say at which input.
  Laid BY PROGRAM, IN A SANDBOX (cutbox-rows.mjs): the forced cells as the released guide's own fill.sh prints them over the translation 25b7ffadd3f594cc… (all of the seat's roots in one cut). By AI agents, Wed Nov 11 2026. No macro, syntax, notation, axiom, sorry.
-/
import Derived.Test.YtclhpegldfcemaaChecked
import GoSem.Claim
import GoSem.ClaimJoined
import GoSem.ClaimMapViews
import Derived.JoinedTies
import Derived.KernelRfl
namespace Go.Proofs.Ytclhpegldfcemaa
/- THE CELL 'sum', in the pinned program and in every row, IS THE sha256 OF THE DUMP (.gsa) THAT YtclhpegldfcemaaProg.lean LOADS. Nothing in Lean hashes anything: it is a label: what it is worth is what the hold of that sum in a sandbox is worth. -/
noncomputable def Try.pinned : Pinned := { name := "ytclhpegldfcemaa", sum := "25b7ffadd3f594cc2ce2a8e67facaf10fb85b5820d1f311e9123f5f10522fe3c", checked := Try.checked }
namespace Rows
def none {H : Type} : Left H := { results := [], args := [] }

/-- 'laws.FnExactCoboundaryOf': WHATEVER THE INPUT: true; the input reads as it did. -/
def fnExactCoboundaryOfSpec : ChangeSpec := { name := "fnExactCoboundaryOf", fn := fun _ => fun
  | [d1, d2, d3] => { results := [.lit (.bool true)], args := [d1, d2, d3] }
  | _ => none }
def fnExactCoboundaryOfRow : OpenClaim := { program := "ytclhpegldfcemaa", sum := "25b7ffadd3f594cc2ce2a8e67facaf10fb85b5820d1f311e9123f5f10522fe3c", func := "loop.example/g01119/laws.FnExactCoboundaryOf", spec := "fnExactCoboundaryOf", unfollowed := true, recurses := true, apart := false }
def FnExactCoboundaryOfSaid : Prop := fnExactCoboundaryOfRow.holds Try.pinned (OpenSpec.ofChange fnExactCoboundaryOfSpec)

/-- ITS FALSE NEIGHBOUR: 'it returns false'. Refute it at one input. -/
def fnExactCoboundaryOfWrong : ChangeSpec := { name := "fnExactCoboundaryOf", fn := fun _ => fun
  | [d1, d2, d3] => { results := [.lit (.bool false)], args := [d1, d2, d3] }
  | _ => none }
def FnExactCoboundaryOfWrongFalsely : Prop := fnExactCoboundaryOfRow.holds Try.pinned (OpenSpec.ofChange fnExactCoboundaryOfWrong)

/-- 'laws.FnExactShiftMatrix': WHATEVER THE INPUT: true; the input reads as it did. -/
def fnExactShiftMatrixSpec : ChangeSpec := { name := "fnExactShiftMatrix", fn := fun _ => fun
  | [d1, d2, d3, d4] => { results := [.lit (.bool true)], args := [d1, d2, d3, d4] }
  | _ => none }
def fnExactShiftMatrixRow : OpenClaim := { program := "ytclhpegldfcemaa", sum := "25b7ffadd3f594cc2ce2a8e67facaf10fb85b5820d1f311e9123f5f10522fe3c", func := "loop.example/g01119/laws.FnExactShiftMatrix", spec := "fnExactShiftMatrix", unfollowed := true, recurses := true, apart := false }
def FnExactShiftMatrixSaid : Prop := fnExactShiftMatrixRow.holds Try.pinned (OpenSpec.ofChange fnExactShiftMatrixSpec)

/-- ITS FALSE NEIGHBOUR: 'it returns false'. Refute it at one input. -/
def fnExactShiftMatrixWrong : ChangeSpec := { name := "fnExactShiftMatrix", fn := fun _ => fun
  | [d1, d2, d3, d4] => { results := [.lit (.bool false)], args := [d1, d2, d3, d4] }
  | _ => none }
def FnExactShiftMatrixWrongFalsely : Prop := fnExactShiftMatrixRow.holds Try.pinned (OpenSpec.ofChange fnExactShiftMatrixWrong)

/-- 'laws.FnExactIsRackCocycle': WHATEVER THE INPUT: true; the input reads as it did. -/
def fnExactIsRackCocycleSpec : ChangeSpec := { name := "fnExactIsRackCocycle", fn := fun _ => fun
  | [d1, d2, d3] => { results := [.lit (.bool true)], args := [d1, d2, d3] }
  | _ => none }
def fnExactIsRackCocycleRow : OpenClaim := { program := "ytclhpegldfcemaa", sum := "25b7ffadd3f594cc2ce2a8e67facaf10fb85b5820d1f311e9123f5f10522fe3c", func := "loop.example/g01119/laws.FnExactIsRackCocycle", spec := "fnExactIsRackCocycle", unfollowed := true, recurses := true, apart := false }
def FnExactIsRackCocycleSaid : Prop := fnExactIsRackCocycleRow.holds Try.pinned (OpenSpec.ofChange fnExactIsRackCocycleSpec)

/-- ITS FALSE NEIGHBOUR: 'it returns false'. Refute it at one input. -/
def fnExactIsRackCocycleWrong : ChangeSpec := { name := "fnExactIsRackCocycle", fn := fun _ => fun
  | [d1, d2, d3] => { results := [.lit (.bool false)], args := [d1, d2, d3] }
  | _ => none }
def FnExactIsRackCocycleWrongFalsely : Prop := fnExactIsRackCocycleRow.holds Try.pinned (OpenSpec.ofChange fnExactIsRackCocycleWrong)

/-- 'laws.FnExactIsCycleCocycle': WHATEVER THE INPUT: true; the input reads as it did. -/
def fnExactIsCycleCocycleSpec : ChangeSpec := { name := "fnExactIsCycleCocycle", fn := fun _ => fun
  | [d1, d2, d3] => { results := [.lit (.bool true)], args := [d1, d2, d3] }
  | _ => none }
def fnExactIsCycleCocycleRow : OpenClaim := { program := "ytclhpegldfcemaa", sum := "25b7ffadd3f594cc2ce2a8e67facaf10fb85b5820d1f311e9123f5f10522fe3c", func := "loop.example/g01119/laws.FnExactIsCycleCocycle", spec := "fnExactIsCycleCocycle", unfollowed := true, recurses := true, apart := false }
def FnExactIsCycleCocycleSaid : Prop := fnExactIsCycleCocycleRow.holds Try.pinned (OpenSpec.ofChange fnExactIsCycleCocycleSpec)

/-- ITS FALSE NEIGHBOUR: 'it returns false'. Refute it at one input. -/
def fnExactIsCycleCocycleWrong : ChangeSpec := { name := "fnExactIsCycleCocycle", fn := fun _ => fun
  | [d1, d2, d3] => { results := [.lit (.bool false)], args := [d1, d2, d3] }
  | _ => none }
def FnExactIsCycleCocycleWrongFalsely : Prop := fnExactIsCycleCocycleRow.holds Try.pinned (OpenSpec.ofChange fnExactIsCycleCocycleWrong)

/-- 'laws.FnExactCountRackCocycles': WHATEVER THE INPUT: true; the input reads as it did. -/
def fnExactCountRackCocyclesSpec : ChangeSpec := { name := "fnExactCountRackCocycles", fn := fun _ => fun
  | [d1, d2] => { results := [.lit (.bool true)], args := [d1, d2] }
  | _ => none }
def fnExactCountRackCocyclesRow : OpenClaim := { program := "ytclhpegldfcemaa", sum := "25b7ffadd3f594cc2ce2a8e67facaf10fb85b5820d1f311e9123f5f10522fe3c", func := "loop.example/g01119/laws.FnExactCountRackCocycles", spec := "fnExactCountRackCocycles", unfollowed := true, recurses := true, apart := false }
def FnExactCountRackCocyclesSaid : Prop := fnExactCountRackCocyclesRow.holds Try.pinned (OpenSpec.ofChange fnExactCountRackCocyclesSpec)

/-- ITS FALSE NEIGHBOUR: 'it returns false'. Refute it at one input. -/
def fnExactCountRackCocyclesWrong : ChangeSpec := { name := "fnExactCountRackCocycles", fn := fun _ => fun
  | [d1, d2] => { results := [.lit (.bool false)], args := [d1, d2] }
  | _ => none }
def FnExactCountRackCocyclesWrongFalsely : Prop := fnExactCountRackCocyclesRow.holds Try.pinned (OpenSpec.ofChange fnExactCountRackCocyclesWrong)

/-- 'laws.FnExactCoboundarySource': WHATEVER THE INPUT: true; the input reads as it did. -/
def fnExactCoboundarySourceSpec : ChangeSpec := { name := "fnExactCoboundarySource", fn := fun _ => fun
  | [d1, d2, d3] => { results := [.lit (.bool true)], args := [d1, d2, d3] }
  | _ => none }
def fnExactCoboundarySourceRow : OpenClaim := { program := "ytclhpegldfcemaa", sum := "25b7ffadd3f594cc2ce2a8e67facaf10fb85b5820d1f311e9123f5f10522fe3c", func := "loop.example/g01119/laws.FnExactCoboundarySource", spec := "fnExactCoboundarySource", unfollowed := true, recurses := true, apart := false }
def FnExactCoboundarySourceSaid : Prop := fnExactCoboundarySourceRow.holds Try.pinned (OpenSpec.ofChange fnExactCoboundarySourceSpec)

/-- ITS FALSE NEIGHBOUR: 'it returns false'. Refute it at one input. -/
def fnExactCoboundarySourceWrong : ChangeSpec := { name := "fnExactCoboundarySource", fn := fun _ => fun
  | [d1, d2, d3] => { results := [.lit (.bool false)], args := [d1, d2, d3] }
  | _ => none }
def FnExactCoboundarySourceWrongFalsely : Prop := fnExactCoboundarySourceRow.holds Try.pinned (OpenSpec.ofChange fnExactCoboundarySourceWrong)

/-- 'laws.FnExactExtendRack': WHATEVER THE INPUT: true; the input reads as it did. -/
def fnExactExtendRackSpec : ChangeSpec := { name := "fnExactExtendRack", fn := fun _ => fun
  | [d1, d2, d3] => { results := [.lit (.bool true)], args := [d1, d2, d3] }
  | _ => none }
def fnExactExtendRackRow : OpenClaim := { program := "ytclhpegldfcemaa", sum := "25b7ffadd3f594cc2ce2a8e67facaf10fb85b5820d1f311e9123f5f10522fe3c", func := "loop.example/g01119/laws.FnExactExtendRack", spec := "fnExactExtendRack", unfollowed := true, recurses := true, apart := false }
def FnExactExtendRackSaid : Prop := fnExactExtendRackRow.holds Try.pinned (OpenSpec.ofChange fnExactExtendRackSpec)

/-- ITS FALSE NEIGHBOUR: 'it returns false'. Refute it at one input. -/
def fnExactExtendRackWrong : ChangeSpec := { name := "fnExactExtendRack", fn := fun _ => fun
  | [d1, d2, d3] => { results := [.lit (.bool false)], args := [d1, d2, d3] }
  | _ => none }
def FnExactExtendRackWrongFalsely : Prop := fnExactExtendRackRow.holds Try.pinned (OpenSpec.ofChange fnExactExtendRackWrong)

/-- 'laws.FnExactExtendCycleSet': WHATEVER THE INPUT: true; the input reads as it did. -/
def fnExactExtendCycleSetSpec : ChangeSpec := { name := "fnExactExtendCycleSet", fn := fun _ => fun
  | [d1, d2, d3] => { results := [.lit (.bool true)], args := [d1, d2, d3] }
  | _ => none }
def fnExactExtendCycleSetRow : OpenClaim := { program := "ytclhpegldfcemaa", sum := "25b7ffadd3f594cc2ce2a8e67facaf10fb85b5820d1f311e9123f5f10522fe3c", func := "loop.example/g01119/laws.FnExactExtendCycleSet", spec := "fnExactExtendCycleSet", unfollowed := true, recurses := true, apart := false }
def FnExactExtendCycleSetSaid : Prop := fnExactExtendCycleSetRow.holds Try.pinned (OpenSpec.ofChange fnExactExtendCycleSetSpec)

/-- ITS FALSE NEIGHBOUR: 'it returns false'. Refute it at one input. -/
def fnExactExtendCycleSetWrong : ChangeSpec := { name := "fnExactExtendCycleSet", fn := fun _ => fun
  | [d1, d2, d3] => { results := [.lit (.bool false)], args := [d1, d2, d3] }
  | _ => none }
def FnExactExtendCycleSetWrongFalsely : Prop := fnExactExtendCycleSetRow.holds Try.pinned (OpenSpec.ofChange fnExactExtendCycleSetWrong)

/-- 'laws.FnExactConstantDynamical': WHATEVER THE INPUT: true; the input reads as it did. -/
def fnExactConstantDynamicalSpec : ChangeSpec := { name := "fnExactConstantDynamical", fn := fun _ => fun
  | [d1, d2, d3] => { results := [.lit (.bool true)], args := [d1, d2, d3] }
  | _ => none }
def fnExactConstantDynamicalRow : OpenClaim := { program := "ytclhpegldfcemaa", sum := "25b7ffadd3f594cc2ce2a8e67facaf10fb85b5820d1f311e9123f5f10522fe3c", func := "loop.example/g01119/laws.FnExactConstantDynamical", spec := "fnExactConstantDynamical", unfollowed := true, recurses := true, apart := false }
def FnExactConstantDynamicalSaid : Prop := fnExactConstantDynamicalRow.holds Try.pinned (OpenSpec.ofChange fnExactConstantDynamicalSpec)

/-- ITS FALSE NEIGHBOUR: 'it returns false'. Refute it at one input. -/
def fnExactConstantDynamicalWrong : ChangeSpec := { name := "fnExactConstantDynamical", fn := fun _ => fun
  | [d1, d2, d3] => { results := [.lit (.bool false)], args := [d1, d2, d3] }
  | _ => none }
def FnExactConstantDynamicalWrongFalsely : Prop := fnExactConstantDynamicalRow.holds Try.pinned (OpenSpec.ofChange fnExactConstantDynamicalWrong)

/-- 'laws.FnExactIsCocycle': WHATEVER THE INPUT: true; the input reads as it did. -/
def fnExactIsCocycleSpec : ChangeSpec := { name := "fnExactIsCocycle", fn := fun _ => fun
  | [d1, d2, d3] => { results := [.lit (.bool true)], args := [d1, d2, d3] }
  | _ => none }
def fnExactIsCocycleRow : OpenClaim := { program := "ytclhpegldfcemaa", sum := "25b7ffadd3f594cc2ce2a8e67facaf10fb85b5820d1f311e9123f5f10522fe3c", func := "loop.example/g01119/laws.FnExactIsCocycle", spec := "fnExactIsCocycle", unfollowed := true, recurses := true, apart := false }
def FnExactIsCocycleSaid : Prop := fnExactIsCocycleRow.holds Try.pinned (OpenSpec.ofChange fnExactIsCocycleSpec)

/-- ITS FALSE NEIGHBOUR: 'it returns false'. Refute it at one input. -/
def fnExactIsCocycleWrong : ChangeSpec := { name := "fnExactIsCocycle", fn := fun _ => fun
  | [d1, d2, d3] => { results := [.lit (.bool false)], args := [d1, d2, d3] }
  | _ => none }
def FnExactIsCocycleWrongFalsely : Prop := fnExactIsCocycleRow.holds Try.pinned (OpenSpec.ofChange fnExactIsCocycleWrong)

/-- 'laws.FnExactDynamicalExtension': WHATEVER THE INPUT: true; the input reads as it did. -/
def fnExactDynamicalExtensionSpec : ChangeSpec := { name := "fnExactDynamicalExtension", fn := fun _ => fun
  | [d1, d2, d3] => { results := [.lit (.bool true)], args := [d1, d2, d3] }
  | _ => none }
def fnExactDynamicalExtensionRow : OpenClaim := { program := "ytclhpegldfcemaa", sum := "25b7ffadd3f594cc2ce2a8e67facaf10fb85b5820d1f311e9123f5f10522fe3c", func := "loop.example/g01119/laws.FnExactDynamicalExtension", spec := "fnExactDynamicalExtension", unfollowed := true, recurses := true, apart := false }
def FnExactDynamicalExtensionSaid : Prop := fnExactDynamicalExtensionRow.holds Try.pinned (OpenSpec.ofChange fnExactDynamicalExtensionSpec)

/-- ITS FALSE NEIGHBOUR: 'it returns false'. Refute it at one input. -/
def fnExactDynamicalExtensionWrong : ChangeSpec := { name := "fnExactDynamicalExtension", fn := fun _ => fun
  | [d1, d2, d3] => { results := [.lit (.bool false)], args := [d1, d2, d3] }
  | _ => none }
def FnExactDynamicalExtensionWrongFalsely : Prop := fnExactDynamicalExtensionRow.holds Try.pinned (OpenSpec.ofChange fnExactDynamicalExtensionWrong)

/-- 'laws.FnExactRackBoundary': WHATEVER THE INPUT: true; the input reads as it did. -/
def fnExactRackBoundarySpec : ChangeSpec := { name := "fnExactRackBoundary", fn := fun _ => fun
  | [d1, d2, d3, d4] => { results := [.lit (.bool true)], args := [d1, d2, d3, d4] }
  | _ => none }
def fnExactRackBoundaryRow : OpenClaim := { program := "ytclhpegldfcemaa", sum := "25b7ffadd3f594cc2ce2a8e67facaf10fb85b5820d1f311e9123f5f10522fe3c", func := "loop.example/g01119/laws.FnExactRackBoundary", spec := "fnExactRackBoundary", unfollowed := true, recurses := true, apart := false }
def FnExactRackBoundarySaid : Prop := fnExactRackBoundaryRow.holds Try.pinned (OpenSpec.ofChange fnExactRackBoundarySpec)

/-- ITS FALSE NEIGHBOUR: 'it returns false'. Refute it at one input. -/
def fnExactRackBoundaryWrong : ChangeSpec := { name := "fnExactRackBoundary", fn := fun _ => fun
  | [d1, d2, d3, d4] => { results := [.lit (.bool false)], args := [d1, d2, d3, d4] }
  | _ => none }
def FnExactRackBoundaryWrongFalsely : Prop := fnExactRackBoundaryRow.holds Try.pinned (OpenSpec.ofChange fnExactRackBoundaryWrong)

/-- 'laws.FnExactQuandleBoundary': WHATEVER THE INPUT: true; the input reads as it did. -/
def fnExactQuandleBoundarySpec : ChangeSpec := { name := "fnExactQuandleBoundary", fn := fun _ => fun
  | [d1, d2, d3, d4] => { results := [.lit (.bool true)], args := [d1, d2, d3, d4] }
  | _ => none }
def fnExactQuandleBoundaryRow : OpenClaim := { program := "ytclhpegldfcemaa", sum := "25b7ffadd3f594cc2ce2a8e67facaf10fb85b5820d1f311e9123f5f10522fe3c", func := "loop.example/g01119/laws.FnExactQuandleBoundary", spec := "fnExactQuandleBoundary", unfollowed := true, recurses := true, apart := false }
def FnExactQuandleBoundarySaid : Prop := fnExactQuandleBoundaryRow.holds Try.pinned (OpenSpec.ofChange fnExactQuandleBoundarySpec)

/-- ITS FALSE NEIGHBOUR: 'it returns false'. Refute it at one input. -/
def fnExactQuandleBoundaryWrong : ChangeSpec := { name := "fnExactQuandleBoundary", fn := fun _ => fun
  | [d1, d2, d3, d4] => { results := [.lit (.bool false)], args := [d1, d2, d3, d4] }
  | _ => none }
def FnExactQuandleBoundaryWrongFalsely : Prop := fnExactQuandleBoundaryRow.holds Try.pinned (OpenSpec.ofChange fnExactQuandleBoundaryWrong)

/-- 'laws.FnExactFillingOf': WHATEVER THE INPUT: true; the input reads as it did. -/
def fnExactFillingOfSpec : ChangeSpec := { name := "fnExactFillingOf", fn := fun _ => fun
  | [d1, d2, d3, d4] => { results := [.lit (.bool true)], args := [d1, d2, d3, d4] }
  | _ => none }
def fnExactFillingOfRow : OpenClaim := { program := "ytclhpegldfcemaa", sum := "25b7ffadd3f594cc2ce2a8e67facaf10fb85b5820d1f311e9123f5f10522fe3c", func := "loop.example/g01119/laws.FnExactFillingOf", spec := "fnExactFillingOf", unfollowed := true, recurses := true, apart := false }
def FnExactFillingOfSaid : Prop := fnExactFillingOfRow.holds Try.pinned (OpenSpec.ofChange fnExactFillingOfSpec)

/-- ITS FALSE NEIGHBOUR: 'it returns false'. Refute it at one input. -/
def fnExactFillingOfWrong : ChangeSpec := { name := "fnExactFillingOf", fn := fun _ => fun
  | [d1, d2, d3, d4] => { results := [.lit (.bool false)], args := [d1, d2, d3, d4] }
  | _ => none }
def FnExactFillingOfWrongFalsely : Prop := fnExactFillingOfRow.holds Try.pinned (OpenSpec.ofChange fnExactFillingOfWrong)

/-- 'laws.FnExactBraidAction': WHATEVER THE INPUT: true; the input reads as it did. -/
def fnExactBraidActionSpec : ChangeSpec := { name := "fnExactBraidAction", fn := fun _ => fun
  | [d1, d2, d3] => { results := [.lit (.bool true)], args := [d1, d2, d3] }
  | _ => none }
def fnExactBraidActionRow : OpenClaim := { program := "ytclhpegldfcemaa", sum := "25b7ffadd3f594cc2ce2a8e67facaf10fb85b5820d1f311e9123f5f10522fe3c", func := "loop.example/g01119/laws.FnExactBraidAction", spec := "fnExactBraidAction", unfollowed := true, recurses := true, apart := false }
def FnExactBraidActionSaid : Prop := fnExactBraidActionRow.holds Try.pinned (OpenSpec.ofChange fnExactBraidActionSpec)

/-- ITS FALSE NEIGHBOUR: 'it returns false'. Refute it at one input. -/
def fnExactBraidActionWrong : ChangeSpec := { name := "fnExactBraidAction", fn := fun _ => fun
  | [d1, d2, d3] => { results := [.lit (.bool false)], args := [d1, d2, d3] }
  | _ => none }
def FnExactBraidActionWrongFalsely : Prop := fnExactBraidActionRow.holds Try.pinned (OpenSpec.ofChange fnExactBraidActionWrong)

/-- 'laws.FnRackExtensions': WHATEVER THE INPUT: true; the input reads as it did. -/
def fnRackExtensionsSpec : ChangeSpec := { name := "fnRackExtensions", fn := fun _ => fun
  | [d] => { results := [.lit (.bool true)], args := [d] }
  | _ => none }
def fnRackExtensionsRow : OpenClaim := { program := "ytclhpegldfcemaa", sum := "25b7ffadd3f594cc2ce2a8e67facaf10fb85b5820d1f311e9123f5f10522fe3c", func := "loop.example/g01119/laws.FnRackExtensions", spec := "fnRackExtensions", unfollowed := true, recurses := true, apart := false }
def FnRackExtensionsSaid : Prop := fnRackExtensionsRow.holds Try.pinned (OpenSpec.ofChange fnRackExtensionsSpec)

/-- ITS FALSE NEIGHBOUR: 'it returns false'. Refute it at one input. -/
def fnRackExtensionsWrong : ChangeSpec := { name := "fnRackExtensions", fn := fun _ => fun
  | [d] => { results := [.lit (.bool false)], args := [d] }
  | _ => none }
def FnRackExtensionsWrongFalsely : Prop := fnRackExtensionsRow.holds Try.pinned (OpenSpec.ofChange fnRackExtensionsWrong)

/-- 'laws.FnRackChains': WHATEVER THE INPUT: true; the input reads as it did. -/
def fnRackChainsSpec : ChangeSpec := { name := "fnRackChains", fn := fun _ => fun
  | [d] => { results := [.lit (.bool true)], args := [d] }
  | _ => none }
def fnRackChainsRow : OpenClaim := { program := "ytclhpegldfcemaa", sum := "25b7ffadd3f594cc2ce2a8e67facaf10fb85b5820d1f311e9123f5f10522fe3c", func := "loop.example/g01119/laws.FnRackChains", spec := "fnRackChains", unfollowed := true, recurses := true, apart := false }
def FnRackChainsSaid : Prop := fnRackChainsRow.holds Try.pinned (OpenSpec.ofChange fnRackChainsSpec)

/-- ITS FALSE NEIGHBOUR: 'it returns false'. Refute it at one input. -/
def fnRackChainsWrong : ChangeSpec := { name := "fnRackChains", fn := fun _ => fun
  | [d] => { results := [.lit (.bool false)], args := [d] }
  | _ => none }
def FnRackChainsWrongFalsely : Prop := fnRackChainsRow.holds Try.pinned (OpenSpec.ofChange fnRackChainsWrong)

/-- 'laws.FnCycleExtensions': WHATEVER THE INPUT: true; the input reads as it did. -/
def fnCycleExtensionsSpec : ChangeSpec := { name := "fnCycleExtensions", fn := fun _ => fun
  | [d] => { results := [.lit (.bool true)], args := [d] }
  | _ => none }
def fnCycleExtensionsRow : OpenClaim := { program := "ytclhpegldfcemaa", sum := "25b7ffadd3f594cc2ce2a8e67facaf10fb85b5820d1f311e9123f5f10522fe3c", func := "loop.example/g01119/laws.FnCycleExtensions", spec := "fnCycleExtensions", unfollowed := true, recurses := true, apart := false }
def FnCycleExtensionsSaid : Prop := fnCycleExtensionsRow.holds Try.pinned (OpenSpec.ofChange fnCycleExtensionsSpec)

/-- ITS FALSE NEIGHBOUR: 'it returns false'. Refute it at one input. -/
def fnCycleExtensionsWrong : ChangeSpec := { name := "fnCycleExtensions", fn := fun _ => fun
  | [d] => { results := [.lit (.bool false)], args := [d] }
  | _ => none }
def FnCycleExtensionsWrongFalsely : Prop := fnCycleExtensionsRow.holds Try.pinned (OpenSpec.ofChange fnCycleExtensionsWrong)

/- THE SECOND FORM. 'bulk': how many values and letters a reading holds, each counted each time it is reached (what is shared counts as often as it is met; a slice's spare places count too). A statement '..UptoSaid' is the law's where the arguments, and the package variables that the reading takes, are together of bulk at most 1048576: NARROWER than '..Said'. Prove '..Said' where nothing that the law and all that it calls make is longer than what came in: it says more and counts as full. Else prove '..UptoSaid'. A law counts once. -/
mutual
def uptoBulk {H : Type} : DataW H → Nat
  | .lit (.string bytes) => bytes.length + 1
  | .lit _ => 1
  | .nil => 1
  | .ptr d => uptoBulk d + 1
  | .slice elems spare => uptoBulkAll elems + uptoBulkAll spare + 1
  | .agg parts => uptoBulkAll parts + 1
  | .iface _ d => uptoBulk d + 1
  | .map entries => uptoBulkEntries entries + 1
  | .held _ => 1
def uptoBulkAll {H : Type} : List (DataW H) → Nat
  | [] => 0
  | d :: r => uptoBulk d + uptoBulkAll r
def uptoBulkEntries {H : Type} : List (Lit × DataW H) → Nat
  | [] => 0
  | x :: r => uptoBulkEntry x + uptoBulkEntries r
def uptoBulkEntry {H : Type} : Lit × DataW H → Nat
  | (.string bytes, d) => bytes.length + uptoBulk d + 1
  | (_, d) => uptoBulk d + 1
 end
def uptoSmall : (H : Type) → List (DataW H) → Bool := fun _ ds => decide (uptoBulkAll ds ≤ 1048576)
def OpenSpec.upto (s : _root_.Go.ChangeSpec) : _root_.Go.OpenSpec := { _root_.Go.OpenSpec.ofChange s with cond := some uptoSmall }

/-- 'laws.FnExactCoboundaryOf', WHERE WHAT IT READS IS OF BULK AT MOST 1048576: true; the input reads as it did. -/
def fnExactCoboundaryOfUptoRow : OpenClaim := { program := "ytclhpegldfcemaa", sum := "25b7ffadd3f594cc2ce2a8e67facaf10fb85b5820d1f311e9123f5f10522fe3c", func := "loop.example/g01119/laws.FnExactCoboundaryOf", spec := "fnExactCoboundaryOf", unfollowed := true, recurses := true, apart := false, narrowed := true }
def FnExactCoboundaryOfUptoSaid : Prop := fnExactCoboundaryOfUptoRow.holds Try.pinned (OpenSpec.upto fnExactCoboundaryOfSpec)

/-- 'laws.FnExactShiftMatrix', WHERE WHAT IT READS IS OF BULK AT MOST 1048576: true; the input reads as it did. -/
def fnExactShiftMatrixUptoRow : OpenClaim := { program := "ytclhpegldfcemaa", sum := "25b7ffadd3f594cc2ce2a8e67facaf10fb85b5820d1f311e9123f5f10522fe3c", func := "loop.example/g01119/laws.FnExactShiftMatrix", spec := "fnExactShiftMatrix", unfollowed := true, recurses := true, apart := false, narrowed := true }
def FnExactShiftMatrixUptoSaid : Prop := fnExactShiftMatrixUptoRow.holds Try.pinned (OpenSpec.upto fnExactShiftMatrixSpec)

/-- 'laws.FnExactIsRackCocycle', WHERE WHAT IT READS IS OF BULK AT MOST 1048576: true; the input reads as it did. -/
def fnExactIsRackCocycleUptoRow : OpenClaim := { program := "ytclhpegldfcemaa", sum := "25b7ffadd3f594cc2ce2a8e67facaf10fb85b5820d1f311e9123f5f10522fe3c", func := "loop.example/g01119/laws.FnExactIsRackCocycle", spec := "fnExactIsRackCocycle", unfollowed := true, recurses := true, apart := false, narrowed := true }
def FnExactIsRackCocycleUptoSaid : Prop := fnExactIsRackCocycleUptoRow.holds Try.pinned (OpenSpec.upto fnExactIsRackCocycleSpec)

/-- 'laws.FnExactIsCycleCocycle', WHERE WHAT IT READS IS OF BULK AT MOST 1048576: true; the input reads as it did. -/
def fnExactIsCycleCocycleUptoRow : OpenClaim := { program := "ytclhpegldfcemaa", sum := "25b7ffadd3f594cc2ce2a8e67facaf10fb85b5820d1f311e9123f5f10522fe3c", func := "loop.example/g01119/laws.FnExactIsCycleCocycle", spec := "fnExactIsCycleCocycle", unfollowed := true, recurses := true, apart := false, narrowed := true }
def FnExactIsCycleCocycleUptoSaid : Prop := fnExactIsCycleCocycleUptoRow.holds Try.pinned (OpenSpec.upto fnExactIsCycleCocycleSpec)

/-- 'laws.FnExactCountRackCocycles', WHERE WHAT IT READS IS OF BULK AT MOST 1048576: true; the input reads as it did. -/
def fnExactCountRackCocyclesUptoRow : OpenClaim := { program := "ytclhpegldfcemaa", sum := "25b7ffadd3f594cc2ce2a8e67facaf10fb85b5820d1f311e9123f5f10522fe3c", func := "loop.example/g01119/laws.FnExactCountRackCocycles", spec := "fnExactCountRackCocycles", unfollowed := true, recurses := true, apart := false, narrowed := true }
def FnExactCountRackCocyclesUptoSaid : Prop := fnExactCountRackCocyclesUptoRow.holds Try.pinned (OpenSpec.upto fnExactCountRackCocyclesSpec)

/-- 'laws.FnExactCoboundarySource', WHERE WHAT IT READS IS OF BULK AT MOST 1048576: true; the input reads as it did. -/
def fnExactCoboundarySourceUptoRow : OpenClaim := { program := "ytclhpegldfcemaa", sum := "25b7ffadd3f594cc2ce2a8e67facaf10fb85b5820d1f311e9123f5f10522fe3c", func := "loop.example/g01119/laws.FnExactCoboundarySource", spec := "fnExactCoboundarySource", unfollowed := true, recurses := true, apart := false, narrowed := true }
def FnExactCoboundarySourceUptoSaid : Prop := fnExactCoboundarySourceUptoRow.holds Try.pinned (OpenSpec.upto fnExactCoboundarySourceSpec)

/-- 'laws.FnExactExtendRack', WHERE WHAT IT READS IS OF BULK AT MOST 1048576: true; the input reads as it did. -/
def fnExactExtendRackUptoRow : OpenClaim := { program := "ytclhpegldfcemaa", sum := "25b7ffadd3f594cc2ce2a8e67facaf10fb85b5820d1f311e9123f5f10522fe3c", func := "loop.example/g01119/laws.FnExactExtendRack", spec := "fnExactExtendRack", unfollowed := true, recurses := true, apart := false, narrowed := true }
def FnExactExtendRackUptoSaid : Prop := fnExactExtendRackUptoRow.holds Try.pinned (OpenSpec.upto fnExactExtendRackSpec)

/-- 'laws.FnExactExtendCycleSet', WHERE WHAT IT READS IS OF BULK AT MOST 1048576: true; the input reads as it did. -/
def fnExactExtendCycleSetUptoRow : OpenClaim := { program := "ytclhpegldfcemaa", sum := "25b7ffadd3f594cc2ce2a8e67facaf10fb85b5820d1f311e9123f5f10522fe3c", func := "loop.example/g01119/laws.FnExactExtendCycleSet", spec := "fnExactExtendCycleSet", unfollowed := true, recurses := true, apart := false, narrowed := true }
def FnExactExtendCycleSetUptoSaid : Prop := fnExactExtendCycleSetUptoRow.holds Try.pinned (OpenSpec.upto fnExactExtendCycleSetSpec)

/-- 'laws.FnExactConstantDynamical', WHERE WHAT IT READS IS OF BULK AT MOST 1048576: true; the input reads as it did. -/
def fnExactConstantDynamicalUptoRow : OpenClaim := { program := "ytclhpegldfcemaa", sum := "25b7ffadd3f594cc2ce2a8e67facaf10fb85b5820d1f311e9123f5f10522fe3c", func := "loop.example/g01119/laws.FnExactConstantDynamical", spec := "fnExactConstantDynamical", unfollowed := true, recurses := true, apart := false, narrowed := true }
def FnExactConstantDynamicalUptoSaid : Prop := fnExactConstantDynamicalUptoRow.holds Try.pinned (OpenSpec.upto fnExactConstantDynamicalSpec)

/-- 'laws.FnExactIsCocycle', WHERE WHAT IT READS IS OF BULK AT MOST 1048576: true; the input reads as it did. -/
def fnExactIsCocycleUptoRow : OpenClaim := { program := "ytclhpegldfcemaa", sum := "25b7ffadd3f594cc2ce2a8e67facaf10fb85b5820d1f311e9123f5f10522fe3c", func := "loop.example/g01119/laws.FnExactIsCocycle", spec := "fnExactIsCocycle", unfollowed := true, recurses := true, apart := false, narrowed := true }
def FnExactIsCocycleUptoSaid : Prop := fnExactIsCocycleUptoRow.holds Try.pinned (OpenSpec.upto fnExactIsCocycleSpec)

/-- 'laws.FnExactDynamicalExtension', WHERE WHAT IT READS IS OF BULK AT MOST 1048576: true; the input reads as it did. -/
def fnExactDynamicalExtensionUptoRow : OpenClaim := { program := "ytclhpegldfcemaa", sum := "25b7ffadd3f594cc2ce2a8e67facaf10fb85b5820d1f311e9123f5f10522fe3c", func := "loop.example/g01119/laws.FnExactDynamicalExtension", spec := "fnExactDynamicalExtension", unfollowed := true, recurses := true, apart := false, narrowed := true }
def FnExactDynamicalExtensionUptoSaid : Prop := fnExactDynamicalExtensionUptoRow.holds Try.pinned (OpenSpec.upto fnExactDynamicalExtensionSpec)

/-- 'laws.FnExactRackBoundary', WHERE WHAT IT READS IS OF BULK AT MOST 1048576: true; the input reads as it did. -/
def fnExactRackBoundaryUptoRow : OpenClaim := { program := "ytclhpegldfcemaa", sum := "25b7ffadd3f594cc2ce2a8e67facaf10fb85b5820d1f311e9123f5f10522fe3c", func := "loop.example/g01119/laws.FnExactRackBoundary", spec := "fnExactRackBoundary", unfollowed := true, recurses := true, apart := false, narrowed := true }
def FnExactRackBoundaryUptoSaid : Prop := fnExactRackBoundaryUptoRow.holds Try.pinned (OpenSpec.upto fnExactRackBoundarySpec)

/-- 'laws.FnExactQuandleBoundary', WHERE WHAT IT READS IS OF BULK AT MOST 1048576: true; the input reads as it did. -/
def fnExactQuandleBoundaryUptoRow : OpenClaim := { program := "ytclhpegldfcemaa", sum := "25b7ffadd3f594cc2ce2a8e67facaf10fb85b5820d1f311e9123f5f10522fe3c", func := "loop.example/g01119/laws.FnExactQuandleBoundary", spec := "fnExactQuandleBoundary", unfollowed := true, recurses := true, apart := false, narrowed := true }
def FnExactQuandleBoundaryUptoSaid : Prop := fnExactQuandleBoundaryUptoRow.holds Try.pinned (OpenSpec.upto fnExactQuandleBoundarySpec)

/-- 'laws.FnExactFillingOf', WHERE WHAT IT READS IS OF BULK AT MOST 1048576: true; the input reads as it did. -/
def fnExactFillingOfUptoRow : OpenClaim := { program := "ytclhpegldfcemaa", sum := "25b7ffadd3f594cc2ce2a8e67facaf10fb85b5820d1f311e9123f5f10522fe3c", func := "loop.example/g01119/laws.FnExactFillingOf", spec := "fnExactFillingOf", unfollowed := true, recurses := true, apart := false, narrowed := true }
def FnExactFillingOfUptoSaid : Prop := fnExactFillingOfUptoRow.holds Try.pinned (OpenSpec.upto fnExactFillingOfSpec)

/-- 'laws.FnExactBraidAction', WHERE WHAT IT READS IS OF BULK AT MOST 1048576: true; the input reads as it did. -/
def fnExactBraidActionUptoRow : OpenClaim := { program := "ytclhpegldfcemaa", sum := "25b7ffadd3f594cc2ce2a8e67facaf10fb85b5820d1f311e9123f5f10522fe3c", func := "loop.example/g01119/laws.FnExactBraidAction", spec := "fnExactBraidAction", unfollowed := true, recurses := true, apart := false, narrowed := true }
def FnExactBraidActionUptoSaid : Prop := fnExactBraidActionUptoRow.holds Try.pinned (OpenSpec.upto fnExactBraidActionSpec)

/-- 'laws.FnRackExtensions', WHERE WHAT IT READS IS OF BULK AT MOST 1048576: true; the input reads as it did. -/
def fnRackExtensionsUptoRow : OpenClaim := { program := "ytclhpegldfcemaa", sum := "25b7ffadd3f594cc2ce2a8e67facaf10fb85b5820d1f311e9123f5f10522fe3c", func := "loop.example/g01119/laws.FnRackExtensions", spec := "fnRackExtensions", unfollowed := true, recurses := true, apart := false, narrowed := true }
def FnRackExtensionsUptoSaid : Prop := fnRackExtensionsUptoRow.holds Try.pinned (OpenSpec.upto fnRackExtensionsSpec)

/-- 'laws.FnRackChains', WHERE WHAT IT READS IS OF BULK AT MOST 1048576: true; the input reads as it did. -/
def fnRackChainsUptoRow : OpenClaim := { program := "ytclhpegldfcemaa", sum := "25b7ffadd3f594cc2ce2a8e67facaf10fb85b5820d1f311e9123f5f10522fe3c", func := "loop.example/g01119/laws.FnRackChains", spec := "fnRackChains", unfollowed := true, recurses := true, apart := false, narrowed := true }
def FnRackChainsUptoSaid : Prop := fnRackChainsUptoRow.holds Try.pinned (OpenSpec.upto fnRackChainsSpec)

/-- 'laws.FnCycleExtensions', WHERE WHAT IT READS IS OF BULK AT MOST 1048576: true; the input reads as it did. -/
def fnCycleExtensionsUptoRow : OpenClaim := { program := "ytclhpegldfcemaa", sum := "25b7ffadd3f594cc2ce2a8e67facaf10fb85b5820d1f311e9123f5f10522fe3c", func := "loop.example/g01119/laws.FnCycleExtensions", spec := "fnCycleExtensions", unfollowed := true, recurses := true, apart := false, narrowed := true }
def FnCycleExtensionsUptoSaid : Prop := fnCycleExtensionsUptoRow.holds Try.pinned (OpenSpec.upto fnCycleExtensionsSpec)

end Rows
end Go.Proofs.Ytclhpegldfcemaa
