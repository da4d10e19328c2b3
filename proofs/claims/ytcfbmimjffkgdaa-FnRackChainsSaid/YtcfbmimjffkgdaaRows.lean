/-
  No cell of these rows narrows 'for every input' (looked for: loops, veiled, ifaces, maps, wideKeys, modest, calm, conditions, laid).
  DERIVED. THE GIVEN ROWS OF THIS SEAT. 4 by the template 'for every input the law returns true; each argument reads behind the call as it read before'; 0 by the template 'total and deterministic' (their statements: YtcfbmimjffkgdaaTotals.lean).
  GIVEN WITH THE SEED: the statements are not yours to turn. If you find one false, say at which input.
  Laid BY PROGRAM, IN A SANDBOX (cutbox-rows.mjs): the forced cells as the released guide's own fill.sh prints them over the translation 82ee25f9767cf04a… (all of the seat's roots in one cut). By AI agents, Wed Nov 11 2026. No macro, syntax, notation, axiom, sorry.
-/
import Derived.Test.YtcfbmimjffkgdaaChecked
import GoSem.Claim
import GoSem.ClaimJoined
import GoSem.ClaimMapViews
import Derived.JoinedTies
import Derived.KernelRfl
namespace Go.Proofs.Ytcfbmimjffkgdaa
/- THE CELL 'sum', in the pinned program and in every row, IS THE sha256 OF THE DUMP (.gsa) THAT YtcfbmimjffkgdaaProg.lean LOADS. Nothing in Lean hashes anything: it is a label: what it is worth is what the hold of that sum in a sandbox is worth. -/
noncomputable def Try.pinned : Pinned := { name := "ytcfbmimjffkgdaa", sum := "82ee25f9767cf04aa50ea557ce9991da9dc899df7e37e74d59032326ded59e2d", checked := Try.checked }
namespace Rows
def none {H : Type} : Left H := { results := [], args := [] }

/-- 'laws.FnExactCocycleBasis': WHATEVER THE INPUT: true; the input reads as it did. -/
def fnExactCocycleBasisSpec : ChangeSpec := { name := "fnExactCocycleBasis", fn := fun _ => fun
  | [d1, d2] => { results := [.lit (.bool true)], args := [d1, d2] }
  | _ => none }
def fnExactCocycleBasisRow : OpenClaim := { program := "ytcfbmimjffkgdaa", sum := "82ee25f9767cf04aa50ea557ce9991da9dc899df7e37e74d59032326ded59e2d", func := "loop.example/g01119/laws.FnExactCocycleBasis", spec := "fnExactCocycleBasis", unfollowed := true, recurses := true, apart := false }
def FnExactCocycleBasisSaid : Prop := fnExactCocycleBasisRow.holds Try.pinned (OpenSpec.ofChange fnExactCocycleBasisSpec)

/-- ITS FALSE NEIGHBOUR: 'it returns false'. Refute it at one input. -/
def fnExactCocycleBasisWrong : ChangeSpec := { name := "fnExactCocycleBasis", fn := fun _ => fun
  | [d1, d2] => { results := [.lit (.bool false)], args := [d1, d2] }
  | _ => none }
def FnExactCocycleBasisWrongFalsely : Prop := fnExactCocycleBasisRow.holds Try.pinned (OpenSpec.ofChange fnExactCocycleBasisWrong)

/-- 'laws.FnCocycleCounts': WHATEVER THE INPUT: true; the input reads as it did. -/
def fnCocycleCountsSpec : ChangeSpec := { name := "fnCocycleCounts", fn := fun _ => fun
  | [d] => { results := [.lit (.bool true)], args := [d] }
  | _ => none }
def fnCocycleCountsRow : OpenClaim := { program := "ytcfbmimjffkgdaa", sum := "82ee25f9767cf04aa50ea557ce9991da9dc899df7e37e74d59032326ded59e2d", func := "loop.example/g01119/laws.FnCocycleCounts", spec := "fnCocycleCounts", unfollowed := true, recurses := true, apart := false }
def FnCocycleCountsSaid : Prop := fnCocycleCountsRow.holds Try.pinned (OpenSpec.ofChange fnCocycleCountsSpec)

/-- ITS FALSE NEIGHBOUR: 'it returns false'. Refute it at one input. -/
def fnCocycleCountsWrong : ChangeSpec := { name := "fnCocycleCounts", fn := fun _ => fun
  | [d] => { results := [.lit (.bool false)], args := [d] }
  | _ => none }
def FnCocycleCountsWrongFalsely : Prop := fnCocycleCountsRow.holds Try.pinned (OpenSpec.ofChange fnCocycleCountsWrong)

/-- 'laws.FnRackExtensions': WHATEVER THE INPUT: true; the input reads as it did. -/
def fnRackExtensionsSpec : ChangeSpec := { name := "fnRackExtensions", fn := fun _ => fun
  | [d] => { results := [.lit (.bool true)], args := [d] }
  | _ => none }
def fnRackExtensionsRow : OpenClaim := { program := "ytcfbmimjffkgdaa", sum := "82ee25f9767cf04aa50ea557ce9991da9dc899df7e37e74d59032326ded59e2d", func := "loop.example/g01119/laws.FnRackExtensions", spec := "fnRackExtensions", unfollowed := true, recurses := true, apart := false }
def FnRackExtensionsSaid : Prop := fnRackExtensionsRow.holds Try.pinned (OpenSpec.ofChange fnRackExtensionsSpec)

/-- ITS FALSE NEIGHBOUR: 'it returns false'. Refute it at one input. -/
def fnRackExtensionsWrong : ChangeSpec := { name := "fnRackExtensions", fn := fun _ => fun
  | [d] => { results := [.lit (.bool false)], args := [d] }
  | _ => none }
def FnRackExtensionsWrongFalsely : Prop := fnRackExtensionsRow.holds Try.pinned (OpenSpec.ofChange fnRackExtensionsWrong)

/-- 'laws.FnRackChains': WHATEVER THE INPUT: true; the input reads as it did. -/
def fnRackChainsSpec : ChangeSpec := { name := "fnRackChains", fn := fun _ => fun
  | [d] => { results := [.lit (.bool true)], args := [d] }
  | _ => none }
def fnRackChainsRow : OpenClaim := { program := "ytcfbmimjffkgdaa", sum := "82ee25f9767cf04aa50ea557ce9991da9dc899df7e37e74d59032326ded59e2d", func := "loop.example/g01119/laws.FnRackChains", spec := "fnRackChains", unfollowed := true, recurses := true, apart := false }
def FnRackChainsSaid : Prop := fnRackChainsRow.holds Try.pinned (OpenSpec.ofChange fnRackChainsSpec)

/-- ITS FALSE NEIGHBOUR: 'it returns false'. Refute it at one input. -/
def fnRackChainsWrong : ChangeSpec := { name := "fnRackChains", fn := fun _ => fun
  | [d] => { results := [.lit (.bool false)], args := [d] }
  | _ => none }
def FnRackChainsWrongFalsely : Prop := fnRackChainsRow.holds Try.pinned (OpenSpec.ofChange fnRackChainsWrong)

/- THE SECOND FORM. 'bulk': how many values and letters a reading holds, each counted each time it is reached (what is shared counts as often as it is met; a slice's spare places count too). A statement '..UptoSaid' is the law's where the arguments, and the package variables that the reading takes, are together of bulk at most 1048576: NARROWER than '..Said'. Prove '..Said' where nothing that the law and all that it calls make is longer than what came in: it says more and counts as full. Else prove '..UptoSaid'. A law counts once. -/
mutual
def uptoBulk {H : Type} : DataW H → Nat
  | .lit (.string bytes) => bytes.length + 1
  | .lit _ => 1
  | .nil => 1
  | .ptr d => uptoBulk d + 1
  | .slice elems spare => uptoBulkAll elems + uptoBulkAll spare + 1
  | .agg parts => uptoBulkAll parts + 1
  | .iface _ d => uptoBulk d + 1
  | .map entries => uptoBulkEntries entries + 1
  | .held _ => 1
def uptoBulkAll {H : Type} : List (DataW H) → Nat
  | [] => 0
  | d :: r => uptoBulk d + uptoBulkAll r
def uptoBulkEntries {H : Type} : List (Lit × DataW H) → Nat
  | [] => 0
  | x :: r => uptoBulkEntry x + uptoBulkEntries r
def uptoBulkEntry {H : Type} : Lit × DataW H → Nat
  | (.string bytes, d) => bytes.length + uptoBulk d + 1
  | (_, d) => uptoBulk d + 1
 end
def uptoSmall : (H : Type) → List (DataW H) → Bool := fun _ ds => decide (uptoBulkAll ds ≤ 1048576)
def OpenSpec.upto (s : _root_.Go.ChangeSpec) : _root_.Go.OpenSpec := { _root_.Go.OpenSpec.ofChange s with cond := some uptoSmall }

/-- 'laws.FnExactCocycleBasis', WHERE WHAT IT READS IS OF BULK AT MOST 1048576: true; the input reads as it did. -/
def fnExactCocycleBasisUptoRow : OpenClaim := { program := "ytcfbmimjffkgdaa", sum := "82ee25f9767cf04aa50ea557ce9991da9dc899df7e37e74d59032326ded59e2d", func := "loop.example/g01119/laws.FnExactCocycleBasis", spec := "fnExactCocycleBasis", unfollowed := true, recurses := true, apart := false, narrowed := true }
def FnExactCocycleBasisUptoSaid : Prop := fnExactCocycleBasisUptoRow.holds Try.pinned (OpenSpec.upto fnExactCocycleBasisSpec)

/-- 'laws.FnCocycleCounts', WHERE WHAT IT READS IS OF BULK AT MOST 1048576: true; the input reads as it did. -/
def fnCocycleCountsUptoRow : OpenClaim := { program := "ytcfbmimjffkgdaa", sum := "82ee25f9767cf04aa50ea557ce9991da9dc899df7e37e74d59032326ded59e2d", func := "loop.example/g01119/laws.FnCocycleCounts", spec := "fnCocycleCounts", unfollowed := true, recurses := true, apart := false, narrowed := true }
def FnCocycleCountsUptoSaid : Prop := fnCocycleCountsUptoRow.holds Try.pinned (OpenSpec.upto fnCocycleCountsSpec)

/-- 'laws.FnRackExtensions', WHERE WHAT IT READS IS OF BULK AT MOST 1048576: true; the input reads as it did. -/
def fnRackExtensionsUptoRow : OpenClaim := { program := "ytcfbmimjffkgdaa", sum := "82ee25f9767cf04aa50ea557ce9991da9dc899df7e37e74d59032326ded59e2d", func := "loop.example/g01119/laws.FnRackExtensions", spec := "fnRackExtensions", unfollowed := true, recurses := true, apart := false, narrowed := true }
def FnRackExtensionsUptoSaid : Prop := fnRackExtensionsUptoRow.holds Try.pinned (OpenSpec.upto fnRackExtensionsSpec)

/-- 'laws.FnRackChains', WHERE WHAT IT READS IS OF BULK AT MOST 1048576: true; the input reads as it did. -/
def fnRackChainsUptoRow : OpenClaim := { program := "ytcfbmimjffkgdaa", sum := "82ee25f9767cf04aa50ea557ce9991da9dc899df7e37e74d59032326ded59e2d", func := "loop.example/g01119/laws.FnRackChains", spec := "fnRackChains", unfollowed := true, recurses := true, apart := false, narrowed := true }
def FnRackChainsUptoSaid : Prop := fnRackChainsUptoRow.holds Try.pinned (OpenSpec.upto fnRackChainsSpec)

end Rows
end Go.Proofs.Ytcfbmimjffkgdaa
