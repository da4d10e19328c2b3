/-
  No cell of these rows narrows 'for every input' (looked for: loops, veiled, ifaces, maps, wideKeys, modest, calm, conditions, laid).
  DERIVED. THE GIVEN ROWS OF THIS SEAT. 6 by the template 'for every input the law returns true; each argument reads behind the call as it read before'; 0 by the template 'total and deterministic' (their statements: YtegeohcghndpcaaTotals.lean).
  GIVEN WITH THE SEED: the statements are not yours to turn. If you find one false, say at which input.
  Laid BY PROGRAM, IN A SANDBOX (cutbox-rows.mjs): the forced cells as the released guide's own fill.sh prints them over the translation 91bb4ee99869d664… (all of the seat's roots in one cut). By AI agents, Wed Nov 11 2026. No macro, syntax, notation, axiom, sorry.
-/
import Derived.Test.YtegeohcghndpcaaChecked
import GoSem.Claim
import GoSem.ClaimJoined
import GoSem.ClaimMapViews
import Derived.JoinedTies
import Derived.KernelRfl
namespace Go.Proofs.Ytegeohcghndpcaa
/- THE CELL 'sum', in the pinned program and in every row, IS THE sha256 OF THE DUMP (.gsa) THAT YtegeohcghndpcaaProg.lean LOADS. Nothing in Lean hashes anything: it is a label: what it is worth is what the hold of that sum in a sandbox is worth. -/
noncomputable def Try.pinned : Pinned := { name := "ytegeohcghndpcaa", sum := "91bb4ee99869d66476e0f4cfeef375adb86ed40fa2eb0e26bb7e9c9c804d89d3", checked := Try.checked }
namespace Rows
def none {H : Type} : Left H := { results := [], args := [] }

/-- 'laws.FnExactCoboundarySource': WHATEVER THE INPUT: true; the input reads as it did. -/
def fnExactCoboundarySourceSpec : ChangeSpec := { name := "fnExactCoboundarySource", fn := fun _ => fun
  | [d1, d2, d3] => { results := [.lit (.bool true)], args := [d1, d2, d3] }
  | _ => none }
def fnExactCoboundarySourceRow : OpenClaim := { program := "ytegeohcghndpcaa", sum := "91bb4ee99869d66476e0f4cfeef375adb86ed40fa2eb0e26bb7e9c9c804d89d3", func := "loop.example/g01119/laws.FnExactCoboundarySource", spec := "fnExactCoboundarySource", unfollowed := true, recurses := true, apart := false }
def FnExactCoboundarySourceSaid : Prop := fnExactCoboundarySourceRow.holds Try.pinned (OpenSpec.ofChange fnExactCoboundarySourceSpec)

/-- ITS FALSE NEIGHBOUR: 'it returns false'. Refute it at one input. -/
def fnExactCoboundarySourceWrong : ChangeSpec := { name := "fnExactCoboundarySource", fn := fun _ => fun
  | [d1, d2, d3] => { results := [.lit (.bool false)], args := [d1, d2, d3] }
  | _ => none }
def FnExactCoboundarySourceWrongFalsely : Prop := fnExactCoboundarySourceRow.holds Try.pinned (OpenSpec.ofChange fnExactCoboundarySourceWrong)

/-- 'laws.FnExactConstantDynamical': WHATEVER THE INPUT: true; the input reads as it did. -/
def fnExactConstantDynamicalSpec : ChangeSpec := { name := "fnExactConstantDynamical", fn := fun _ => fun
  | [d1, d2, d3] => { results := [.lit (.bool true)], args := [d1, d2, d3] }
  | _ => none }
def fnExactConstantDynamicalRow : OpenClaim := { program := "ytegeohcghndpcaa", sum := "91bb4ee99869d66476e0f4cfeef375adb86ed40fa2eb0e26bb7e9c9c804d89d3", func := "loop.example/g01119/laws.FnExactConstantDynamical", spec := "fnExactConstantDynamical", unfollowed := true, recurses := true, apart := false }
def FnExactConstantDynamicalSaid : Prop := fnExactConstantDynamicalRow.holds Try.pinned (OpenSpec.ofChange fnExactConstantDynamicalSpec)

/-- ITS FALSE NEIGHBOUR: 'it returns false'. Refute it at one input. -/
def fnExactConstantDynamicalWrong : ChangeSpec := { name := "fnExactConstantDynamical", fn := fun _ => fun
  | [d1, d2, d3] => { results := [.lit (.bool false)], args := [d1, d2, d3] }
  | _ => none }
def FnExactConstantDynamicalWrongFalsely : Prop := fnExactConstantDynamicalRow.holds Try.pinned (OpenSpec.ofChange fnExactConstantDynamicalWrong)

/-- 'laws.FnExactIsCocycle': WHATEVER THE INPUT: true; the input reads as it did. -/
def fnExactIsCocycleSpec : ChangeSpec := { name := "fnExactIsCocycle", fn := fun _ => fun
  | [d1, d2, d3] => { results := [.lit (.bool true)], args := [d1, d2, d3] }
  | _ => none }
def fnExactIsCocycleRow : OpenClaim := { program := "ytegeohcghndpcaa", sum := "91bb4ee99869d66476e0f4cfeef375adb86ed40fa2eb0e26bb7e9c9c804d89d3", func := "loop.example/g01119/laws.FnExactIsCocycle", spec := "fnExactIsCocycle", unfollowed := true, recurses := true, apart := false }
def FnExactIsCocycleSaid : Prop := fnExactIsCocycleRow.holds Try.pinned (OpenSpec.ofChange fnExactIsCocycleSpec)

/-- ITS FALSE NEIGHBOUR: 'it returns false'. Refute it at one input. -/
def fnExactIsCocycleWrong : ChangeSpec := { name := "fnExactIsCocycle", fn := fun _ => fun
  | [d1, d2, d3] => { results := [.lit (.bool false)], args := [d1, d2, d3] }
  | _ => none }
def FnExactIsCocycleWrongFalsely : Prop := fnExactIsCocycleRow.holds Try.pinned (OpenSpec.ofChange fnExactIsCocycleWrong)

/-- 'laws.FnExactBraidAction': WHATEVER THE INPUT: true; the input reads as it did. -/
def fnExactBraidActionSpec : ChangeSpec := { name := "fnExactBraidAction", fn := fun _ => fun
  | [d1, d2, d3] => { results := [.lit (.bool true)], args := [d1, d2, d3] }
  | _ => none }
def fnExactBraidActionRow : OpenClaim := { program := "ytegeohcghndpcaa", sum := "91bb4ee99869d66476e0f4cfeef375adb86ed40fa2eb0e26bb7e9c9c804d89d3", func := "loop.example/g01119/laws.FnExactBraidAction", spec := "fnExactBraidAction", unfollowed := true, recurses := true, apart := false }
def FnExactBraidActionSaid : Prop := fnExactBraidActionRow.holds Try.pinned (OpenSpec.ofChange fnExactBraidActionSpec)

/-- ITS FALSE NEIGHBOUR: 'it returns false'. Refute it at one input. -/
def fnExactBraidActionWrong : ChangeSpec := { name := "fnExactBraidAction", fn := fun _ => fun
  | [d1, d2, d3] => { results := [.lit (.bool false)], args := [d1, d2, d3] }
  | _ => none }
def FnExactBraidActionWrongFalsely : Prop := fnExactBraidActionRow.holds Try.pinned (OpenSpec.ofChange fnExactBraidActionWrong)

/-- 'laws.FnExactDynamicalExtension': WHATEVER THE INPUT: true; the input reads as it did. -/
def fnExactDynamicalExtensionSpec : ChangeSpec := { name := "fnExactDynamicalExtension", fn := fun _ => fun
  | [d1, d2, d3] => { results := [.lit (.bool true)], args := [d1, d2, d3] }
  | _ => none }
def fnExactDynamicalExtensionRow : OpenClaim := { program := "ytegeohcghndpcaa", sum := "91bb4ee99869d66476e0f4cfeef375adb86ed40fa2eb0e26bb7e9c9c804d89d3", func := "loop.example/g01119/laws.FnExactDynamicalExtension", spec := "fnExactDynamicalExtension", unfollowed := true, recurses := true, apart := false }
def FnExactDynamicalExtensionSaid : Prop := fnExactDynamicalExtensionRow.holds Try.pinned (OpenSpec.ofChange fnExactDynamicalExtensionSpec)

/-- ITS FALSE NEIGHBOUR: 'it returns false'. Refute it at one input. -/
def fnExactDynamicalExtensionWrong : ChangeSpec := { name := "fnExactDynamicalExtension", fn := fun _ => fun
  | [d1, d2, d3] => { results := [.lit (.bool false)], args := [d1, d2, d3] }
  | _ => none }
def FnExactDynamicalExtensionWrongFalsely : Prop := fnExactDynamicalExtensionRow.holds Try.pinned (OpenSpec.ofChange fnExactDynamicalExtensionWrong)

/-- 'laws.FnExactTimesBraid': WHATEVER THE INPUT: true; the input reads as it did. -/
def fnExactTimesBraidSpec : ChangeSpec := { name := "fnExactTimesBraid", fn := fun _ => fun
  | [d1, d2] => { results := [.lit (.bool true)], args := [d1, d2] }
  | _ => none }
def fnExactTimesBraidRow : OpenClaim := { program := "ytegeohcghndpcaa", sum := "91bb4ee99869d66476e0f4cfeef375adb86ed40fa2eb0e26bb7e9c9c804d89d3", func := "loop.example/g01119/laws.FnExactTimesBraid", spec := "fnExactTimesBraid", unfollowed := true, recurses := true, apart := false }
def FnExactTimesBraidSaid : Prop := fnExactTimesBraidRow.holds Try.pinned (OpenSpec.ofChange fnExactTimesBraidSpec)

/-- ITS FALSE NEIGHBOUR: 'it returns false'. Refute it at one input. -/
def fnExactTimesBraidWrong : ChangeSpec := { name := "fnExactTimesBraid", fn := fun _ => fun
  | [d1, d2] => { results := [.lit (.bool false)], args := [d1, d2] }
  | _ => none }
def FnExactTimesBraidWrongFalsely : Prop := fnExactTimesBraidRow.holds Try.pinned (OpenSpec.ofChange fnExactTimesBraidWrong)

/- THE SECOND FORM. 'bulk': how many values and letters a reading holds, each counted each time it is reached (what is shared counts as often as it is met; a slice's spare places count too). A statement '..UptoSaid' is the law's where the arguments, and the package variables that the reading takes, are together of bulk at most 1048576: NARROWER than '..Said'. Prove '..Said' where nothing that the law and all that it calls make is longer than what came in: it says more and counts as full. Else prove '..UptoSaid'. A law counts once. -/
mutual
def uptoBulk {H : Type} : DataW H → Nat
  | .lit (.string bytes) => bytes.length + 1
  | .lit _ => 1
  | .nil => 1
  | .ptr d => uptoBulk d + 1
  | .slice elems spare => uptoBulkAll elems + uptoBulkAll spare + 1
  | .agg parts => uptoBulkAll parts + 1
  | .iface _ d => uptoBulk d + 1
  | .map entries => uptoBulkEntries entries + 1
  | .held _ => 1
def uptoBulkAll {H : Type} : List (DataW H) → Nat
  | [] => 0
  | d :: r => uptoBulk d + uptoBulkAll r
def uptoBulkEntries {H : Type} : List (Lit × DataW H) → Nat
  | [] => 0
  | x :: r => uptoBulkEntry x + uptoBulkEntries r
def uptoBulkEntry {H : Type} : Lit × DataW H → Nat
  | (.string bytes, d) => bytes.length + uptoBulk d + 1
  | (_, d) => uptoBulk d + 1
 end
def uptoSmall : (H : Type) → List (DataW H) → Bool := fun _ ds => decide (uptoBulkAll ds ≤ 1048576)
def OpenSpec.upto (s : _root_.Go.ChangeSpec) : _root_.Go.OpenSpec := { _root_.Go.OpenSpec.ofChange s with cond := some uptoSmall }

/-- 'laws.FnExactCoboundarySource', WHERE WHAT IT READS IS OF BULK AT MOST 1048576: true; the input reads as it did. -/
def fnExactCoboundarySourceUptoRow : OpenClaim := { program := "ytegeohcghndpcaa", sum := "91bb4ee99869d66476e0f4cfeef375adb86ed40fa2eb0e26bb7e9c9c804d89d3", func := "loop.example/g01119/laws.FnExactCoboundarySource", spec := "fnExactCoboundarySource", unfollowed := true, recurses := true, apart := false, narrowed := true }
def FnExactCoboundarySourceUptoSaid : Prop := fnExactCoboundarySourceUptoRow.holds Try.pinned (OpenSpec.upto fnExactCoboundarySourceSpec)

/-- 'laws.FnExactConstantDynamical', WHERE WHAT IT READS IS OF BULK AT MOST 1048576: true; the input reads as it did. -/
def fnExactConstantDynamicalUptoRow : OpenClaim := { program := "ytegeohcghndpcaa", sum := "91bb4ee99869d66476e0f4cfeef375adb86ed40fa2eb0e26bb7e9c9c804d89d3", func := "loop.example/g01119/laws.FnExactConstantDynamical", spec := "fnExactConstantDynamical", unfollowed := true, recurses := true, apart := false, narrowed := true }
def FnExactConstantDynamicalUptoSaid : Prop := fnExactConstantDynamicalUptoRow.holds Try.pinned (OpenSpec.upto fnExactConstantDynamicalSpec)

/-- 'laws.FnExactIsCocycle', WHERE WHAT IT READS IS OF BULK AT MOST 1048576: true; the input reads as it did. -/
def fnExactIsCocycleUptoRow : OpenClaim := { program := "ytegeohcghndpcaa", sum := "91bb4ee99869d66476e0f4cfeef375adb86ed40fa2eb0e26bb7e9c9c804d89d3", func := "loop.example/g01119/laws.FnExactIsCocycle", spec := "fnExactIsCocycle", unfollowed := true, recurses := true, apart := false, narrowed := true }
def FnExactIsCocycleUptoSaid : Prop := fnExactIsCocycleUptoRow.holds Try.pinned (OpenSpec.upto fnExactIsCocycleSpec)

/-- 'laws.FnExactBraidAction', WHERE WHAT IT READS IS OF BULK AT MOST 1048576: true; the input reads as it did. -/
def fnExactBraidActionUptoRow : OpenClaim := { program := "ytegeohcghndpcaa", sum := "91bb4ee99869d66476e0f4cfeef375adb86ed40fa2eb0e26bb7e9c9c804d89d3", func := "loop.example/g01119/laws.FnExactBraidAction", spec := "fnExactBraidAction", unfollowed := true, recurses := true, apart := false, narrowed := true }
def FnExactBraidActionUptoSaid : Prop := fnExactBraidActionUptoRow.holds Try.pinned (OpenSpec.upto fnExactBraidActionSpec)

/-- 'laws.FnExactDynamicalExtension', WHERE WHAT IT READS IS OF BULK AT MOST 1048576: true; the input reads as it did. -/
def fnExactDynamicalExtensionUptoRow : OpenClaim := { program := "ytegeohcghndpcaa", sum := "91bb4ee99869d66476e0f4cfeef375adb86ed40fa2eb0e26bb7e9c9c804d89d3", func := "loop.example/g01119/laws.FnExactDynamicalExtension", spec := "fnExactDynamicalExtension", unfollowed := true, recurses := true, apart := false, narrowed := true }
def FnExactDynamicalExtensionUptoSaid : Prop := fnExactDynamicalExtensionUptoRow.holds Try.pinned (OpenSpec.upto fnExactDynamicalExtensionSpec)

/-- 'laws.FnExactTimesBraid', WHERE WHAT IT READS IS OF BULK AT MOST 1048576: true; the input reads as it did. -/
def fnExactTimesBraidUptoRow : OpenClaim := { program := "ytegeohcghndpcaa", sum := "91bb4ee99869d66476e0f4cfeef375adb86ed40fa2eb0e26bb7e9c9c804d89d3", func := "loop.example/g01119/laws.FnExactTimesBraid", spec := "fnExactTimesBraid", unfollowed := true, recurses := true, apart := false, narrowed := true }
def FnExactTimesBraidUptoSaid : Prop := fnExactTimesBraidUptoRow.holds Try.pinned (OpenSpec.upto fnExactTimesBraidSpec)

end Rows
end Go.Proofs.Ytegeohcghndpcaa
