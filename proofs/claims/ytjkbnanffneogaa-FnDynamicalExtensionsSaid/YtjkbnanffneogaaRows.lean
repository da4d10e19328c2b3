/-
  No cell of these rows narrows 'for every input' (looked for: loops, veiled, ifaces, maps, wideKeys, modest, calm, conditions, laid).
  DERIVED. THE GIVEN ROWS OF THIS SEAT. 4 by the template 'for every input the law returns true; each argument reads behind the call as it read before'; 0 by the template 'total and deterministic' (their statements: YtjkbnanffneogaaTotals.lean).
  GIVEN WITH THE SEED: the statements are not yours to turn. If you find one false, say at which input.
  Laid BY PROGRAM, IN A SANDBOX (cutbox-rows.mjs): the forced cells as the released guide's own fill.sh prints them over the translation a529a83ce6929706… (all of the seat's roots in one cut). By AI agents, Wed Nov 11 2026. No macro, syntax, notation, axiom, sorry.
-/
import Derived.Test.YtjkbnanffneogaaChecked
import GoSem.Claim
import GoSem.ClaimJoined
import GoSem.ClaimMapViews
import Derived.JoinedTies
import Derived.KernelRfl
namespace Go.Proofs.Ytjkbnanffneogaa
/- THE CELL 'sum', in the pinned program and in every row, IS THE sha256 OF THE DUMP (.gsa) THAT YtjkbnanffneogaaProg.lean LOADS. Nothing in Lean hashes anything: it is a label: what it is worth is what the hold of that sum in a sandbox is worth. -/
noncomputable def Try.pinned : Pinned := { name := "ytjkbnanffneogaa", sum := "a529a83ce6929706a62a8ad70f13593c051d29cad34e585a4cab0aec363806b7", checked := Try.checked }
namespace Rows
def none {H : Type} : Left H := { results := [], args := [] }

/-- 'laws.FnCycleExtensions': WHATEVER THE INPUT: true; the input reads as it did. -/
def fnCycleExtensionsSpec : ChangeSpec := { name := "fnCycleExtensions", fn := fun _ => fun
  | [d] => { results := [.lit (.bool true)], args := [d] }
  | _ => none }
def fnCycleExtensionsRow : OpenClaim := { program := "ytjkbnanffneogaa", sum := "a529a83ce6929706a62a8ad70f13593c051d29cad34e585a4cab0aec363806b7", func := "loop.example/g01119/laws.FnCycleExtensions", spec := "fnCycleExtensions", unfollowed := true, recurses := true, apart := false }
def FnCycleExtensionsSaid : Prop := fnCycleExtensionsRow.holds Try.pinned (OpenSpec.ofChange fnCycleExtensionsSpec)

/-- ITS FALSE NEIGHBOUR: 'it returns false'. Refute it at one input. -/
def fnCycleExtensionsWrong : ChangeSpec := { name := "fnCycleExtensions", fn := fun _ => fun
  | [d] => { results := [.lit (.bool false)], args := [d] }
  | _ => none }
def FnCycleExtensionsWrongFalsely : Prop := fnCycleExtensionsRow.holds Try.pinned (OpenSpec.ofChange fnCycleExtensionsWrong)

/-- 'laws.FnDynamicalExtensions': WHATEVER THE INPUT: true; the input reads as it did. -/
def fnDynamicalExtensionsSpec : ChangeSpec := { name := "fnDynamicalExtensions", fn := fun _ => fun
  | [d] => { results := [.lit (.bool true)], args := [d] }
  | _ => none }
def fnDynamicalExtensionsRow : OpenClaim := { program := "ytjkbnanffneogaa", sum := "a529a83ce6929706a62a8ad70f13593c051d29cad34e585a4cab0aec363806b7", func := "loop.example/g01119/laws.FnDynamicalExtensions", spec := "fnDynamicalExtensions", unfollowed := true, recurses := true, apart := false }
def FnDynamicalExtensionsSaid : Prop := fnDynamicalExtensionsRow.holds Try.pinned (OpenSpec.ofChange fnDynamicalExtensionsSpec)

/-- ITS FALSE NEIGHBOUR: 'it returns false'. Refute it at one input. -/
def fnDynamicalExtensionsWrong : ChangeSpec := { name := "fnDynamicalExtensions", fn := fun _ => fun
  | [d] => { results := [.lit (.bool false)], args := [d] }
  | _ => none }
def FnDynamicalExtensionsWrongFalsely : Prop := fnDynamicalExtensionsRow.holds Try.pinned (OpenSpec.ofChange fnDynamicalExtensionsWrong)

/-- 'laws.FnExactConstantDynamical': WHATEVER THE INPUT: true; the input reads as it did. -/
def fnExactConstantDynamicalSpec : ChangeSpec := { name := "fnExactConstantDynamical", fn := fun _ => fun
  | [d1, d2, d3] => { results := [.lit (.bool true)], args := [d1, d2, d3] }
  | _ => none }
def fnExactConstantDynamicalRow : OpenClaim := { program := "ytjkbnanffneogaa", sum := "a529a83ce6929706a62a8ad70f13593c051d29cad34e585a4cab0aec363806b7", func := "loop.example/g01119/laws.FnExactConstantDynamical", spec := "fnExactConstantDynamical", unfollowed := true, recurses := true, apart := false }
def FnExactConstantDynamicalSaid : Prop := fnExactConstantDynamicalRow.holds Try.pinned (OpenSpec.ofChange fnExactConstantDynamicalSpec)

/-- ITS FALSE NEIGHBOUR: 'it returns false'. Refute it at one input. -/
def fnExactConstantDynamicalWrong : ChangeSpec := { name := "fnExactConstantDynamical", fn := fun _ => fun
  | [d1, d2, d3] => { results := [.lit (.bool false)], args := [d1, d2, d3] }
  | _ => none }
def FnExactConstantDynamicalWrongFalsely : Prop := fnExactConstantDynamicalRow.holds Try.pinned (OpenSpec.ofChange fnExactConstantDynamicalWrong)

/-- 'laws.FnExactDynamicalExtension': WHATEVER THE INPUT: true; the input reads as it did. -/
def fnExactDynamicalExtensionSpec : ChangeSpec := { name := "fnExactDynamicalExtension", fn := fun _ => fun
  | [d1, d2, d3] => { results := [.lit (.bool true)], args := [d1, d2, d3] }
  | _ => none }
def fnExactDynamicalExtensionRow : OpenClaim := { program := "ytjkbnanffneogaa", sum := "a529a83ce6929706a62a8ad70f13593c051d29cad34e585a4cab0aec363806b7", func := "loop.example/g01119/laws.FnExactDynamicalExtension", spec := "fnExactDynamicalExtension", unfollowed := true, recurses := true, apart := false }
def FnExactDynamicalExtensionSaid : Prop := fnExactDynamicalExtensionRow.holds Try.pinned (OpenSpec.ofChange fnExactDynamicalExtensionSpec)

/-- ITS FALSE NEIGHBOUR: 'it returns false'. Refute it at one input. -/
def fnExactDynamicalExtensionWrong : ChangeSpec := { name := "fnExactDynamicalExtension", fn := fun _ => fun
  | [d1, d2, d3] => { results := [.lit (.bool false)], args := [d1, d2, d3] }
  | _ => none }
def FnExactDynamicalExtensionWrongFalsely : Prop := fnExactDynamicalExtensionRow.holds Try.pinned (OpenSpec.ofChange fnExactDynamicalExtensionWrong)

/- THE SECOND FORM. 'bulk': how many values and letters a reading holds, each counted each time it is reached (what is shared counts as often as it is met; a slice's spare places count too). A statement '..UptoSaid' is the law's where the arguments, and the package variables that the reading takes, are together of bulk at most 1048576: NARROWER than '..Said'. Prove '..Said' where nothing that the law and all that it calls make is longer than what came in: it says more and counts as full. Else prove '..UptoSaid'. A law counts once. -/
mutual
def uptoBulk {H : Type} : DataW H → Nat
  | .lit (.string bytes) => bytes.length + 1
  | .lit _ => 1
  | .nil => 1
  | .ptr d => uptoBulk d + 1
  | .slice elems spare => uptoBulkAll elems + uptoBulkAll spare + 1
  | .agg parts => uptoBulkAll parts + 1
  | .iface _ d => uptoBulk d + 1
  | .map entries => uptoBulkEntries entries + 1
  | .held _ => 1
def uptoBulkAll {H : Type} : List (DataW H) → Nat
  | [] => 0
  | d :: r => uptoBulk d + uptoBulkAll r
def uptoBulkEntries {H : Type} : List (Lit × DataW H) → Nat
  | [] => 0
  | x :: r => uptoBulkEntry x + uptoBulkEntries r
def uptoBulkEntry {H : Type} : Lit × DataW H → Nat
  | (.string bytes, d) => bytes.length + uptoBulk d + 1
  | (_, d) => uptoBulk d + 1
 end
def uptoSmall : (H : Type) → List (DataW H) → Bool := fun _ ds => decide (uptoBulkAll ds ≤ 1048576)
def OpenSpec.upto (s : _root_.Go.ChangeSpec) : _root_.Go.OpenSpec := { _root_.Go.OpenSpec.ofChange s with cond := some uptoSmall }

/-- 'laws.FnCycleExtensions', WHERE WHAT IT READS IS OF BULK AT MOST 1048576: true; the input reads as it did. -/
def fnCycleExtensionsUptoRow : OpenClaim := { program := "ytjkbnanffneogaa", sum := "a529a83ce6929706a62a8ad70f13593c051d29cad34e585a4cab0aec363806b7", func := "loop.example/g01119/laws.FnCycleExtensions", spec := "fnCycleExtensions", unfollowed := true, recurses := true, apart := false, narrowed := true }
def FnCycleExtensionsUptoSaid : Prop := fnCycleExtensionsUptoRow.holds Try.pinned (OpenSpec.upto fnCycleExtensionsSpec)

/-- 'laws.FnDynamicalExtensions', WHERE WHAT IT READS IS OF BULK AT MOST 1048576: true; the input reads as it did. -/
def fnDynamicalExtensionsUptoRow : OpenClaim := { program := "ytjkbnanffneogaa", sum := "a529a83ce6929706a62a8ad70f13593c051d29cad34e585a4cab0aec363806b7", func := "loop.example/g01119/laws.FnDynamicalExtensions", spec := "fnDynamicalExtensions", unfollowed := true, recurses := true, apart := false, narrowed := true }
def FnDynamicalExtensionsUptoSaid : Prop := fnDynamicalExtensionsUptoRow.holds Try.pinned (OpenSpec.upto fnDynamicalExtensionsSpec)

/-- 'laws.FnExactConstantDynamical', WHERE WHAT IT READS IS OF BULK AT MOST 1048576: true; the input reads as it did. -/
def fnExactConstantDynamicalUptoRow : OpenClaim := { program := "ytjkbnanffneogaa", sum := "a529a83ce6929706a62a8ad70f13593c051d29cad34e585a4cab0aec363806b7", func := "loop.example/g01119/laws.FnExactConstantDynamical", spec := "fnExactConstantDynamical", unfollowed := true, recurses := true, apart := false, narrowed := true }
def FnExactConstantDynamicalUptoSaid : Prop := fnExactConstantDynamicalUptoRow.holds Try.pinned (OpenSpec.upto fnExactConstantDynamicalSpec)

/-- 'laws.FnExactDynamicalExtension', WHERE WHAT IT READS IS OF BULK AT MOST 1048576: true; the input reads as it did. -/
def fnExactDynamicalExtensionUptoRow : OpenClaim := { program := "ytjkbnanffneogaa", sum := "a529a83ce6929706a62a8ad70f13593c051d29cad34e585a4cab0aec363806b7", func := "loop.example/g01119/laws.FnExactDynamicalExtension", spec := "fnExactDynamicalExtension", unfollowed := true, recurses := true, apart := false, narrowed := true }
def FnExactDynamicalExtensionUptoSaid : Prop := fnExactDynamicalExtensionUptoRow.holds Try.pinned (OpenSpec.upto fnExactDynamicalExtensionSpec)

end Rows
end Go.Proofs.Ytjkbnanffneogaa
