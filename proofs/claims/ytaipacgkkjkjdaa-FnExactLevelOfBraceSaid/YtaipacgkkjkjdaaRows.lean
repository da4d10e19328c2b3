/-
  No cell of these rows narrows 'for every input' (looked for: loops, veiled, ifaces, maps, wideKeys, modest, calm, conditions, laid).
  DERIVED. THE GIVEN ROWS OF THIS SEAT. 6 by the template 'for every input the law returns true; each argument reads behind the call as it read before'; 0 by the template 'total and deterministic' (their statements: YtaipacgkkjkjdaaTotals.lean).
  GIVEN WITH THE SEED: the statements are not yours to turn. If you find one false, say at which input.
  Laid BY PROGRAM, IN A SANDBOX (cutbox-rows.mjs): the forced cells as the released guide's own fill.sh prints them over the translation d9056f29007667a2… (all of the seat's roots in one cut). By AI agents, Wed Nov 11 2026. No macro, syntax, notation, axiom, sorry.
-/
import Derived.Test.YtaipacgkkjkjdaaChecked
import GoSem.Claim
import GoSem.ClaimJoined
import GoSem.ClaimMapViews
import Derived.JoinedTies
import Derived.KernelRfl
namespace Go.Proofs.Ytaipacgkkjkjdaa
/- THE CELL 'sum', in the pinned program and in every row, IS THE sha256 OF THE DUMP (.gsa) THAT YtaipacgkkjkjdaaProg.lean LOADS. Nothing in Lean hashes anything: it is a label: what it is worth is what the hold of that sum in a sandbox is worth. -/
noncomputable def Try.pinned : Pinned := { name := "ytaipacgkkjkjdaa", sum := "d9056f29007667a22e585cb627fceb0cb0cd5f9b9fbedf3886c75c075d6f210a", checked := Try.checked }
namespace Rows
def none {H : Type} : Left H := { results := [], args := [] }

/-- 'laws.FnExactRackBoundary': WHATEVER THE INPUT: true; the input reads as it did. -/
def fnExactRackBoundarySpec : ChangeSpec := { name := "fnExactRackBoundary", fn := fun _ => fun
  | [d1, d2, d3, d4] => { results := [.lit (.bool true)], args := [d1, d2, d3, d4] }
  | _ => none }
def fnExactRackBoundaryRow : OpenClaim := { program := "ytaipacgkkjkjdaa", sum := "d9056f29007667a22e585cb627fceb0cb0cd5f9b9fbedf3886c75c075d6f210a", func := "loop.example/g01119/laws.FnExactRackBoundary", spec := "fnExactRackBoundary", unfollowed := true, recurses := true, apart := false }
def FnExactRackBoundarySaid : Prop := fnExactRackBoundaryRow.holds Try.pinned (OpenSpec.ofChange fnExactRackBoundarySpec)

/-- ITS FALSE NEIGHBOUR: 'it returns false'. Refute it at one input. -/
def fnExactRackBoundaryWrong : ChangeSpec := { name := "fnExactRackBoundary", fn := fun _ => fun
  | [d1, d2, d3, d4] => { results := [.lit (.bool false)], args := [d1, d2, d3, d4] }
  | _ => none }
def FnExactRackBoundaryWrongFalsely : Prop := fnExactRackBoundaryRow.holds Try.pinned (OpenSpec.ofChange fnExactRackBoundaryWrong)

/-- 'laws.FnExactQuandleBoundary': WHATEVER THE INPUT: true; the input reads as it did. -/
def fnExactQuandleBoundarySpec : ChangeSpec := { name := "fnExactQuandleBoundary", fn := fun _ => fun
  | [d1, d2, d3, d4] => { results := [.lit (.bool true)], args := [d1, d2, d3, d4] }
  | _ => none }
def fnExactQuandleBoundaryRow : OpenClaim := { program := "ytaipacgkkjkjdaa", sum := "d9056f29007667a22e585cb627fceb0cb0cd5f9b9fbedf3886c75c075d6f210a", func := "loop.example/g01119/laws.FnExactQuandleBoundary", spec := "fnExactQuandleBoundary", unfollowed := true, recurses := true, apart := false }
def FnExactQuandleBoundarySaid : Prop := fnExactQuandleBoundaryRow.holds Try.pinned (OpenSpec.ofChange fnExactQuandleBoundarySpec)

/-- ITS FALSE NEIGHBOUR: 'it returns false'. Refute it at one input. -/
def fnExactQuandleBoundaryWrong : ChangeSpec := { name := "fnExactQuandleBoundary", fn := fun _ => fun
  | [d1, d2, d3, d4] => { results := [.lit (.bool false)], args := [d1, d2, d3, d4] }
  | _ => none }
def FnExactQuandleBoundaryWrongFalsely : Prop := fnExactQuandleBoundaryRow.holds Try.pinned (OpenSpec.ofChange fnExactQuandleBoundaryWrong)

/-- 'laws.FnExactLevelOfBrace': WHATEVER THE INPUT: true; the input reads as it did. -/
def fnExactLevelOfBraceSpec : ChangeSpec := { name := "fnExactLevelOfBrace", fn := fun _ => fun
  | [d] => { results := [.lit (.bool true)], args := [d] }
  | _ => none }
def fnExactLevelOfBraceRow : OpenClaim := { program := "ytaipacgkkjkjdaa", sum := "d9056f29007667a22e585cb627fceb0cb0cd5f9b9fbedf3886c75c075d6f210a", func := "loop.example/g01119/laws.FnExactLevelOfBrace", spec := "fnExactLevelOfBrace", unfollowed := true, recurses := true, apart := false }
def FnExactLevelOfBraceSaid : Prop := fnExactLevelOfBraceRow.holds Try.pinned (OpenSpec.ofChange fnExactLevelOfBraceSpec)

/-- ITS FALSE NEIGHBOUR: 'it returns false'. Refute it at one input. -/
def fnExactLevelOfBraceWrong : ChangeSpec := { name := "fnExactLevelOfBrace", fn := fun _ => fun
  | [d] => { results := [.lit (.bool false)], args := [d] }
  | _ => none }
def FnExactLevelOfBraceWrongFalsely : Prop := fnExactLevelOfBraceRow.holds Try.pinned (OpenSpec.ofChange fnExactLevelOfBraceWrong)

/-- 'laws.FnExactIdealsOf': WHATEVER THE INPUT: true; the input reads as it did. -/
def fnExactIdealsOfSpec : ChangeSpec := { name := "fnExactIdealsOf", fn := fun _ => fun
  | [d] => { results := [.lit (.bool true)], args := [d] }
  | _ => none }
def fnExactIdealsOfRow : OpenClaim := { program := "ytaipacgkkjkjdaa", sum := "d9056f29007667a22e585cb627fceb0cb0cd5f9b9fbedf3886c75c075d6f210a", func := "loop.example/g01119/laws.FnExactIdealsOf", spec := "fnExactIdealsOf", unfollowed := true, recurses := true, apart := false }
def FnExactIdealsOfSaid : Prop := fnExactIdealsOfRow.holds Try.pinned (OpenSpec.ofChange fnExactIdealsOfSpec)

/-- ITS FALSE NEIGHBOUR: 'it returns false'. Refute it at one input. -/
def fnExactIdealsOfWrong : ChangeSpec := { name := "fnExactIdealsOf", fn := fun _ => fun
  | [d] => { results := [.lit (.bool false)], args := [d] }
  | _ => none }
def FnExactIdealsOfWrongFalsely : Prop := fnExactIdealsOfRow.holds Try.pinned (OpenSpec.ofChange fnExactIdealsOfWrong)

/-- 'laws.FnExactStarIdeal': WHATEVER THE INPUT: true; the input reads as it did. -/
def fnExactStarIdealSpec : ChangeSpec := { name := "fnExactStarIdeal", fn := fun _ => fun
  | [d] => { results := [.lit (.bool true)], args := [d] }
  | _ => none }
def fnExactStarIdealRow : OpenClaim := { program := "ytaipacgkkjkjdaa", sum := "d9056f29007667a22e585cb627fceb0cb0cd5f9b9fbedf3886c75c075d6f210a", func := "loop.example/g01119/laws.FnExactStarIdeal", spec := "fnExactStarIdeal", unfollowed := true, recurses := true, apart := false }
def FnExactStarIdealSaid : Prop := fnExactStarIdealRow.holds Try.pinned (OpenSpec.ofChange fnExactStarIdealSpec)

/-- ITS FALSE NEIGHBOUR: 'it returns false'. Refute it at one input. -/
def fnExactStarIdealWrong : ChangeSpec := { name := "fnExactStarIdeal", fn := fun _ => fun
  | [d] => { results := [.lit (.bool false)], args := [d] }
  | _ => none }
def FnExactStarIdealWrongFalsely : Prop := fnExactStarIdealRow.holds Try.pinned (OpenSpec.ofChange fnExactStarIdealWrong)

/-- 'laws.FnExactQuotientBrace': WHATEVER THE INPUT: true; the input reads as it did. -/
def fnExactQuotientBraceSpec : ChangeSpec := { name := "fnExactQuotientBrace", fn := fun _ => fun
  | [d1, d2] => { results := [.lit (.bool true)], args := [d1, d2] }
  | _ => none }
def fnExactQuotientBraceRow : OpenClaim := { program := "ytaipacgkkjkjdaa", sum := "d9056f29007667a22e585cb627fceb0cb0cd5f9b9fbedf3886c75c075d6f210a", func := "loop.example/g01119/laws.FnExactQuotientBrace", spec := "fnExactQuotientBrace", unfollowed := true, recurses := true, apart := false }
def FnExactQuotientBraceSaid : Prop := fnExactQuotientBraceRow.holds Try.pinned (OpenSpec.ofChange fnExactQuotientBraceSpec)

/-- ITS FALSE NEIGHBOUR: 'it returns false'. Refute it at one input. -/
def fnExactQuotientBraceWrong : ChangeSpec := { name := "fnExactQuotientBrace", fn := fun _ => fun
  | [d1, d2] => { results := [.lit (.bool false)], args := [d1, d2] }
  | _ => none }
def FnExactQuotientBraceWrongFalsely : Prop := fnExactQuotientBraceRow.holds Try.pinned (OpenSpec.ofChange fnExactQuotientBraceWrong)

/- THE SECOND FORM. 'bulk': how many values and letters a reading holds, each counted each time it is reached (what is shared counts as often as it is met; a slice's spare places count too). A statement '..UptoSaid' is the law's where the arguments, and the package variables that the reading takes, are together of bulk at most 1048576: NARROWER than '..Said'. Prove '..Said' where nothing that the law and all that it calls make is longer than what came in: it says more and counts as full. Else prove '..UptoSaid'. A law counts once. -/
mutual
def uptoBulk {H : Type} : DataW H → Nat
  | .lit (.string bytes) => bytes.length + 1
  | .lit _ => 1
  | .nil => 1
  | .ptr d => uptoBulk d + 1
  | .slice elems spare => uptoBulkAll elems + uptoBulkAll spare + 1
  | .agg parts => uptoBulkAll parts + 1
  | .iface _ d => uptoBulk d + 1
  | .map entries => uptoBulkEntries entries + 1
  | .held _ => 1
def uptoBulkAll {H : Type} : List (DataW H) → Nat
  | [] => 0
  | d :: r => uptoBulk d + uptoBulkAll r
def uptoBulkEntries {H : Type} : List (Lit × DataW H) → Nat
  | [] => 0
  | x :: r => uptoBulkEntry x + uptoBulkEntries r
def uptoBulkEntry {H : Type} : Lit × DataW H → Nat
  | (.string bytes, d) => bytes.length + uptoBulk d + 1
  | (_, d) => uptoBulk d + 1
 end
def uptoSmall : (H : Type) → List (DataW H) → Bool := fun _ ds => decide (uptoBulkAll ds ≤ 1048576)
def OpenSpec.upto (s : _root_.Go.ChangeSpec) : _root_.Go.OpenSpec := { _root_.Go.OpenSpec.ofChange s with cond := some uptoSmall }

/-- 'laws.FnExactRackBoundary', WHERE WHAT IT READS IS OF BULK AT MOST 1048576: true; the input reads as it did. -/
def fnExactRackBoundaryUptoRow : OpenClaim := { program := "ytaipacgkkjkjdaa", sum := "d9056f29007667a22e585cb627fceb0cb0cd5f9b9fbedf3886c75c075d6f210a", func := "loop.example/g01119/laws.FnExactRackBoundary", spec := "fnExactRackBoundary", unfollowed := true, recurses := true, apart := false, narrowed := true }
def FnExactRackBoundaryUptoSaid : Prop := fnExactRackBoundaryUptoRow.holds Try.pinned (OpenSpec.upto fnExactRackBoundarySpec)

/-- 'laws.FnExactQuandleBoundary', WHERE WHAT IT READS IS OF BULK AT MOST 1048576: true; the input reads as it did. -/
def fnExactQuandleBoundaryUptoRow : OpenClaim := { program := "ytaipacgkkjkjdaa", sum := "d9056f29007667a22e585cb627fceb0cb0cd5f9b9fbedf3886c75c075d6f210a", func := "loop.example/g01119/laws.FnExactQuandleBoundary", spec := "fnExactQuandleBoundary", unfollowed := true, recurses := true, apart := false, narrowed := true }
def FnExactQuandleBoundaryUptoSaid : Prop := fnExactQuandleBoundaryUptoRow.holds Try.pinned (OpenSpec.upto fnExactQuandleBoundarySpec)

/-- 'laws.FnExactLevelOfBrace', WHERE WHAT IT READS IS OF BULK AT MOST 1048576: true; the input reads as it did. -/
def fnExactLevelOfBraceUptoRow : OpenClaim := { program := "ytaipacgkkjkjdaa", sum := "d9056f29007667a22e585cb627fceb0cb0cd5f9b9fbedf3886c75c075d6f210a", func := "loop.example/g01119/laws.FnExactLevelOfBrace", spec := "fnExactLevelOfBrace", unfollowed := true, recurses := true, apart := false, narrowed := true }
def FnExactLevelOfBraceUptoSaid : Prop := fnExactLevelOfBraceUptoRow.holds Try.pinned (OpenSpec.upto fnExactLevelOfBraceSpec)

/-- 'laws.FnExactIdealsOf', WHERE WHAT IT READS IS OF BULK AT MOST 1048576: true; the input reads as it did. -/
def fnExactIdealsOfUptoRow : OpenClaim := { program := "ytaipacgkkjkjdaa", sum := "d9056f29007667a22e585cb627fceb0cb0cd5f9b9fbedf3886c75c075d6f210a", func := "loop.example/g01119/laws.FnExactIdealsOf", spec := "fnExactIdealsOf", unfollowed := true, recurses := true, apart := false, narrowed := true }
def FnExactIdealsOfUptoSaid : Prop := fnExactIdealsOfUptoRow.holds Try.pinned (OpenSpec.upto fnExactIdealsOfSpec)

/-- 'laws.FnExactStarIdeal', WHERE WHAT IT READS IS OF BULK AT MOST 1048576: true; the input reads as it did. -/
def fnExactStarIdealUptoRow : OpenClaim := { program := "ytaipacgkkjkjdaa", sum := "d9056f29007667a22e585cb627fceb0cb0cd5f9b9fbedf3886c75c075d6f210a", func := "loop.example/g01119/laws.FnExactStarIdeal", spec := "fnExactStarIdeal", unfollowed := true, recurses := true, apart := false, narrowed := true }
def FnExactStarIdealUptoSaid : Prop := fnExactStarIdealUptoRow.holds Try.pinned (OpenSpec.upto fnExactStarIdealSpec)

/-- 'laws.FnExactQuotientBrace', WHERE WHAT IT READS IS OF BULK AT MOST 1048576: true; the input reads as it did. -/
def fnExactQuotientBraceUptoRow : OpenClaim := { program := "ytaipacgkkjkjdaa", sum := "d9056f29007667a22e585cb627fceb0cb0cd5f9b9fbedf3886c75c075d6f210a", func := "loop.example/g01119/laws.FnExactQuotientBrace", spec := "fnExactQuotientBrace", unfollowed := true, recurses := true, apart := false, narrowed := true }
def FnExactQuotientBraceUptoSaid : Prop := fnExactQuotientBraceUptoRow.holds Try.pinned (OpenSpec.upto fnExactQuotientBraceSpec)

end Rows
end Go.Proofs.Ytaipacgkkjkjdaa
