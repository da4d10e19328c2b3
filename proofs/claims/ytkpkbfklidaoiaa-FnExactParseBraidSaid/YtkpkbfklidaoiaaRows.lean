/-
  No cell of these rows narrows 'for every input' (looked for: loops, veiled, ifaces, maps, wideKeys, modest, calm, conditions, laid).
  DERIVED. THE GIVEN ROWS OF THIS SEAT. 5 by the template 'for every input the law returns true; each argument reads behind the call as it read before'; 0 by the template 'total and deterministic' (their statements: YtkpkbfklidaoiaaTotals.lean).
  GIVEN WITH THE SEED: the statements are not yours to turn. If you find one false, say at which input.
  Laid BY PROGRAM, IN A SANDBOX (cutbox-rows.mjs): the forced cells as the released guide's own fill.sh prints them over the translation 37ecb1de08130264… (all of the seat's roots in one cut). By AI agents, Wed Nov 11 2026. No macro, syntax, notation, axiom, sorry.
-/
import Derived.Test.YtkpkbfklidaoiaaChecked
import GoSem.Claim
import GoSem.ClaimJoined
import GoSem.ClaimMapViews
import Derived.JoinedTies
import Derived.KernelRfl
namespace Go.Proofs.Ytkpkbfklidaoiaa
/- THE CELL 'sum', in the pinned program and in every row, IS THE sha256 OF THE DUMP (.gsa) THAT YtkpkbfklidaoiaaProg.lean LOADS. Nothing in Lean hashes anything: it is a label: what it is worth is what the hold of that sum in a sandbox is worth. -/
noncomputable def Try.pinned : Pinned := { name := "ytkpkbfklidaoiaa", sum := "37ecb1de08130264b9d855ebc1e5fc9a3dfefcba1cc0e2f0e0e06ec33c9c8967", checked := Try.checked }
namespace Rows
def none {H : Type} : Left H := { results := [], args := [] }

/-- 'laws.FnExactParseBraid': WHATEVER THE INPUT: true; the input reads as it did. -/
def fnExactParseBraidSpec : ChangeSpec := { name := "fnExactParseBraid", fn := fun _ => fun
  | [d] => { results := [.lit (.bool true)], args := [d] }
  | _ => none }
def fnExactParseBraidRow : OpenClaim := { program := "ytkpkbfklidaoiaa", sum := "37ecb1de08130264b9d855ebc1e5fc9a3dfefcba1cc0e2f0e0e06ec33c9c8967", func := "loop.example/g01119/laws.FnExactParseBraid", spec := "fnExactParseBraid", unfollowed := true, recurses := true, apart := false }
def FnExactParseBraidSaid : Prop := fnExactParseBraidRow.holds Try.pinned (OpenSpec.ofChange fnExactParseBraidSpec)

/-- ITS FALSE NEIGHBOUR: 'it returns false'. Refute it at one input. -/
def fnExactParseBraidWrong : ChangeSpec := { name := "fnExactParseBraid", fn := fun _ => fun
  | [d] => { results := [.lit (.bool false)], args := [d] }
  | _ => none }
def FnExactParseBraidWrongFalsely : Prop := fnExactParseBraidRow.holds Try.pinned (OpenSpec.ofChange fnExactParseBraidWrong)

/-- 'laws.FnExactBoundaryRank': WHATEVER THE INPUT: true; the input reads as it did. -/
def fnExactBoundaryRankSpec : ChangeSpec := { name := "fnExactBoundaryRank", fn := fun _ => fun
  | [d1, d2, d3] => { results := [.lit (.bool true)], args := [d1, d2, d3] }
  | _ => none }
def fnExactBoundaryRankRow : OpenClaim := { program := "ytkpkbfklidaoiaa", sum := "37ecb1de08130264b9d855ebc1e5fc9a3dfefcba1cc0e2f0e0e06ec33c9c8967", func := "loop.example/g01119/laws.FnExactBoundaryRank", spec := "fnExactBoundaryRank", unfollowed := true, recurses := true, apart := false }
def FnExactBoundaryRankSaid : Prop := fnExactBoundaryRankRow.holds Try.pinned (OpenSpec.ofChange fnExactBoundaryRankSpec)

/-- ITS FALSE NEIGHBOUR: 'it returns false'. Refute it at one input. -/
def fnExactBoundaryRankWrong : ChangeSpec := { name := "fnExactBoundaryRank", fn := fun _ => fun
  | [d1, d2, d3] => { results := [.lit (.bool false)], args := [d1, d2, d3] }
  | _ => none }
def FnExactBoundaryRankWrongFalsely : Prop := fnExactBoundaryRankRow.holds Try.pinned (OpenSpec.ofChange fnExactBoundaryRankWrong)

/-- 'laws.FnExactRackBetti': WHATEVER THE INPUT: true; the input reads as it did. -/
def fnExactRackBettiSpec : ChangeSpec := { name := "fnExactRackBetti", fn := fun _ => fun
  | [d1, d2, d3] => { results := [.lit (.bool true)], args := [d1, d2, d3] }
  | _ => none }
def fnExactRackBettiRow : OpenClaim := { program := "ytkpkbfklidaoiaa", sum := "37ecb1de08130264b9d855ebc1e5fc9a3dfefcba1cc0e2f0e0e06ec33c9c8967", func := "loop.example/g01119/laws.FnExactRackBetti", spec := "fnExactRackBetti", unfollowed := true, recurses := true, apart := false }
def FnExactRackBettiSaid : Prop := fnExactRackBettiRow.holds Try.pinned (OpenSpec.ofChange fnExactRackBettiSpec)

/-- ITS FALSE NEIGHBOUR: 'it returns false'. Refute it at one input. -/
def fnExactRackBettiWrong : ChangeSpec := { name := "fnExactRackBetti", fn := fun _ => fun
  | [d1, d2, d3] => { results := [.lit (.bool false)], args := [d1, d2, d3] }
  | _ => none }
def FnExactRackBettiWrongFalsely : Prop := fnExactRackBettiRow.holds Try.pinned (OpenSpec.ofChange fnExactRackBettiWrong)

/-- 'laws.FnExactQuandleBetti': WHATEVER THE INPUT: true; the input reads as it did. -/
def fnExactQuandleBettiSpec : ChangeSpec := { name := "fnExactQuandleBetti", fn := fun _ => fun
  | [d1, d2, d3] => { results := [.lit (.bool true)], args := [d1, d2, d3] }
  | _ => none }
def fnExactQuandleBettiRow : OpenClaim := { program := "ytkpkbfklidaoiaa", sum := "37ecb1de08130264b9d855ebc1e5fc9a3dfefcba1cc0e2f0e0e06ec33c9c8967", func := "loop.example/g01119/laws.FnExactQuandleBetti", spec := "fnExactQuandleBetti", unfollowed := true, recurses := true, apart := false }
def FnExactQuandleBettiSaid : Prop := fnExactQuandleBettiRow.holds Try.pinned (OpenSpec.ofChange fnExactQuandleBettiSpec)

/-- ITS FALSE NEIGHBOUR: 'it returns false'. Refute it at one input. -/
def fnExactQuandleBettiWrong : ChangeSpec := { name := "fnExactQuandleBetti", fn := fun _ => fun
  | [d1, d2, d3] => { results := [.lit (.bool false)], args := [d1, d2, d3] }
  | _ => none }
def FnExactQuandleBettiWrongFalsely : Prop := fnExactQuandleBettiRow.holds Try.pinned (OpenSpec.ofChange fnExactQuandleBettiWrong)

/-- 'laws.FnExactFillingOf': WHATEVER THE INPUT: true; the input reads as it did. -/
def fnExactFillingOfSpec : ChangeSpec := { name := "fnExactFillingOf", fn := fun _ => fun
  | [d1, d2, d3, d4] => { results := [.lit (.bool true)], args := [d1, d2, d3, d4] }
  | _ => none }
def fnExactFillingOfRow : OpenClaim := { program := "ytkpkbfklidaoiaa", sum := "37ecb1de08130264b9d855ebc1e5fc9a3dfefcba1cc0e2f0e0e06ec33c9c8967", func := "loop.example/g01119/laws.FnExactFillingOf", spec := "fnExactFillingOf", unfollowed := true, recurses := true, apart := false }
def FnExactFillingOfSaid : Prop := fnExactFillingOfRow.holds Try.pinned (OpenSpec.ofChange fnExactFillingOfSpec)

/-- ITS FALSE NEIGHBOUR: 'it returns false'. Refute it at one input. -/
def fnExactFillingOfWrong : ChangeSpec := { name := "fnExactFillingOf", fn := fun _ => fun
  | [d1, d2, d3, d4] => { results := [.lit (.bool false)], args := [d1, d2, d3, d4] }
  | _ => none }
def FnExactFillingOfWrongFalsely : Prop := fnExactFillingOfRow.holds Try.pinned (OpenSpec.ofChange fnExactFillingOfWrong)

/- THE SECOND FORM. 'bulk': how many values and letters a reading holds, each counted each time it is reached (what is shared counts as often as it is met; a slice's spare places count too). A statement '..UptoSaid' is the law's where the arguments, and the package variables that the reading takes, are together of bulk at most 1048576: NARROWER than '..Said'. Prove '..Said' where nothing that the law and all that it calls make is longer than what came in: it says more and counts as full. Else prove '..UptoSaid'. A law counts once. -/
mutual
def uptoBulk {H : Type} : DataW H → Nat
  | .lit (.string bytes) => bytes.length + 1
  | .lit _ => 1
  | .nil => 1
  | .ptr d => uptoBulk d + 1
  | .slice elems spare => uptoBulkAll elems + uptoBulkAll spare + 1
  | .agg parts => uptoBulkAll parts + 1
  | .iface _ d => uptoBulk d + 1
  | .map entries => uptoBulkEntries entries + 1
  | .held _ => 1
def uptoBulkAll {H : Type} : List (DataW H) → Nat
  | [] => 0
  | d :: r => uptoBulk d + uptoBulkAll r
def uptoBulkEntries {H : Type} : List (Lit × DataW H) → Nat
  | [] => 0
  | x :: r => uptoBulkEntry x + uptoBulkEntries r
def uptoBulkEntry {H : Type} : Lit × DataW H → Nat
  | (.string bytes, d) => bytes.length + uptoBulk d + 1
  | (_, d) => uptoBulk d + 1
 end
def uptoSmall : (H : Type) → List (DataW H) → Bool := fun _ ds => decide (uptoBulkAll ds ≤ 1048576)
def OpenSpec.upto (s : _root_.Go.ChangeSpec) : _root_.Go.OpenSpec := { _root_.Go.OpenSpec.ofChange s with cond := some uptoSmall }

/-- 'laws.FnExactParseBraid', WHERE WHAT IT READS IS OF BULK AT MOST 1048576: true; the input reads as it did. -/
def fnExactParseBraidUptoRow : OpenClaim := { program := "ytkpkbfklidaoiaa", sum := "37ecb1de08130264b9d855ebc1e5fc9a3dfefcba1cc0e2f0e0e06ec33c9c8967", func := "loop.example/g01119/laws.FnExactParseBraid", spec := "fnExactParseBraid", unfollowed := true, recurses := true, apart := false, narrowed := true }
def FnExactParseBraidUptoSaid : Prop := fnExactParseBraidUptoRow.holds Try.pinned (OpenSpec.upto fnExactParseBraidSpec)

/-- 'laws.FnExactBoundaryRank', WHERE WHAT IT READS IS OF BULK AT MOST 1048576: true; the input reads as it did. -/
def fnExactBoundaryRankUptoRow : OpenClaim := { program := "ytkpkbfklidaoiaa", sum := "37ecb1de08130264b9d855ebc1e5fc9a3dfefcba1cc0e2f0e0e06ec33c9c8967", func := "loop.example/g01119/laws.FnExactBoundaryRank", spec := "fnExactBoundaryRank", unfollowed := true, recurses := true, apart := false, narrowed := true }
def FnExactBoundaryRankUptoSaid : Prop := fnExactBoundaryRankUptoRow.holds Try.pinned (OpenSpec.upto fnExactBoundaryRankSpec)

/-- 'laws.FnExactRackBetti', WHERE WHAT IT READS IS OF BULK AT MOST 1048576: true; the input reads as it did. -/
def fnExactRackBettiUptoRow : OpenClaim := { program := "ytkpkbfklidaoiaa", sum := "37ecb1de08130264b9d855ebc1e5fc9a3dfefcba1cc0e2f0e0e06ec33c9c8967", func := "loop.example/g01119/laws.FnExactRackBetti", spec := "fnExactRackBetti", unfollowed := true, recurses := true, apart := false, narrowed := true }
def FnExactRackBettiUptoSaid : Prop := fnExactRackBettiUptoRow.holds Try.pinned (OpenSpec.upto fnExactRackBettiSpec)

/-- 'laws.FnExactQuandleBetti', WHERE WHAT IT READS IS OF BULK AT MOST 1048576: true; the input reads as it did. -/
def fnExactQuandleBettiUptoRow : OpenClaim := { program := "ytkpkbfklidaoiaa", sum := "37ecb1de08130264b9d855ebc1e5fc9a3dfefcba1cc0e2f0e0e06ec33c9c8967", func := "loop.example/g01119/laws.FnExactQuandleBetti", spec := "fnExactQuandleBetti", unfollowed := true, recurses := true, apart := false, narrowed := true }
def FnExactQuandleBettiUptoSaid : Prop := fnExactQuandleBettiUptoRow.holds Try.pinned (OpenSpec.upto fnExactQuandleBettiSpec)

/-- 'laws.FnExactFillingOf', WHERE WHAT IT READS IS OF BULK AT MOST 1048576: true; the input reads as it did. -/
def fnExactFillingOfUptoRow : OpenClaim := { program := "ytkpkbfklidaoiaa", sum := "37ecb1de08130264b9d855ebc1e5fc9a3dfefcba1cc0e2f0e0e06ec33c9c8967", func := "loop.example/g01119/laws.FnExactFillingOf", spec := "fnExactFillingOf", unfollowed := true, recurses := true, apart := false, narrowed := true }
def FnExactFillingOfUptoSaid : Prop := fnExactFillingOfUptoRow.holds Try.pinned (OpenSpec.upto fnExactFillingOfSpec)

end Rows
end Go.Proofs.Ytkpkbfklidaoiaa
