/-
  No cell of these rows narrows 'for every input' (looked for: loops, veiled, ifaces, maps, wideKeys, modest, calm, conditions, laid).
  DERIVED. THE GIVEN ROWS OF THIS SEAT. 2 by the template 'for every input the law returns true; each argument reads behind the call as it read before'; 0 by the template 'total and deterministic' (their statements: YtkmldclpaniclaaTotals.lean).
  GIVEN WITH THE SEED: the statements are not yours to turn. If you find one false, say at which input.
  Laid BY PROGRAM, IN A SANDBOX (cutbox-rows.mjs): the forced cells as the released guide's own fill.sh prints them over the translation 0801713379c811ae… (all of the seat's roots in one cut). By AI agents, Wed Nov 11 2026. No macro, syntax, notation, axiom, sorry.
-/
import Derived.Test.YtkmldclpaniclaaChecked
import GoSem.Claim
import GoSem.ClaimJoined
import GoSem.ClaimMapViews
import Derived.JoinedTies
import Derived.KernelRfl
namespace Go.Proofs.Ytkmldclpaniclaa
/- THE CELL 'sum', in the pinned program and in every row, IS THE sha256 OF THE DUMP (.gsa) THAT YtkmldclpaniclaaProg.lean LOADS. Nothing in Lean hashes anything: it is a label: what it is worth is what the hold of that sum in a sandbox is worth. -/
noncomputable def Try.pinned : Pinned := { name := "ytkmldclpaniclaa", sum := "0801713379c811ae996ffbd19353d05218557e8bf7a4d546507dbf25083048a3", checked := Try.checked }
namespace Rows
def none {H : Type} : Left H := { results := [], args := [] }

/-- 'laws.FnExactHolomorphOf': WHATEVER THE INPUT: true; the input reads as it did. -/
def fnExactHolomorphOfSpec : ChangeSpec := { name := "fnExactHolomorphOf", fn := fun _ => fun
  | [d] => { results := [.lit (.bool true)], args := [d] }
  | _ => none }
def fnExactHolomorphOfRow : OpenClaim := { program := "ytkmldclpaniclaa", sum := "0801713379c811ae996ffbd19353d05218557e8bf7a4d546507dbf25083048a3", func := "loop.example/g01119/laws.FnExactHolomorphOf", spec := "fnExactHolomorphOf", unfollowed := true, recurses := true, apart := false }
def FnExactHolomorphOfSaid : Prop := fnExactHolomorphOfRow.holds Try.pinned (OpenSpec.ofChange fnExactHolomorphOfSpec)

/-- ITS FALSE NEIGHBOUR: 'it returns false'. Refute it at one input. -/
def fnExactHolomorphOfWrong : ChangeSpec := { name := "fnExactHolomorphOf", fn := fun _ => fun
  | [d] => { results := [.lit (.bool false)], args := [d] }
  | _ => none }
def FnExactHolomorphOfWrongFalsely : Prop := fnExactHolomorphOfRow.holds Try.pinned (OpenSpec.ofChange fnExactHolomorphOfWrong)

/-- 'laws.FnExactCirclesOf': WHATEVER THE INPUT: true; the input reads as it did. -/
def fnExactCirclesOfSpec : ChangeSpec := { name := "fnExactCirclesOf", fn := fun _ => fun
  | [d] => { results := [.lit (.bool true)], args := [d] }
  | _ => none }
def fnExactCirclesOfRow : OpenClaim := { program := "ytkmldclpaniclaa", sum := "0801713379c811ae996ffbd19353d05218557e8bf7a4d546507dbf25083048a3", func := "loop.example/g01119/laws.FnExactCirclesOf", spec := "fnExactCirclesOf", unfollowed := true, recurses := true, apart := false }
def FnExactCirclesOfSaid : Prop := fnExactCirclesOfRow.holds Try.pinned (OpenSpec.ofChange fnExactCirclesOfSpec)

/-- ITS FALSE NEIGHBOUR: 'it returns false'. Refute it at one input. -/
def fnExactCirclesOfWrong : ChangeSpec := { name := "fnExactCirclesOf", fn := fun _ => fun
  | [d] => { results := [.lit (.bool false)], args := [d] }
  | _ => none }
def FnExactCirclesOfWrongFalsely : Prop := fnExactCirclesOfRow.holds Try.pinned (OpenSpec.ofChange fnExactCirclesOfWrong)

/- THE SECOND FORM. 'bulk': how many values and letters a reading holds, each counted each time it is reached (what is shared counts as often as it is met; a slice's spare places count too). A statement '..UptoSaid' is the law's where the arguments, and the package variables that the reading takes, are together of bulk at most 1048576: NARROWER than '..Said'. Prove '..Said' where nothing that the law and all that it calls make is longer than what came in: it says more and counts as full. Else prove '..UptoSaid'. A law counts once. -/
mutual
def uptoBulk {H : Type} : DataW H → Nat
  | .lit (.string bytes) => bytes.length + 1
  | .lit _ => 1
  | .nil => 1
  | .ptr d => uptoBulk d + 1
  | .slice elems spare => uptoBulkAll elems + uptoBulkAll spare + 1
  | .agg parts => uptoBulkAll parts + 1
  | .iface _ d => uptoBulk d + 1
  | .map entries => uptoBulkEntries entries + 1
  | .held _ => 1
def uptoBulkAll {H : Type} : List (DataW H) → Nat
  | [] => 0
  | d :: r => uptoBulk d + uptoBulkAll r
def uptoBulkEntries {H : Type} : List (Lit × DataW H) → Nat
  | [] => 0
  | x :: r => uptoBulkEntry x + uptoBulkEntries r
def uptoBulkEntry {H : Type} : Lit × DataW H → Nat
  | (.string bytes, d) => bytes.length + uptoBulk d + 1
  | (_, d) => uptoBulk d + 1
 end
def uptoSmall : (H : Type) → List (DataW H) → Bool := fun _ ds => decide (uptoBulkAll ds ≤ 1048576)
def OpenSpec.upto (s : _root_.Go.ChangeSpec) : _root_.Go.OpenSpec := { _root_.Go.OpenSpec.ofChange s with cond := some uptoSmall }

/-- 'laws.FnExactHolomorphOf', WHERE WHAT IT READS IS OF BULK AT MOST 1048576: true; the input reads as it did. -/
def fnExactHolomorphOfUptoRow : OpenClaim := { program := "ytkmldclpaniclaa", sum := "0801713379c811ae996ffbd19353d05218557e8bf7a4d546507dbf25083048a3", func := "loop.example/g01119/laws.FnExactHolomorphOf", spec := "fnExactHolomorphOf", unfollowed := true, recurses := true, apart := false, narrowed := true }
def FnExactHolomorphOfUptoSaid : Prop := fnExactHolomorphOfUptoRow.holds Try.pinned (OpenSpec.upto fnExactHolomorphOfSpec)

/-- 'laws.FnExactCirclesOf', WHERE WHAT IT READS IS OF BULK AT MOST 1048576: true; the input reads as it did. -/
def fnExactCirclesOfUptoRow : OpenClaim := { program := "ytkmldclpaniclaa", sum := "0801713379c811ae996ffbd19353d05218557e8bf7a4d546507dbf25083048a3", func := "loop.example/g01119/laws.FnExactCirclesOf", spec := "fnExactCirclesOf", unfollowed := true, recurses := true, apart := false, narrowed := true }
def FnExactCirclesOfUptoSaid : Prop := fnExactCirclesOfUptoRow.holds Try.pinned (OpenSpec.upto fnExactCirclesOfSpec)

end Rows
end Go.Proofs.Ytkmldclpaniclaa
