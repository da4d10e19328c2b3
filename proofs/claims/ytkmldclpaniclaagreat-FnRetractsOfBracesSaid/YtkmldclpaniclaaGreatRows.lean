/-
  No cell of these rows narrows 'for every input' (looked for: loops, veiled, ifaces, maps, wideKeys, modest, calm, conditions, laid).
  DERIVED. THE GIVEN ROWS OF THIS SEAT. 6 by the template 'for every input the law returns true; each argument reads behind the call as it read before'; 0 by the template 'total and deterministic' (their statements: YtkmldclpaniclaaGreatTotals.lean).
  GIVEN WITH THE SEED: the statements are not yours to turn. If you find one false, say at which input.
  Laid BY PROGRAM, IN A SANDBOX (cutbox-rows.mjs): the forced cells as the released guide's own fill.sh prints them over the translation e292301de1572e14… (all of the seat's roots in one cut). By AI agents, Wed Nov 11 2026. No macro, syntax, notation, axiom, sorry.
-/
import Derived.Test.YtkmldclpaniclaaGreatChecked
import GoSem.Claim
import GoSem.ClaimJoined
import GoSem.ClaimMapViews
import Derived.JoinedTies
import Derived.KernelRfl
namespace Go.Proofs.YtkmldclpaniclaaGreat
/- THE CELL 'sum', in the pinned program and in every row, IS THE sha256 OF THE DUMP (.gsa) THAT YtkmldclpaniclaaGreatProg.lean LOADS. Nothing in Lean hashes anything: it is a label: what it is worth is what the hold of that sum in a sandbox is worth. -/
noncomputable def Tryz.pinned : Pinned := { name := "ytkmldclpaniclaagreat", sum := "e292301de1572e1423108f8267eeb60a700a0d7646d48f22ee22cfaf6b0cac4b", checked := Tryz.checked }
namespace Rows
def none {H : Type} : Left H := { results := [], args := [] }

/-- 'laws.FnExactBracesOn': WHATEVER THE INPUT: true; the input reads as it did. -/
def fnExactBracesOnSpec : ChangeSpec := { name := "fnExactBracesOn", fn := fun _ => fun
  | [d] => { results := [.lit (.bool true)], args := [d] }
  | _ => none }
def fnExactBracesOnRow : OpenClaim := { program := "ytkmldclpaniclaagreat", sum := "e292301de1572e1423108f8267eeb60a700a0d7646d48f22ee22cfaf6b0cac4b", func := "loop.example/g01119/laws.FnExactBracesOn", spec := "fnExactBracesOn", unfollowed := true, recurses := true, apart := false }
def FnExactBracesOnSaid : Prop := fnExactBracesOnRow.holds Tryz.pinned (OpenSpec.ofChange fnExactBracesOnSpec)

/-- ITS FALSE NEIGHBOUR: 'it returns false'. Refute it at one input. -/
def fnExactBracesOnWrong : ChangeSpec := { name := "fnExactBracesOn", fn := fun _ => fun
  | [d] => { results := [.lit (.bool false)], args := [d] }
  | _ => none }
def FnExactBracesOnWrongFalsely : Prop := fnExactBracesOnRow.holds Tryz.pinned (OpenSpec.ofChange fnExactBracesOnWrong)

/-- 'laws.FnRetractsOfBraces': WHATEVER THE INPUT: true; the input reads as it did. -/
def fnRetractsOfBracesSpec : ChangeSpec := { name := "fnRetractsOfBraces", fn := fun _ => fun
  | [d] => { results := [.lit (.bool true)], args := [d] }
  | _ => none }
def fnRetractsOfBracesRow : OpenClaim := { program := "ytkmldclpaniclaagreat", sum := "e292301de1572e1423108f8267eeb60a700a0d7646d48f22ee22cfaf6b0cac4b", func := "loop.example/g01119/laws.FnRetractsOfBraces", spec := "fnRetractsOfBraces", unfollowed := true, recurses := true, apart := false }
def FnRetractsOfBracesSaid : Prop := fnRetractsOfBracesRow.holds Tryz.pinned (OpenSpec.ofChange fnRetractsOfBracesSpec)

/-- ITS FALSE NEIGHBOUR: 'it returns false'. Refute it at one input. -/
def fnRetractsOfBracesWrong : ChangeSpec := { name := "fnRetractsOfBraces", fn := fun _ => fun
  | [d] => { results := [.lit (.bool false)], args := [d] }
  | _ => none }
def FnRetractsOfBracesWrongFalsely : Prop := fnRetractsOfBracesRow.holds Tryz.pinned (OpenSpec.ofChange fnRetractsOfBracesWrong)

/-- 'laws.FnExactAllBraces': WHATEVER THE INPUT: true; the input reads as it did. -/
def fnExactAllBracesSpec : ChangeSpec := { name := "fnExactAllBraces", fn := fun _ => fun
  | [d] => { results := [.lit (.bool true)], args := [d] }
  | _ => none }
def fnExactAllBracesRow : OpenClaim := { program := "ytkmldclpaniclaagreat", sum := "e292301de1572e1423108f8267eeb60a700a0d7646d48f22ee22cfaf6b0cac4b", func := "loop.example/g01119/laws.FnExactAllBraces", spec := "fnExactAllBraces", unfollowed := true, recurses := true, apart := false }
def FnExactAllBracesSaid : Prop := fnExactAllBracesRow.holds Tryz.pinned (OpenSpec.ofChange fnExactAllBracesSpec)

/-- ITS FALSE NEIGHBOUR: 'it returns false'. Refute it at one input. -/
def fnExactAllBracesWrong : ChangeSpec := { name := "fnExactAllBraces", fn := fun _ => fun
  | [d] => { results := [.lit (.bool false)], args := [d] }
  | _ => none }
def FnExactAllBracesWrongFalsely : Prop := fnExactAllBracesRow.holds Tryz.pinned (OpenSpec.ofChange fnExactAllBracesWrong)

/-- 'laws.FnExactPlaceOfBrace': WHATEVER THE INPUT: true; the input reads as it did. -/
def fnExactPlaceOfBraceSpec : ChangeSpec := { name := "fnExactPlaceOfBrace", fn := fun _ => fun
  | [d] => { results := [.lit (.bool true)], args := [d] }
  | _ => none }
def fnExactPlaceOfBraceRow : OpenClaim := { program := "ytkmldclpaniclaagreat", sum := "e292301de1572e1423108f8267eeb60a700a0d7646d48f22ee22cfaf6b0cac4b", func := "loop.example/g01119/laws.FnExactPlaceOfBrace", spec := "fnExactPlaceOfBrace", unfollowed := true, recurses := true, apart := false }
def FnExactPlaceOfBraceSaid : Prop := fnExactPlaceOfBraceRow.holds Tryz.pinned (OpenSpec.ofChange fnExactPlaceOfBraceSpec)

/-- ITS FALSE NEIGHBOUR: 'it returns false'. Refute it at one input. -/
def fnExactPlaceOfBraceWrong : ChangeSpec := { name := "fnExactPlaceOfBrace", fn := fun _ => fun
  | [d] => { results := [.lit (.bool false)], args := [d] }
  | _ => none }
def FnExactPlaceOfBraceWrongFalsely : Prop := fnExactPlaceOfBraceRow.holds Tryz.pinned (OpenSpec.ofChange fnExactPlaceOfBraceWrong)

/-- 'laws.FnBraceLists': WHATEVER THE INPUT: true; the input reads as it did. -/
def fnBraceListsSpec : ChangeSpec := { name := "fnBraceLists", fn := fun _ => fun
  | [d] => { results := [.lit (.bool true)], args := [d] }
  | _ => none }
def fnBraceListsRow : OpenClaim := { program := "ytkmldclpaniclaagreat", sum := "e292301de1572e1423108f8267eeb60a700a0d7646d48f22ee22cfaf6b0cac4b", func := "loop.example/g01119/laws.FnBraceLists", spec := "fnBraceLists", unfollowed := true, recurses := true, apart := false }
def FnBraceListsSaid : Prop := fnBraceListsRow.holds Tryz.pinned (OpenSpec.ofChange fnBraceListsSpec)

/-- ITS FALSE NEIGHBOUR: 'it returns false'. Refute it at one input. -/
def fnBraceListsWrong : ChangeSpec := { name := "fnBraceLists", fn := fun _ => fun
  | [d] => { results := [.lit (.bool false)], args := [d] }
  | _ => none }
def FnBraceListsWrongFalsely : Prop := fnBraceListsRow.holds Tryz.pinned (OpenSpec.ofChange fnBraceListsWrong)

/-- 'laws.FnCircles': WHATEVER THE INPUT: true; the input reads as it did. -/
def fnCirclesSpec : ChangeSpec := { name := "fnCircles", fn := fun _ => fun
  | [d] => { results := [.lit (.bool true)], args := [d] }
  | _ => none }
def fnCirclesRow : OpenClaim := { program := "ytkmldclpaniclaagreat", sum := "e292301de1572e1423108f8267eeb60a700a0d7646d48f22ee22cfaf6b0cac4b", func := "loop.example/g01119/laws.FnCircles", spec := "fnCircles", unfollowed := true, recurses := true, apart := false }
def FnCirclesSaid : Prop := fnCirclesRow.holds Tryz.pinned (OpenSpec.ofChange fnCirclesSpec)

/-- ITS FALSE NEIGHBOUR: 'it returns false'. Refute it at one input. -/
def fnCirclesWrong : ChangeSpec := { name := "fnCircles", fn := fun _ => fun
  | [d] => { results := [.lit (.bool false)], args := [d] }
  | _ => none }
def FnCirclesWrongFalsely : Prop := fnCirclesRow.holds Tryz.pinned (OpenSpec.ofChange fnCirclesWrong)

/- THE SECOND FORM. 'bulk': how many values and letters a reading holds, each counted each time it is reached (what is shared counts as often as it is met; a slice's spare places count too). A statement '..UptoSaid' is the law's where the arguments, and the package variables that the reading takes, are together of bulk at most 1048576: NARROWER than '..Said'. Prove '..Said' where nothing that the law and all that it calls make is longer than what came in: it says more and counts as full. Else prove '..UptoSaid'. A law counts once. -/
mutual
def uptoBulk {H : Type} : DataW H → Nat
  | .lit (.string bytes) => bytes.length + 1
  | .lit _ => 1
  | .nil => 1
  | .ptr d => uptoBulk d + 1
  | .slice elems spare => uptoBulkAll elems + uptoBulkAll spare + 1
  | .agg parts => uptoBulkAll parts + 1
  | .iface _ d => uptoBulk d + 1
  | .map entries => uptoBulkEntries entries + 1
  | .held _ => 1
def uptoBulkAll {H : Type} : List (DataW H) → Nat
  | [] => 0
  | d :: r => uptoBulk d + uptoBulkAll r
def uptoBulkEntries {H : Type} : List (Lit × DataW H) → Nat
  | [] => 0
  | x :: r => uptoBulkEntry x + uptoBulkEntries r
def uptoBulkEntry {H : Type} : Lit × DataW H → Nat
  | (.string bytes, d) => bytes.length + uptoBulk d + 1
  | (_, d) => uptoBulk d + 1
 end
def uptoSmall : (H : Type) → List (DataW H) → Bool := fun _ ds => decide (uptoBulkAll ds ≤ 1048576)
def OpenSpec.upto (s : _root_.Go.ChangeSpec) : _root_.Go.OpenSpec := { _root_.Go.OpenSpec.ofChange s with cond := some uptoSmall }

/-- 'laws.FnExactBracesOn', WHERE WHAT IT READS IS OF BULK AT MOST 1048576: true; the input reads as it did. -/
def fnExactBracesOnUptoRow : OpenClaim := { program := "ytkmldclpaniclaagreat", sum := "e292301de1572e1423108f8267eeb60a700a0d7646d48f22ee22cfaf6b0cac4b", func := "loop.example/g01119/laws.FnExactBracesOn", spec := "fnExactBracesOn", unfollowed := true, recurses := true, apart := false, narrowed := true }
def FnExactBracesOnUptoSaid : Prop := fnExactBracesOnUptoRow.holds Tryz.pinned (OpenSpec.upto fnExactBracesOnSpec)

/-- 'laws.FnRetractsOfBraces', WHERE WHAT IT READS IS OF BULK AT MOST 1048576: true; the input reads as it did. -/
def fnRetractsOfBracesUptoRow : OpenClaim := { program := "ytkmldclpaniclaagreat", sum := "e292301de1572e1423108f8267eeb60a700a0d7646d48f22ee22cfaf6b0cac4b", func := "loop.example/g01119/laws.FnRetractsOfBraces", spec := "fnRetractsOfBraces", unfollowed := true, recurses := true, apart := false, narrowed := true }
def FnRetractsOfBracesUptoSaid : Prop := fnRetractsOfBracesUptoRow.holds Tryz.pinned (OpenSpec.upto fnRetractsOfBracesSpec)

/-- 'laws.FnExactAllBraces', WHERE WHAT IT READS IS OF BULK AT MOST 1048576: true; the input reads as it did. -/
def fnExactAllBracesUptoRow : OpenClaim := { program := "ytkmldclpaniclaagreat", sum := "e292301de1572e1423108f8267eeb60a700a0d7646d48f22ee22cfaf6b0cac4b", func := "loop.example/g01119/laws.FnExactAllBraces", spec := "fnExactAllBraces", unfollowed := true, recurses := true, apart := false, narrowed := true }
def FnExactAllBracesUptoSaid : Prop := fnExactAllBracesUptoRow.holds Tryz.pinned (OpenSpec.upto fnExactAllBracesSpec)

/-- 'laws.FnExactPlaceOfBrace', WHERE WHAT IT READS IS OF BULK AT MOST 1048576: true; the input reads as it did. -/
def fnExactPlaceOfBraceUptoRow : OpenClaim := { program := "ytkmldclpaniclaagreat", sum := "e292301de1572e1423108f8267eeb60a700a0d7646d48f22ee22cfaf6b0cac4b", func := "loop.example/g01119/laws.FnExactPlaceOfBrace", spec := "fnExactPlaceOfBrace", unfollowed := true, recurses := true, apart := false, narrowed := true }
def FnExactPlaceOfBraceUptoSaid : Prop := fnExactPlaceOfBraceUptoRow.holds Tryz.pinned (OpenSpec.upto fnExactPlaceOfBraceSpec)

/-- 'laws.FnBraceLists', WHERE WHAT IT READS IS OF BULK AT MOST 1048576: true; the input reads as it did. -/
def fnBraceListsUptoRow : OpenClaim := { program := "ytkmldclpaniclaagreat", sum := "e292301de1572e1423108f8267eeb60a700a0d7646d48f22ee22cfaf6b0cac4b", func := "loop.example/g01119/laws.FnBraceLists", spec := "fnBraceLists", unfollowed := true, recurses := true, apart := false, narrowed := true }
def FnBraceListsUptoSaid : Prop := fnBraceListsUptoRow.holds Tryz.pinned (OpenSpec.upto fnBraceListsSpec)

/-- 'laws.FnCircles', WHERE WHAT IT READS IS OF BULK AT MOST 1048576: true; the input reads as it did. -/
def fnCirclesUptoRow : OpenClaim := { program := "ytkmldclpaniclaagreat", sum := "e292301de1572e1423108f8267eeb60a700a0d7646d48f22ee22cfaf6b0cac4b", func := "loop.example/g01119/laws.FnCircles", spec := "fnCircles", unfollowed := true, recurses := true, apart := false, narrowed := true }
def FnCirclesUptoSaid : Prop := fnCirclesUptoRow.holds Tryz.pinned (OpenSpec.upto fnCirclesSpec)

end Rows
end Go.Proofs.YtkmldclpaniclaaGreat
