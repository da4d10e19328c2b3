/- Join -/
import Derived.Test.YtcdmndagoafcgaaRows
import Derived.JoinedOf
import Derived.KernelRfl
namespace Go.Proofs.Ytcdmndagoafcgaa
theorem band {x y : Bool} (h : x = true) (k : y = true) : (x && y) = true := by rw [h, k]; rfl
set_option maxRecDepth 10000000 in
def joinSigns : { l : List Char // Try.prog.initOrder = String.ofList l } := ⟨_, rfl⟩
theorem joinList : Try.prog.initOrder.toList = joinSigns.1 := (congrArg String.toList joinSigns.2).trans String.toList_ofList
theorem joinCut : ∃ rest, behindMainWord (wordsSigns Try.prog.initOrder.toList) = ['c','u','t'] :: rest := by
  rw [joinList]
  have h : (behindMainWord (wordsSigns joinSigns.1)).head? = some ['c','u','t'] := by kernel_rfl
  cases hb : behindMainWord (wordsSigns joinSigns.1) with
  | nil => rw [hb] at h; cases h
  | cons x y => rw [hb] at h; cases h; exact ⟨y, rfl⟩
theorem joinStrip (rest : List (List Char)) : stripLifts liftWords (['c','u','t'] :: rest) = ([], ['c','u','t'] :: rest) := by rfl
theorem joinHead : Try.prog.headLifts = [] := by
  obtain ⟨rest, h⟩ := joinCut
  unfold Program.headLifts
  rw [h, joinStrip]
  rfl
theorem joinLater : Try.prog.laysLater = false := by kernel_rfl
theorem joinReflect : Try.prog.bearsReflect = false := by kernel_rfl
theorem joinRows : Try.prog.doorRows = [] := by kernel_rfl
theorem joinDoor : Try.prog.doorFits [] = true := by
  unfold Program.doorFits
  rw [joinRows]
  rfl
theorem mayOf (P : Program) (rest : List (List Char)) (h : behindMainWord (wordsSigns P.initOrder.toList) = ['c','u','t'] :: rest) (h1 : P.laysLater = false) (h2 : P.bearsReflect = false) (h3 : P.doorFits [] = true) : P.mayEnter = true := by
  unfold Program.mayEnter
  rw [h]
  simp only [joinStrip, h1, h2, h3]
  simp
theorem finalOf (P : Program) (rest : List (List Char)) (h : behindMainWord (wordsSigns P.initOrder.toList) = ['c','u','t'] :: rest) (h1 : P.headLifts = []) : (false == P.liftsFinal) = true := by
  unfold Program.liftsFinal
  rw [h, h1]
  rfl
theorem makeOf (P : Program) (rest : List (List Char)) (h : behindMainWord (wordsSigns P.initOrder.toList) = ['c','u','t'] :: rest) : (P.make == some Make.cut) = true := by
  have e1 : (['c','u','t'] == "gc".toList) = false := rfl
  have e2 : (['c','u','t'] == "spec".toList) = false := rfl
  have e3 : (['c','u','t'] == "cut".toList) = true := rfl
  unfold Program.make
  rw [h]
  simp only [e1, e2, e3, Bool.or_false, Bool.true_or, Bool.false_eq_true, if_true, if_false]
  rfl
theorem joinMay : Try.prog.mayEnter = true := by
  obtain ⟨rest, h⟩ := joinCut
  exact mayOf _ rest h joinLater joinReflect joinDoor
theorem joinFinal : (false == Try.prog.liftsFinal) = true := by
  obtain ⟨rest, h⟩ := joinCut
  exact finalOf _ rest h joinHead
theorem joinMake : (Try.prog.make == some Make.cut) = true := by
  obtain ⟨rest, h⟩ := joinCut
  exact makeOf _ rest h
end Go.Proofs.Ytcdmndagoafcgaa
