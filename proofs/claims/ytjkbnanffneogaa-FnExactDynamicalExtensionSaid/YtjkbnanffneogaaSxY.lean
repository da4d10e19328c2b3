/- A function's contract, by its code as it lies. -/
import Derived.Test.YtjkbnanffneogaaSxX
namespace Go.Sx
open Go.RowKit

def bodyOf (fn : Func) : Code :=
  match fn.body with
  | some c => c
  | none => .skip

theorem fits_fn {P : Program} {Γ : FuncId → Option Ctr} (hΓ : GOk P Γ) {f : FuncId} {fn : Func} {mt : List (Nat × Nat)} {ct : List AD → Option Post}
    (hf : P.funcs[f]? = some fn) (hb : fn.body.isSome = true) (hname : (fn.name == "runtime.NumGoroutine") = false) (hpid : nodupB (pids mt) = true)
    (h : ∀ ds p, ct ds = some p → p.pre → ∃ wr ann, runF P Γ wr ann fn (bodyOf fn) mt ds p) : Fits P f ⟨mt, ct⟩ := by
  cases hc : fn.body with
  | none => rw [hc] at hb; cases hb
  | some c =>
    refine fits_of_run hΓ hf hc hname hpid fun ds p h1 h2 => ?_
    have := h ds p h1 h2
    unfold bodyOf at this
    rw [hc] at this
    exact this

/-- A contract whose premise never holds. -/
theorem fits_no {P : Program} {f : FuncId} {mt : List (Nat × Nat)} {ct : List AD → Option Post} (hf : ∃ fn, P.funcs[f]? = some fn ∧ fn.body.isSome = true ∧ (fn.name == "runtime.NumGoroutine") = false)
    (hpid : nodupB (pids mt) = true) (h : ∀ ds p, ct ds = some p → p.pre → False) : Fits P f ⟨mt, ct⟩ := by
  refine ⟨hf, fun w wF vs ds p ms obs hct hpre => (h ds p hct hpre).elim, fun hm => ?_, fun hm => ?_, fun hm => ?_, fun hm => ?_⟩
  all_goals
    have hm : mt = _ := hm
    rw [hm] at hpid; exact absurd hpid (by decide)

def gam (l : List (Nat × Ctr)) (f : FuncId) : Option Ctr := lk l f

theorem gok_nil {P : Program} : GOk P (gam []) := fun f c h => by cases h

theorem gok_cons {P : Program} {f : Nat} {c : Ctr} {l : List (Nat × Ctr)} (h : Fits P f c) (hl : GOk P (gam l)) : GOk P (gam ((f, c) :: l)) := fun g d hg => by
  unfold gam at hg
  rw [lk_cons] at hg
  split at hg
  · rename_i he
    cases hg
    subst he
    exact h
  · exact hl g d hg

def noWr (_ : Nat) : Bool := false
def noAnn (_ : Nat) : Option Ann := none

end Go.Sx
