/- Cmp -/
import Derived.Test.YtcdmndagoafcgaaTable
open Go Go.Proofs
namespace Go.Sx
set_option linter.unusedSimpArgs false
set_option linter.unusedVariables false

def cmpI (x y : Int) : Int := if x < y then -1 else if y < x then 1 else 0

theorem cmpI_zero {x y : Int} : cmpI x y = 0 ↔ x = y := by
  unfold cmpI
  split
  · omega
  · split <;> omega

def cmpG {α : Type} (c : α → α → Int) : List α → List α → Int
  | [], [] => 0
  | [], _ :: _ => -1
  | _ :: _, [] => 1
  | x :: a, y :: b => if c x y = 0 then cmpG c a b else c x y

theorem cmpG_zero {α : Type} {c : α → α → Int} (hc : ∀ x y, c x y = 0 ↔ x = y) : ∀ {a b : List α}, cmpG c a b = 0 ↔ a = b
  | [], [] => by simp [cmpG]
  | [], _ :: _ => by simp [cmpG]
  | _ :: _, [] => by simp [cmpG]
  | x :: a, y :: b => by
    simp only [cmpG, List.cons.injEq]
    by_cases h : c x y = 0
    · rw [if_pos h, cmpG_zero hc]
      simp [(hc x y).1 h]
    · rw [if_neg h]
      exact ⟨fun e => absurd e h, fun e => absurd ((hc x y).2 e.1) h⟩

theorem cmpG_step {α : Type} (c : α → α → Int) (d : α) (a b : List α) (i : Nat) (ha : i < a.length) (hb : i < b.length) :
    cmpG c (a.drop i) (b.drop i) = if c (a.getD i d) (b.getD i d) = 0 then cmpG c (a.drop (i + 1)) (b.drop (i + 1)) else c (a.getD i d) (b.getD i d) := by
  rw [drop_cons' a d i ha, drop_cons' b d i hb]; rfl

theorem cmpG_short {α : Type} (c : α → α → Int) (d : α) (a b : List α) (i : Nat) (ha : i < a.length) (hb : b.length ≤ i) : cmpG c (a.drop i) (b.drop i) = 1 := by
  rw [drop_cons' a d i ha, List.drop_of_length_le hb]; rfl

theorem cmpG_end {α : Type} (c : α → α → Int) (d : α) (a b : List α) (i : Nat) (ha : a.length ≤ i) : cmpG c (a.drop i) (b.drop i) = if i < b.length then -1 else 0 := by
  rw [List.drop_of_length_le ha]
  split
  · rename_i h; rw [drop_cons' b d i h]; rfl
  · rw [List.drop_of_length_le (by omega)]; rfl


















end Go.Sx
