/- Contracts on the way of IsRackCocycle. -/
import Derived.Test.YtjkbnanffneogaaRack
open Go Go.Proofs
namespace Go.Sx
set_option linter.unusedSimpArgs false
set_option linter.unusedVariables false





def rackB (t : List (List Int)) : Bool := tabB t && t.all permB && (rkF t).isNone

theorem rackB_tab {t : List (List Int)} (h : rackB t = true) : tabB t = true := by
  simp only [rackB, Bool.and_eq_true] at h
  exact h.1.1

theorem firstO_some {α : Type} {n : Nat} {q : Nat → Option α} {r : α} : ∀ {k : Nat}, firstO n q k = some r → ∃ i, q i = some r
  | 0, h => by cases h
  | k + 1, h => by
    simp only [firstO, Option.or_eq_some_iff] at h
    rcases h with h | ⟨_, h⟩
    · exact ⟨_, h⟩
    · exact firstO_some h

theorem rkF_len {t : List (List Int)} {l : List Int} (h : rkF t = some l) : l.length = 3 := by
  obtain ⟨x, h⟩ := firstO_some h
  obtain ⟨y, h⟩ := firstO_some h
  obtain ⟨z, h⟩ := firstO_some h
  unfold rkZ at h
  split at h
  · cases h
  · cases h; rfl

theorem tmod_sub {a b m : Int} (ha : 0 ≤ a) (hb : 0 ≤ b) (hm : 1 ≤ m) : a.tmod m = b.tmod m ↔ (a - b).tmod m = 0 := by
  rw [Int.tmod_eq_emod_of_nonneg ha, Int.tmod_eq_emod_of_nonneg hb, Int.emod_eq_emod_iff_emod_sub_eq_zero]
  exact ⟨fun h => Int.tmod_eq_zero_of_dvd (Int.dvd_of_emod_eq_zero h), fun h => Int.emod_eq_zero_of_dvd (Int.dvd_of_tmod_eq_zero h)⟩



def rcZ (t : List (List Int)) (m : Int) (f : List (List Int)) (x y z : Nat) : Option Unit := if (en f y z + en f x (en t y z).toNat).tmod m = (en f x z + en f (en t x y).toNat (en t x z).toNat).tmod m then none else some ()
def rcY (t : List (List Int)) (m : Int) (f : List (List Int)) (x y : Nat) : Option Unit := firstO t.length (rcZ t m f x y) t.length
def rcX (t : List (List Int)) (m : Int) (f : List (List Int)) (x : Nat) : Option Unit := firstO t.length (rcY t m f x) t.length
def rcF (t : List (List Int)) (m : Int) (f : List (List Int)) : Option Unit := firstO t.length (rcX t m f) t.length



def rcC (t : List (List Int)) (m : Int) (f : List (List Int)) : Bool × Int := if rackB t = true then (if matB (t.length : Int) m f = true then ((rcF t m f).isNone, 0) else (false, 2)) else (false, 1)




end Go.Sx

