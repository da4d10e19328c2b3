/- Groups by tables, braces: the plain part. -/
import Derived.Test.YtaipacgkkjkjdaaRackC
import Derived.Test.YtaipacgkkjkjdaaBit
open Go Go.Proofs
namespace Go.Sx
set_option linter.unusedSimpArgs false
set_option linter.unusedVariables false

theorem all_idx (t : List (List Int)) (f : List Int → Bool) : t.all f = (List.range t.length).all fun x => f (t.getD x []) := by
  rw [Bool.eq_iff_iff, List.all_eq_true, List.all_eq_true]
  constructor
  · intro h x hx
    rw [List.mem_range] at hx
    exact h _ (getD_mem t [] x hx)
  · intro h r hr
    obtain ⟨k, hk, rfl⟩ := List.getElem_of_mem hr
    have := h k (by simpa using hk)
    rwa [getD_lt _ _ _ hk] at this

theorem all_and (l : List Nat) (f g : Nat → Bool) : (l.all f && l.all g) = l.all fun x => f x && g x := by
  rw [Bool.eq_iff_iff]
  simp only [Bool.and_eq_true, List.all_eq_true]
  exact ⟨fun h x hx => ⟨h.1 x hx, h.2 x hx⟩, fun h => ⟨fun x hx => (h x hx).1, fun x hx => (h x hx).2⟩⟩

/-- Associativity at x, y, z; at x, y; at x. -/
def asZ (t : List (List Int)) (x y z : Nat) : Bool := decide (en t (en t x y).toNat z = en t x (en t y z).toNat)
def asY (t : List (List Int)) (x y : Nat) : Bool := (List.range t.length).all (asZ t x y)
def asX (t : List (List Int)) (x : Nat) : Bool := (List.range t.length).all (asY t x)
def zrX (t : List (List Int)) (x : Nat) : Bool := decide (en t 0 x = (x : Int)) && decide (en t x 0 = (x : Int))
def gpX (t : List (List Int)) (x : Nat) : Bool := zrX t x && asX t x
def hpX (t : List (List Int)) (x : Nat) : Bool := zrX t x && (permB (t.getD x []) && asX t x)

def grpB (t : List (List Int)) : Bool := tabB t && (t.all permB && (List.range t.length).all (gpX t))

theorem grp_eq (t : List (List Int)) : grpB t = (tabB t && (List.range t.length).all (hpX t)) := by
  rw [grpB, all_idx, all_and]
  congr 2
  funext x
  simp only [gpX, hpX]
  cases permB (t.getD x []) <;> cases zrX t x <;> simp

theorem grp_tab {t : List (List Int)} (h : grpB t = true) : tabB t = true := by
  rw [grpB, Bool.and_eq_true] at h; exact h.1

/-- The inverse of an element. -/
def bk (t : List (List Int)) (x : Nat) : Int := idxL 0 (t.getD x []) 0

theorem idxL_lt (x : Int) : ∀ (l : List Int) (k : Int), 0 ≤ k → idxL x l k < k + (l.length : Int)
  | [], k, h => by simp [idxL]; omega
  | y :: l, k, h => by
    simp only [idxL, List.length_cons]
    split
    · omega
    · have := idxL_lt x l (k + 1) (by omega)
      omega

theorem perm_has {l : List Int} (h : permB l = true) {x : Int} (h0 : 0 ≤ x) (h1 : x < (l.length : Int)) : x ∈ l := perm_all.1 h x h0 h1

theorem bk_in {t : List (List Int)} (h : grpB t = true) {x : Nat} (hx : x < t.length) : 0 ≤ bk t x ∧ bk t x ≤ (t.length : Int) - 1 := by
  have ht := tabB_of (grp_tab h)
  have hr := (ht.2.2 x hx).1
  rw [grpB, Bool.and_eq_true, Bool.and_eq_true] at h
  have hp : permB (t.getD x []) = true := by
    have := h.2.1
    rw [all_idx, List.all_eq_true] at this
    exact this x (by simpa using hx)
  have hm := perm_has hp (x := 0) (by omega) (by omega)
  have h1 := idxL_mem 0 (t.getD x []) 0 (by omega)
  have h2 := idxL_lt 0 (t.getD x []) 0 (by omega)
  rw [decide_eq_true hm] at h1
  have h3 := of_decide_eq_true h1
  unfold bk
  omega

/-- The inverses of all elements. -/
def bkL (t : List (List Int)) : List Int := tab t.length (bk t)

theorem bkL_length (t : List (List Int)) : (bkL t).length = t.length := tab_length _ _
theorem bkL_getD (t : List (List Int)) (x : Nat) (h : x < t.length) : (bkL t).getD x 0 = bk t x := tab_getD _ _ _ h

/-- Where it is no brace. -/
def brZ (a c : List (List Int)) (x y z : Nat) : Option (List Int) :=
  if en c x (en a y z).toNat = en a (en a (en c x y).toNat (bk a x).toNat).toNat (en c x z).toNat then none else some [(x : Int), (y : Int), (z : Int)]
def brY (a c : List (List Int)) (x y : Nat) : Option (List Int) := firstO a.length (brZ a c x y) a.length
def brX (a c : List (List Int)) (x : Nat) : Option (List Int) := firstO a.length (brY a c x) a.length
def brF (a c : List (List Int)) : Option (List Int) := firstO a.length (brX a c) a.length

def brcB (a c : List (List Int)) : Bool := grpB a && grpB c && decide (a.length = c.length) && (brF a c).isNone

theorem brcB_of {a c : List (List Int)} (h : brcB a c = true) : grpB a = true ∧ grpB c = true ∧ a.length = c.length ∧ (brF a c).isNone = true := by
  simp only [brcB, Bool.and_eq_true, decide_eq_true_eq] at h
  exact ⟨h.1.1.1, h.1.1.2, h.1.2, h.2⟩

theorem brF_some {a c : List (List Int)} {l : List Int} (h : brF a c = some l) : l ≠ [] := by
  obtain ⟨x, hx⟩ := firstO_some h
  obtain ⟨y, hy⟩ := firstO_some hx
  obtain ⟨z, hz⟩ := firstO_some hy
  unfold brZ at hz
  split at hz
  · cases hz
  · cases hz; simp

/-- Lambda, and the stars. -/
def lamF (a c : List (List Int)) (x y : Nat) : Int := en a (bk a x).toNat (en c x y).toNat
def lamT (a c : List (List Int)) : List (List Int) := tabR a.length (lamF a c)
def strF (a c : List (List Int)) (x y : Nat) : Int := en a (lamF a c x y).toNat (bk a y).toNat

end Go.Sx

