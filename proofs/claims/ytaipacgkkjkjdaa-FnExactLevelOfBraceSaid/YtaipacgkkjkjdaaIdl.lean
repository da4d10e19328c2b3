/- Ideals and quotients: the plain part. -/
import Derived.Test.YtaipacgkkjkjdaaGrp
open Go Go.Proofs
namespace Go.Sx
set_option linter.unusedSimpArgs false
set_option linter.unusedVariables false

/-- A set of elements of a table. -/
def setOk (t : List (List Int)) (s : Int) : Prop := tabB t = true ∧ 0 ≤ s ∧ s.toNat < 2 ^ t.length

theorem pow_12 {n : Nat} (h : n ≤ 12) : 2 ^ n ≤ 4096 := Nat.pow_le_pow_right (n := 2) (by omega) h

theorem setOk_of {t : List (List Int)} {s : Int} (h : setOk t s) : 0 ≤ s ∧ s < 4096 := by
  have := pow_12 (tabB_of h.1).2.1
  have := h.2.2
  have := h.2.1
  omega

/-- What holds of the elements of a set holds of all that are in it. -/
theorem els_all {s : Int} {n : Nat} (hs : s.toNat < 2 ^ n) (hn : n ≤ 12) (f : Int → Bool) : (elN s 12).all f = (List.range n).all fun x => !bitB s x || f (x : Int) := by
  have e := elN_stop hs (12 - n)
  rw [show n + (12 - n) = 12 by omega] at e
  rw [e, elN_all]

theorem all_swap (n m : Nat) (f : Nat → Nat → Bool) : ((List.range n).all fun x => (List.range m).all fun y => f x y) = (List.range m).all fun y => (List.range n).all fun x => f x y := by
  rw [Bool.eq_iff_iff]
  simp only [List.all_eq_true]
  exact ⟨fun h y hy x hx => h x hx y hy, fun h x hx y hy => h y hy x hx⟩

theorem all_imp (l : List Nat) (b : Bool) (f : Nat → Bool) : (!b || l.all f) = l.all fun x => !b || f x := by
  cases b
  · rw [Bool.eq_iff_iff]; simp
  · simp

def clZ (t : List (List Int)) (s : Int) (x y : Nat) : Bool := !(bitB s x && bitB s y) || bitB s (en t x y).toNat
def clY (t : List (List Int)) (s : Int) (x : Nat) : Bool := (List.range t.length).all (clZ t s x)
def clB (t : List (List Int)) (s : Int) : Bool := (List.range t.length).all (clY t s)
def sgB (t : List (List Int)) (s : Int) : Bool := bitB s 0 && clB t s

/-- As the program looks: over the elements alone. -/
def clL (t : List (List Int)) (s : Int) (x : Int) : Bool := (elN s 12).all fun y => bitB s (en t x.toNat y.toNat).toNat

theorem clL_eq {t : List (List Int)} {s : Int} (h : setOk t s) : (elN s 12).all (clL t s) = clB t s := by
  have hn := (tabB_of h.1).2.1
  rw [els_all h.2.2 hn, clB]
  congr 1
  funext x
  rw [clL, els_all h.2.2 hn, clY, all_imp]
  congr 1
  funext y
  simp only [clZ, Int.toNat_natCast]
  cases bitB s x <;> cases bitB s y <;> simp

/-- Lambda leads the set into itself. -/
def lfZ (l : List (List Int)) (s : Int) (y x : Nat) : Bool := !bitB s x || bitB s (en l y x).toNat
def lfY (n : Nat) (l : List (List Int)) (s : Int) (y : Nat) : Bool := (List.range n).all (lfZ l s y)
def lfB (n : Nat) (l : List (List Int)) (s : Int) : Bool := (List.range n).all (lfY n l s)
def lfL (l : List (List Int)) (s : Int) (x : Int) : Bool := l.all fun r => bitB s (r.getD x.toNat 0).toNat

theorem lfL_eq {t l : List (List Int)} {s : Int} (h : setOk t s) (hl : l.length = t.length) : (elN s 12).all (lfL l s) = lfB t.length l s := by
  have hn := (tabB_of h.1).2.1
  rw [els_all h.2.2 hn, lfB]
  have : lfY t.length l s = fun y => (List.range t.length).all fun x => lfZ l s y x := rfl
  rw [this, all_swap]
  congr 1
  funext x
  rw [lfL, all_idx, hl, all_imp]
  congr 1

/-- Conjugates lead the set into itself. -/
def nmZ (t : List (List Int)) (s : Int) (x y : Nat) : Bool := !bitB s y || bitB s (en t (en t x y).toNat (bk t x).toNat).toNat
def nmY (t : List (List Int)) (s : Int) (x : Nat) : Bool := (List.range t.length).all (nmZ t s x)
def nmB (t : List (List Int)) (s : Int) : Bool := (List.range t.length).all (nmY t s)
def nmL (t : List (List Int)) (s : Int) (x : Nat) : Bool := (elN s 12).all fun y => bitB s (en t (en t x y.toNat).toNat (bk t x).toNat).toNat

theorem nmL_eq {t : List (List Int)} {s : Int} (h : setOk t s) : (List.range t.length).all (nmL t s) = nmB t s := by
  have hn := (tabB_of h.1).2.1
  rw [nmB]
  congr 1
  funext x
  rw [nmL, els_all h.2.2 hn, nmY]
  congr 1

def idB (a c : List (List Int)) (s : Int) : Bool := sgB a s && lfB a.length (lamT a c) s && nmB a s && nmB c s

/-- The odd sets below 2 k with a property, in order. -/
def odN (p : Int → Bool) (k : Nat) : List Int := ((List.range k).filter fun i : Nat => p (2 * (i : Int) + 1)).map fun i : Nat => 2 * (i : Int) + 1

theorem odN_step (p : Int → Bool) (k : Nat) : odN p (k + 1) = if p (2 * (k : Int) + 1) = true then odN p k ++ [2 * (k : Int) + 1] else odN p k := by
  simp only [odN, List.range_succ, List.filter_append, List.filter_cons, List.filter_nil]
  split <;> simp

theorem odN_len (p : Int → Bool) (k : Nat) : (odN p k).length ≤ k := by
  have := List.length_filter_le (fun i : Nat => p (2 * (i : Int) + 1)) (List.range k)
  simpa [odN] using this

theorem odN_filter (p q : Int → Bool) (h : ∀ s, q s = true → p s = true) (k : Nat) : (odN p k).filter q = odN q k := by
  induction k with
  | zero => rfl
  | succ k ih =>
    rw [odN_step, odN_step]
    cases hq : q (2 * (k : Int) + 1) with
    | true => rw [h _ hq, if_pos rfl, if_pos rfl, List.filter_append, ih]; simp [hq]
    | false =>
      rw [if_neg (show ¬ (false = true) by decide)]
      split
      · rw [List.filter_append, ih]; simp [hq]
      · exact ih

/-- The least element of the set of all x y with y in a set. -/
def mn (a b : Int) : Int := if b < a then b else a
def lsN (t : List (List Int)) (s : Int) (x : Nat) : Nat → Int
  | 0 => (x : Int)
  | k + 1 => if bitB s k = true then mn (lsN t s x k) (en t x k) else lsN t s x k

theorem lsN_fold (t : List (List Int)) (s : Int) (x : Nat) : ∀ k, (elN s k).foldl (fun m y => mn m (en t x y.toNat)) (x : Int) = lsN t s x k
  | 0 => rfl
  | k + 1 => by
    rw [elN_step, lsN]
    split
    · rw [List.foldl_append, lsN_fold t s x k]; rfl
    · exact lsN_fold t s x k

theorem lsN_stop {t : List (List Int)} {s : Int} {n : Nat} (h : s.toNat < 2 ^ n) (x : Nat) : ∀ j, lsN t s x (n + j) = lsN t s x n
  | 0 => rfl
  | j + 1 => by rw [← Nat.add_assoc, lsN, bitB_big h (by omega), if_neg (by decide), lsN_stop h x j]

def lsL (t : List (List Int)) (s : Int) : List Int := tab t.length fun x => lsN t s x t.length

/-- The labels that came first, up to i. -/
def nbS (l : List Int) : Nat → List Int
  | 0 => []
  | i + 1 => if l.getD i 0 ∈ nbS l i then nbS l i else nbS l i ++ [l.getD i 0]

def nbL (l : List Int) : List Int := tab l.length fun i => idxL (l.getD i 0) (nbS l (i + 1)) 0

theorem idxL_app (x : Int) : ∀ (l m : List Int) (k : Int), x ∈ l → idxL x (l ++ m) k = idxL x l k
  | [], m, k, h => by simp at h
  | y :: l, m, k, h => by
    simp only [List.cons_append, idxL]
    split
    · rfl
    · rename_i hy
      rcases List.mem_cons.1 h with e | e
      · exact absurd e.symm hy
      · exact idxL_app x l m (k + 1) e

theorem idxL_new (x : Int) : ∀ (l : List Int) (k : Int), x ∉ l → idxL x (l ++ [x]) k = k + (l.length : Int)
  | [], k, _ => by simp [idxL]
  | y :: l, k, h => by
    simp only [List.cons_append, idxL, List.length_cons]
    rw [if_neg (fun e => h (by rw [e]; simp)), idxL_new x l (k + 1) (fun e => h (by simp [e]))]
    omega

theorem idxL_none (x : Int) : ∀ (l : List Int) (k : Int), x ∉ l → idxL x l k = -1
  | [], _, _ => rfl
  | y :: l, k, h => by
    simp only [idxL]
    rw [if_neg (fun e => h (by rw [e]; simp)), idxL_none x l (k + 1) (fun e => h (by simp [e]))]

theorem idxL_nn (x : Int) (l : List Int) (h : x ∈ l) : 0 ≤ idxL x l 0 := by
  have := idxL_mem x l 0 (by omega)
  rw [decide_eq_true h] at this
  exact of_decide_eq_true this

theorem nbS_len (l : List Int) : ∀ i, (nbS l i).length ≤ i
  | 0 => by simp [nbS]
  | i + 1 => by
    have := nbS_len l i
    simp only [nbS]
    split
    · omega
    · simp; omega

theorem nb_mem (l : List Int) (i : Nat) : l.getD i 0 ∈ nbS l (i + 1) := by
  simp only [nbS]
  split
  · assumption
  · simp

theorem nb_in (l : List Int) (i : Nat) : 0 ≤ idxL (l.getD i 0) (nbS l (i + 1)) 0 ∧ idxL (l.getD i 0) (nbS l (i + 1)) 0 < ((nbS l (i + 1)).length : Int) := by
  have := idxL_lt (l.getD i 0) (nbS l (i + 1)) 0 (by omega)
  exact ⟨idxL_nn _ _ (nb_mem l i), by omega⟩

/-- The first elements of the classes, up to i. -/
def foN (cl : List Int) : Nat → List Int
  | 0 => []
  | i + 1 => if cl.getD i 0 = ((foN cl i).length : Int) then foN cl i ++ [(i : Int)] else foN cl i

theorem foN_len (cl : List Int) : ∀ i, (foN cl i).length ≤ i
  | 0 => by simp [foN]
  | i + 1 => by
    have := foN_len cl i
    simp only [foN]
    split
    · simp; omega
    · omega

theorem foN_in (cl : List Int) : ∀ i, ∀ x ∈ foN cl i, 0 ≤ x ∧ x < (i : Int)
  | 0 => by simp [foN]
  | i + 1 => fun x hx => by
    simp only [foN] at hx
    split at hx
    · rcases List.mem_append.1 hx with h | h
      · have := foN_in cl i x h; omega
      · simp at h; omega
    · have := foN_in cl i x hx; omega

/-- Numbered classes: each is an old one, or the next one. -/
def numB (cl : List Int) : Prop := ∀ i, i < cl.length → 0 ≤ cl.getD i 0 ∧ cl.getD i 0 ≤ ((foN cl i).length : Int)

theorem nb_fo (l : List Int) : ∀ i, i ≤ l.length → (foN (nbL l) i).length = (nbS l i).length
  | 0, _ => rfl
  | i + 1, h => by
    have ih := nb_fo l i (by omega)
    have e : (nbL l).getD i 0 = idxL (l.getD i 0) (nbS l (i + 1)) 0 := tab_getD _ _ _ (by omega)
    simp only [foN]
    rw [e, ih]
    by_cases hm : l.getD i 0 ∈ nbS l i
    · have e2 : nbS l (i + 1) = nbS l i := if_pos hm
      rw [e2]
      have := idxL_lt (l.getD i 0) (nbS l i) 0 (by omega)
      rw [if_neg (by omega), ih]
    · have e2 : nbS l (i + 1) = nbS l i ++ [l.getD i 0] := if_neg hm
      rw [e2, idxL_new _ _ _ hm, if_pos (by omega)]
      simp [ih]

theorem nb_num (l : List Int) : numB (nbL l) := fun i hi => by
  have hi : i < l.length := by rwa [nbL, tab_length] at hi
  have e : (nbL l).getD i 0 = idxL (l.getD i 0) (nbS l (i + 1)) 0 := tab_getD _ _ _ hi
  rw [e, nb_fo l i (by omega)]
  have a := nb_in l i
  refine ⟨a.1, ?_⟩
  by_cases hm : l.getD i 0 ∈ nbS l i
  · have e2 : nbS l (i + 1) = nbS l i := if_pos hm
    rw [e2] at a ⊢
    omega
  · have e2 : nbS l (i + 1) = nbS l i ++ [l.getD i 0] := if_neg hm
    rw [e2, idxL_new _ _ _ hm]
    omega

def csL (t : List (List Int)) (s : Int) : List Int := nbL (lsL t s)

theorem csL_length (t : List (List Int)) (s : Int) : (csL t s).length = t.length := by simp [csL, nbL, lsL, tab_length]

/-- The quotient of a table by classes. -/
def quo (t : List (List Int)) (cl : List Int) : List (List Int) :=
  tabR (foN cl cl.length).length fun x y => cl.getD (en t ((foN cl cl.length).getD x 0).toNat ((foN cl cl.length).getD y 0).toNat).toNat 0

end Go.Sx

