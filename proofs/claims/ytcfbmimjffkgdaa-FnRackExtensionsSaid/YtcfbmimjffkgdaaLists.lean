/- Lists -/
import Derived.Test.YtcfbmimjffkgdaaBase
open Go Go.Proofs
namespace Go.Sx
set_option linter.unusedSimpArgs false
set_option linter.unusedVariables false

def sumL (l : List (List Int)) : Nat := (l.map List.length).sum

theorem sumL_take (l : List (List Int)) (i : Nat) (h : i < l.length) : sumL (l.take (i + 1)) = sumL (l.take i) + (l.getD i []).length := by
  rw [← take_snoc l [] i h]; simp [sumL]

theorem sumL_take_le (l : List (List Int)) (i : Nat) : sumL (l.take i) ≤ sumL l := by
  have h : sumL l = sumL (l.take i) + sumL (l.drop i) := by
    rw [sumL, sumL, sumL, ← List.sum_append, ← List.map_append, List.take_append_drop]
  omega

theorem sumL_mem {l : List (List Int)} {r : List Int} (h : r ∈ l) : r.length ≤ sumL l := by
  induction l with
  | nil => simp at h
  | cons x l ih =>
    simp only [sumL, List.map_cons, List.sum_cons] at ih ⊢
    rcases List.mem_cons.1 h with rfl | h
    · omega
    · have := ih h; omega

def roomR (l : List (List Int)) : Prop := l.length ≤ 1099511627776 ∧ ∀ r ∈ l, r.length ≤ 1099511627776

theorem roomR_get {l : List (List Int)} (h : roomR l) (i : Nat) (hi : i < l.length) : (l.getD i []).length ≤ 1099511627776 := h.2 _ (getD_mem l [] i hi)







def markR : List (List Int) → Int → List (List Int)
  | [], _ => []
  | r :: l, k => markL k r.length :: markR l (k + (r.length : Int))

theorem markR_length : ∀ (l : List (List Int)) (k : Int), (markR l k).length = l.length
  | [], _ => rfl
  | r :: l, k => by simp [markR, markR_length l]

theorem markR_lens : ∀ (l : List (List Int)) (k : Int), (markR l k).map List.length = l.map List.length
  | [], _ => rfl
  | r :: l, k => by simp [markR, markL_length, markR_lens l]

theorem markR_append : ∀ (a b : List (List Int)) (k : Int), markR (a ++ b) k = markR a k ++ markR b (k + (sumL a : Int))
  | [], b, k => by simp [markR, sumL]
  | r :: a, b, k => by
    simp only [List.cons_append, markR, markR_append a b, sumL, List.map_cons, List.sum_cons]
    rw [show k + ((r.length + (a.map List.length).sum : Nat) : Int) = k + (r.length : Int) + ((a.map List.length).sum : Int) by omega]

theorem markR_take (l : List (List Int)) (k : Int) (i : Nat) (h : i < l.length) : markR (l.take (i + 1)) k = markR (l.take i) k ++ [markL (k + (sumL (l.take i) : Int)) (l.getD i []).length] := by
  rw [← take_snoc l [] i h, markR_append]; rfl

theorem markR_getD (l : List (List Int)) (k : Int) (i : Nat) (h : i < l.length) : (markR l k).getD i [] = markL (k + (sumL (l.take i) : Int)) (l.getD i []).length := by
  have hl : (markR (l.take i) k).length = i := by rw [markR_length, List.length_take]; omega
  conv => lhs; rw [← List.take_append_drop (i + 1) l]
  rw [markR_append, markR_take l k i h, List.append_assoc, getD_append_right' _ _ _ _ (by omega), hl, Nat.sub_self]
  rfl

theorem markR_sum : ∀ (l : List (List Int)) (k : Int), sumL (markR l k) = sumL l
  | [], _ => rfl
  | r :: l, k => by
    have := markR_sum l (k + (r.length : Int))
    simp only [sumL, markR, List.map_cons, List.sum_cons, markL_length] at this ⊢
    rw [this]

theorem markR_mark : ∀ (l : List (List Int)) (k : Int), markR (markR l k) k = markR l k
  | [], _ => rfl
  | r :: l, k => by simp only [markR, markL_length, markR_mark l]





/-- What a size that is not too great says of a list of lists. -/
theorem size_of {t : List (List Int)} {k : Int} (h : ¬ (if k < (t.length : Int) + (sumL t : Int) then (-1 : Int) else k - (t.length : Int) - (sumL t : Int)) < 0) (hk : k ≤ 1048576 := by omega) :
    t.length ≤ 1048576 ∧ sumL t ≤ 1048576 ∧ roomR t := by
  split at h
  · omega
  · refine ⟨by omega, by omega, by omega, fun r hr => ?_⟩
    have := sumL_mem hr
    omega

end Go.Sx
