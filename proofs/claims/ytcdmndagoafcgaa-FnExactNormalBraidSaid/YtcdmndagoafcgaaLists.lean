/- Lists -/
import Derived.Test.YtcdmndagoafcgaaBase
open Go Go.Proofs
namespace Go.Sx
set_option linter.unusedSimpArgs false
set_option linter.unusedVariables false

def sumL (l : List (List Int)) : Nat := (l.map List.length).sum

theorem sumL_take (l : List (List Int)) (i : Nat) (h : i < l.length) : sumL (l.take (i + 1)) = sumL (l.take i) + (l.getD i []).length := by
  rw [← take_snoc l [] i h]; simp [sumL]

theorem sumL_take_le (l : List (List Int)) (i : Nat) : sumL (l.take i) ≤ sumL l := by
  have h : sumL l = sumL (l.take i) + sumL (l.drop i) := by
    rw [sumL, sumL, sumL, ← List.sum_append, ← List.map_append, List.take_append_drop]
  omega

theorem sumL_mem {l : List (List Int)} {r : List Int} (h : r ∈ l) : r.length ≤ sumL l := by
  induction l with
  | nil => simp at h
  | cons x l ih =>
    simp only [sumL, List.map_cons, List.sum_cons] at ih ⊢
    rcases List.mem_cons.1 h with rfl | h
    · omega
    · have := ih h; omega

def roomR (l : List (List Int)) : Prop := l.length ≤ 1099511627776 ∧ ∀ r ∈ l, r.length ≤ 1099511627776

theorem roomR_get {l : List (List Int)} (h : roomR l) (i : Nat) (hi : i < l.length) : (l.getD i []).length ≤ 1099511627776 := h.2 _ (getD_mem l [] i hi)





def eqInt64SS_p (a : List (List Int)) (b : List (List Int)) : Post := ⟨roomR a, .c (.bool (decide (a = b))), []⟩
def eqInt64SS_ct : List AD → Option Post
  | [.c (.rows .i64 (a)), .c (.rows .i64 (b))] => some (eqInt64SS_p a b)
  | _ => none
def eqInt64SS_ann (a : List (List Int)) (b : List (List Int)) : Nat → Option Ann
  | 0 => some (Ann.mk ((Nat)) (fun i => ⟨[(0, .c (.ro (.rows .i64 (a)))), (1, .c (.ro (.rows .i64 (b)))), (5, .c (.int .i64 ((i : Int))))], []⟩) (fun i => i ≤ a.length ∧ a.length = b.length ∧ a.take i = b.take i) (fun i => a.length - i) (fun _ => noAnn))
  | _ => none
def eqInt64SS_G : List (Nat × Ctr) := [(44, ⟨[], eqInt64S_ct⟩)]
def eqInt64SS_V (a : List (List Int)) (b : List (List Int)) : Prop :=
  (BrP ((↑(List.length a) : Int) != (↑(List.length b) : Int))
 ((Bool.false = Decidable.decide (a = b)) ∧
 (True))
 ((∃ x0 : Nat, (((x0 ≤ List.length a) ∧
 ((List.length a = List.length b) ∧
 (List.take x0 a = List.take x0 b))) ∧
 ((a = a) ∧
 ((b = b) ∧
 ((0 : Int) = (↑x0 : Int)))))) ∧
 (∀ x1 : Nat, (((x1 ≤ List.length a) ∧
 ((List.length a = List.length b) ∧
 (List.take x1 a = List.take x1 b))) →
 (BrP (Decidable.decide ((↑x1 : Int) < (↑(List.length a) : Int)))
 ((inB (↑x1 : Int) (List.length a)) ∧
 ((inB (↑x1 : Int) (List.length b)) ∧
 (((room (List.length (List.getD a (Int.toNat (↑x1 : Int)) []))) ∧
 (True)) ∧
 (BrP (!Decidable.decide (List.getD a (Int.toNat (↑x1 : Int)) [] = List.getD b (Int.toNat (↑x1 : Int)) []))
 ((Bool.false = Decidable.decide (a = b)) ∧
 (True))
 ((InR ((↑x1 : Int) + (1 : Int))) ∧
 (∃ x2 : Nat, (((x2 ≤ List.length a) ∧
 ((List.length a = List.length b) ∧
 (List.take x2 a = List.take x2 b))) ∧
 ((List.length a - x2 < List.length a - x1) ∧
 ((a = a) ∧
 ((b = b) ∧
 ((↑x1 : Int) + (1 : Int) = (↑x2 : Int))))))))))))
 ((Bool.true = Decidable.decide (a = b)) ∧
 (True)))))))
theorem eqInt64SS_vc (a : List (List Int)) (b : List (List Int)) : runF Try.prog (gam eqInt64SS_G) noWr (eqInt64SS_ann a b) Try.f11 (bodyOf Try.f11) [] [.c (.rows .i64 (a)), .c (.rows .i64 (b))] (eqInt64SS_p a b) = eqInt64SS_V a b := by kernel_rfl
theorem eqInt64SS_ok (a : List (List Int)) (b : List (List Int)) (hpre : (eqInt64SS_p a b).pre) : eqInt64SS_V a b := by
  simp only [eqInt64SS_p, eqInt64SS_V, BrP_iff, true_and, and_true, decide_eq_true_eq, decide_eq_false_iff_not, bne_iff_ne, beq_iff_eq, bne_eq_false_iff_eq, beq_eq_false_iff_ne, Bool.not_eq_true, Bool.not_eq_false, Bool.not_true, Bool.not_false, Bool.not_eq_eq_eq_not, Int.toNat_natCast, List.length_append, List.length_take, List.length_replicate, List.length_set, List.length_map, List.length_drop, List.length_nil, List.length_cons, markL_length, inB, InR, room, bdsOk] at hpre ⊢
  have h0 := hpre.1
  refine ⟨fun h => ?_, fun h => ⟨⟨0, ⟨by omega, by omega, rfl⟩, by simp⟩, fun i hi => ⟨fun h1 => ⟨by omega, by omega, roomR_get hpre i (by omega), fun h2 => ?_, fun h2 => ⟨by omega, i + 1, ⟨by omega, hi.2.1, ?_⟩, by omega, by omega⟩⟩, fun h1 => ?_⟩⟩⟩
  · exact (decide_eq_false fun e => h (by rw [e])).symm
  · exact (decide_eq_false fun e => h2 (by rw [e])).symm
  · exact (take_eq_step a b [] i (by omega) (by omega) hi.2.2).2 h2
  · refine (decide_eq_true ?_).symm
    have := hi.2.2
    rwa [List.take_of_length_le (by omega), List.take_of_length_le (by omega)] at this
theorem eqInt64SS_fits : Fits Try.prog 11 ⟨[], eqInt64SS_ct⟩ := by
  refine fits_fn (Γ := gam eqInt64SS_G) (gok_cons eqInt64S_fits gok_nil) Try.func11 (by kernel_rfl) (by kernel_rfl) (by kernel_rfl) fun ds p h hp => ?_
  unfold eqInt64SS_ct at h
  split at h
  · cases h
    exact ⟨noWr, eqInt64SS_ann _ _ , by rw [eqInt64SS_vc]; exact eqInt64SS_ok _ _  hp⟩
  · cases h

def markR : List (List Int) → Int → List (List Int)
  | [], _ => []
  | r :: l, k => markL k r.length :: markR l (k + (r.length : Int))

theorem markR_length : ∀ (l : List (List Int)) (k : Int), (markR l k).length = l.length
  | [], _ => rfl
  | r :: l, k => by simp [markR, markR_length l]

theorem markR_lens : ∀ (l : List (List Int)) (k : Int), (markR l k).map List.length = l.map List.length
  | [], _ => rfl
  | r :: l, k => by simp [markR, markL_length, markR_lens l]

theorem markR_append : ∀ (a b : List (List Int)) (k : Int), markR (a ++ b) k = markR a k ++ markR b (k + (sumL a : Int))
  | [], b, k => by simp [markR, sumL]
  | r :: a, b, k => by
    simp only [List.cons_append, markR, markR_append a b, sumL, List.map_cons, List.sum_cons]
    rw [show k + ((r.length + (a.map List.length).sum : Nat) : Int) = k + (r.length : Int) + ((a.map List.length).sum : Int) by omega]

theorem markR_take (l : List (List Int)) (k : Int) (i : Nat) (h : i < l.length) : markR (l.take (i + 1)) k = markR (l.take i) k ++ [markL (k + (sumL (l.take i) : Int)) (l.getD i []).length] := by
  rw [← take_snoc l [] i h, markR_append]; rfl

theorem markR_getD (l : List (List Int)) (k : Int) (i : Nat) (h : i < l.length) : (markR l k).getD i [] = markL (k + (sumL (l.take i) : Int)) (l.getD i []).length := by
  have hl : (markR (l.take i) k).length = i := by rw [markR_length, List.length_take]; omega
  conv => lhs; rw [← List.take_append_drop (i + 1) l]
  rw [markR_append, markR_take l k i h, List.append_assoc, getD_append_right' _ _ _ _ (by omega), hl, Nat.sub_self]
  rfl

theorem markR_sum : ∀ (l : List (List Int)) (k : Int), sumL (markR l k) = sumL l
  | [], _ => rfl
  | r :: l, k => by
    have := markR_sum l (k + (r.length : Int))
    simp only [sumL, markR, List.map_cons, List.sum_cons, markL_length] at this ⊢
    rw [this]

theorem markR_mark : ∀ (l : List (List Int)) (k : Int), markR (markR l k) k = markR l k
  | [], _ => rfl
  | r :: l, k => by simp only [markR, markL_length, markR_mark l]



def heldInt64SS_p (l : List (List Int)) (k : Int) : Post := ⟨l.length ≤ 1048576 ∧ sumL l ≤ 1048576 ∧ 0 ≤ k ∧ k ≤ 1073741824, .c (.int .i64 (if l = markR l k then k + (sumL l : Int) else -1)), []⟩
def heldInt64SS_ct : List AD → Option Post
  | [.c (.rows .i64 (l)), .c (.int .i64 (k))] => some (heldInt64SS_p l k)
  | _ => none
def heldInt64SS_ann (l : List (List Int)) (k : Int) : Nat → Option Ann
  | 0 => some (Ann.mk ((Nat)) (fun i => ⟨[(0, .c (.ro (.rows .i64 (l)))), (1, .c (.int .i64 (k + (sumL (l.take i) : Int)))), (5, .c (.int .i64 ((i : Int))))], []⟩) (fun i => i ≤ l.length ∧ l.take i = markR (l.take i) k) (fun i => l.length - i) (fun _ => noAnn))
  | _ => none
def heldInt64SS_G : List (Nat × Ctr) := [(46, ⟨[], heldInt64S_ct⟩)]
def heldInt64SS_V (l : List (List Int)) (k : Int) : Prop :=
  ((∃ x0 : Nat, (((x0 ≤ List.length l) ∧
 (List.take x0 l = markR (List.take x0 l) k)) ∧
 ((l = l) ∧
 ((k = k + (↑(sumL (List.take x0 l)) : Int)) ∧
 ((0 : Int) = (↑x0 : Int)))))) ∧
 (∀ x1 : Nat, (((x1 ≤ List.length l) ∧
 (List.take x1 l = markR (List.take x1 l) k)) →
 (BrP (Decidable.decide ((↑x1 : Int) < (↑(List.length l) : Int)))
 ((inB (↑x1 : Int) (List.length l)) ∧
 ((((room (List.length (List.getD l (Int.toNat (↑x1 : Int)) []))) ∧
 (((0 : Int) ≤ k + (↑(sumL (List.take x1 l)) : Int)) ∧
 (k + (↑(sumL (List.take x1 l)) : Int) ≤ (1099511627776 : Int)))) ∧
 (True)) ∧
 (BrP (Decidable.decide ((if List.getD l (Int.toNat (↑x1 : Int)) [] = markL (k + (↑(sumL (List.take x1 l)) : Int)) (List.length (List.getD l (Int.toNat (↑x1 : Int)) [])) then k + (↑(sumL (List.take x1 l)) : Int) + (↑(List.length (List.getD l (Int.toNat (↑x1 : Int)) [])) : Int) else (-1 : Int)) < (0 : Int)))
 (((-1 : Int) = if l = markR l k then k + (↑(sumL l) : Int) else (-1 : Int)) ∧
 (True))
 ((InR ((↑x1 : Int) + (1 : Int))) ∧
 (∃ x2 : Nat, (((x2 ≤ List.length l) ∧
 (List.take x2 l = markR (List.take x2 l) k)) ∧
 ((List.length l - x2 < List.length l - x1) ∧
 ((l = l) ∧
 (((if List.getD l (Int.toNat (↑x1 : Int)) [] = markL (k + (↑(sumL (List.take x1 l)) : Int)) (List.length (List.getD l (Int.toNat (↑x1 : Int)) [])) then k + (↑(sumL (List.take x1 l)) : Int) + (↑(List.length (List.getD l (Int.toNat (↑x1 : Int)) [])) : Int) else (-1 : Int)) = k + (↑(sumL (List.take x2 l)) : Int)) ∧
 ((↑x1 : Int) + (1 : Int) = (↑x2 : Int)))))))))))
 ((k + (↑(sumL (List.take x1 l)) : Int) = if l = markR l k then k + (↑(sumL l) : Int) else (-1 : Int)) ∧
 (True))))))
theorem heldInt64SS_vc (l : List (List Int)) (k : Int) : runF Try.prog (gam heldInt64SS_G) noWr (heldInt64SS_ann l k) Try.f15 (bodyOf Try.f15) [] [.c (.rows .i64 (l)), .c (.int .i64 (k))] (heldInt64SS_p l k) = heldInt64SS_V l k := by kernel_rfl
theorem heldInt64SS_ok (l : List (List Int)) (k : Int) (hpre : (heldInt64SS_p l k).pre) : heldInt64SS_V l k := by
  simp only [heldInt64SS_p, heldInt64SS_V, BrP_iff, true_and, and_true, decide_eq_true_eq, decide_eq_false_iff_not, bne_iff_ne, beq_iff_eq, bne_eq_false_iff_eq, beq_eq_false_iff_ne, Bool.not_eq_true, Bool.not_eq_false, Bool.not_true, Bool.not_false, Bool.not_eq_eq_eq_not, Int.toNat_natCast, List.length_append, List.length_take, List.length_replicate, List.length_set, List.length_map, List.length_drop, List.length_nil, List.length_cons, markL_length, inB, InR, room, bdsOk] at hpre ⊢
  obtain ⟨h1, h2, h3, h4⟩ := hpre
  refine ⟨⟨0, ⟨by omega, rfl⟩, by simp [sumL], rfl⟩, fun i ⟨hi, he⟩ => ⟨fun h => ?_, fun h => ?_⟩⟩
  · have q1 := sumL_take l i (by omega)
    have q2 := sumL_take_le l (i + 1)
    have q3 := sumL_mem (getD_mem l [] i (by omega))
    refine ⟨by omega, by omega, fun h5 => ?_, fun h5 => ?_⟩
    · split at h5
      · omega
      · rename_i h6
        rw [if_neg]
        intro e
        apply h6
        conv => lhs; rw [e]
        exact markR_getD l k i (by omega)
    · split at h5
      · rename_i h6
        refine ⟨by omega, i + 1, ⟨by omega, ?_⟩, by omega, ?_, by omega⟩
        · rw [markR_take l k i (by omega), ← he, ← h6, take_snoc _ _ _ (by omega)]
        · rw [if_pos h6]; omega
      · omega
  · rw [List.take_of_length_le (by omega)] at he ⊢
    rw [if_pos he]
theorem heldInt64SS_fits : Fits Try.prog 15 ⟨[], heldInt64SS_ct⟩ := by
  refine fits_fn (Γ := gam heldInt64SS_G) (gok_cons heldInt64S_fits gok_nil) Try.func15 (by kernel_rfl) (by kernel_rfl) (by kernel_rfl) fun ds p h hp => ?_
  unfold heldInt64SS_ct at h
  split at h
  · cases h
    exact ⟨noWr, heldInt64SS_ann _ _ , by rw [heldInt64SS_vc]; exact heldInt64SS_ok _ _  hp⟩
  · cases h

/-- What a size that is not too great says of a list of lists. -/
theorem size_of {t : List (List Int)} {k : Int} (h : ¬ (if k < (t.length : Int) + (sumL t : Int) then (-1 : Int) else k - (t.length : Int) - (sumL t : Int)) < 0) (hk : k ≤ 1048576 := by omega) :
    t.length ≤ 1048576 ∧ sumL t ≤ 1048576 ∧ roomR t := by
  split at h
  · omega
  · refine ⟨by omega, by omega, by omega, fun r hr => ?_⟩
    have := sumL_mem hr
    omega

end Go.Sx
