/- Contracts of the small functions on lists three and four deep. -/
import Derived.Test.YtjkbnanffneogaaLists
open Go Go.Proofs
namespace Go.Sx
set_option linter.unusedSimpArgs false
set_option linter.unusedVariables false

/-- A sum over a list. -/
def sumB {α : Type} (c : α → Nat) (l : List α) : Nat := (l.map c).sum

theorem sumB_take {α : Type} (c : α → Nat) (l : List α) (z : α) (i : Nat) (h : i < l.length) : sumB c (l.take (i + 1)) = sumB c (l.take i) + c (l.getD i z) := by
  rw [← take_snoc l z i h]; simp [sumB]

theorem sumB_take_le {α : Type} (c : α → Nat) (l : List α) (i : Nat) : sumB c (l.take i) ≤ sumB c l := by
  have h : sumB c l = sumB c (l.take i) + sumB c (l.drop i) := by
    rw [sumB, sumB, sumB, ← List.sum_append, ← List.map_append, List.take_append_drop]
  omega

theorem sumB_mem {α : Type} (c : α → Nat) {l : List α} {r : α} (h : r ∈ l) : c r ≤ sumB c l := by
  induction l with
  | nil => simp at h
  | cons x l ih =>
    simp only [sumB, List.map_cons, List.sum_cons] at ih ⊢
    rcases List.mem_cons.1 h with rfl | h
    · omega
    · have := ih h; omega

def cost2 (l : List (List Int)) : Nat := l.length + sumL l
def cost3 (l : List (List (List Int))) : Nat := l.length + sumB cost2 l
def cost4 (l : List (List (List (List Int)))) : Nat := l.length + sumB cost3 l
def tot3 (l : List (List (List Int))) : Nat := sumB sumL l
def tot4 (l : List (List (List (List Int)))) : Nat := sumB tot3 l

def big2 (l : List (List Int)) : Prop := (l.length : Int) ≤ 9223372036854775807 ∧ ∀ r ∈ l, (r.length : Int) ≤ 9223372036854775807
def big3 (l : List (List (List Int))) : Prop := (l.length : Int) ≤ 9223372036854775807 ∧ ∀ r ∈ l, big2 r
def big4 (l : List (List (List (List Int)))) : Prop := (l.length : Int) ≤ 9223372036854775807 ∧ ∀ r ∈ l, big3 r
def room3 (l : List (List (List Int))) : Prop := l.length ≤ 1099511627776 ∧ ∀ r ∈ l, roomR r
def room4 (l : List (List (List (List Int)))) : Prop := l.length ≤ 1099511627776 ∧ ∀ r ∈ l, room3 r
def fit3 (l : List (List (List Int))) : Prop := l.length ≤ 1048576 ∧ ∀ r ∈ l, r.length ≤ 1048576
def fit4 (l : List (List (List (List Int)))) : Prop := l.length ≤ 1048576 ∧ ∀ r ∈ l, fit3 r

theorem room3_get {l : List (List (List Int))} (h : room3 l) (i : Nat) (hi : i < l.length) : roomR (l.getD i []) := h.2 _ (getD_mem l [] i hi)
theorem room4_get {l : List (List (List (List Int)))} (h : room4 l) (i : Nat) (hi : i < l.length) : room3 (l.getD i []) := h.2 _ (getD_mem l [] i hi)

def szInt64SSS_p (l : List (List (List Int))) (k : Int) : Post := ⟨big3 l ∧ 0 ≤ k ∧ k ≤ 1099511627776, .c (.int .i64 (if k < (cost3 l : Int) then -1 else k - (cost3 l : Int))), []⟩
def szInt64SSS_ct : List AD → Option Post
  | [.c (.r3 .i64 (l)), .c (.int .i64 (k))] => some (szInt64SSS_p l k)
  | _ => none
def szInt64SSS_ann (l : List (List (List Int))) (k : Int) : Nat → Option Ann
  | 0 => some (Ann.mk ((Nat)) (fun i => ⟨[(0, .c (.ro (.r3 .i64 (l)))), (1, .c (.int .i64 (k - (l.length : Int) - (sumB cost2 (l.take i) : Int)))), (5, .c (.int .i64 ((i : Int))))], []⟩) (fun i => i ≤ l.length ∧ (l.length : Int) + (sumB cost2 (l.take i) : Int) ≤ k) (fun i => l.length - i) (fun _ => noAnn))
  | _ => none
def szInt64SSS_G : List (Nat × Ctr) := [(20, ⟨[], szInt64SS_ct⟩)]
def szInt64SSS_V (l : List (List (List Int))) (k : Int) : Prop :=
  ((InR (k - (↑(List.length l) : Int))) ∧
 (BrP (Decidable.decide (k - (↑(List.length l) : Int) < (0 : Int)))
 (((-1 : Int) = if k < (↑(cost3 l) : Int) then (-1 : Int) else k - (↑(cost3 l) : Int)) ∧
 (True))
 ((∃ x0 : Nat, (((x0 ≤ List.length l) ∧
 ((↑(List.length l) : Int) + (↑(sumB cost2 (List.take x0 l)) : Int) ≤ k)) ∧
 ((l = l) ∧
 ((k - (↑(List.length l) : Int) = k - (↑(List.length l) : Int) - (↑(sumB cost2 (List.take x0 l)) : Int)) ∧
 ((0 : Int) = (↑x0 : Int)))))) ∧
 (∀ x1 : Nat, (((x1 ≤ List.length l) ∧
 ((↑(List.length l) : Int) + (↑(sumB cost2 (List.take x1 l)) : Int) ≤ k)) →
 (BrP (Decidable.decide ((↑x1 : Int) < (↑(List.length l) : Int)))
 ((inB (↑x1 : Int) (List.length l)) ∧
 (((((↑(List.length (List.getD l (Int.toNat (↑x1 : Int)) ([] : List (List Int)))) : Int) ≤ (9223372036854775807 : Int)) ∧
 ((∀ (r : List Int), r ∈ List.getD l (Int.toNat (↑x1 : Int)) ([] : List (List Int)) → (↑(List.length r) : Int) ≤ (9223372036854775807 : Int)) ∧
 (((0 : Int) ≤ k - (↑(List.length l) : Int) - (↑(sumB cost2 (List.take x1 l)) : Int)) ∧
 (k - (↑(List.length l) : Int) - (↑(sumB cost2 (List.take x1 l)) : Int) ≤ (1099511627776 : Int))))) ∧
 (True)) ∧
 (BrP (Decidable.decide ((if k - (↑(List.length l) : Int) - (↑(sumB cost2 (List.take x1 l)) : Int) < (↑(List.length (List.getD l (Int.toNat (↑x1 : Int)) ([] : List (List Int)))) : Int) + (↑(sumL (List.getD l (Int.toNat (↑x1 : Int)) ([] : List (List Int)))) : Int) then (-1 : Int) else k - (↑(List.length l) : Int) - (↑(sumB cost2 (List.take x1 l)) : Int) - (↑(List.length (List.getD l (Int.toNat (↑x1 : Int)) ([] : List (List Int)))) : Int) - (↑(sumL (List.getD l (Int.toNat (↑x1 : Int)) ([] : List (List Int)))) : Int)) < (0 : Int)))
 (((-1 : Int) = if k < (↑(cost3 l) : Int) then (-1 : Int) else k - (↑(cost3 l) : Int)) ∧
 (True))
 ((InR ((↑x1 : Int) + (1 : Int))) ∧
 (∃ x2 : Nat, (((x2 ≤ List.length l) ∧
 ((↑(List.length l) : Int) + (↑(sumB cost2 (List.take x2 l)) : Int) ≤ k)) ∧
 ((List.length l - x2 < List.length l - x1) ∧
 ((l = l) ∧
 (((if k - (↑(List.length l) : Int) - (↑(sumB cost2 (List.take x1 l)) : Int) < (↑(List.length (List.getD l (Int.toNat (↑x1 : Int)) ([] : List (List Int)))) : Int) + (↑(sumL (List.getD l (Int.toNat (↑x1 : Int)) ([] : List (List Int)))) : Int) then (-1 : Int) else k - (↑(List.length l) : Int) - (↑(sumB cost2 (List.take x1 l)) : Int) - (↑(List.length (List.getD l (Int.toNat (↑x1 : Int)) ([] : List (List Int)))) : Int) - (↑(sumL (List.getD l (Int.toNat (↑x1 : Int)) ([] : List (List Int)))) : Int)) = k - (↑(List.length l) : Int) - (↑(sumB cost2 (List.take x2 l)) : Int)) ∧
 ((↑x1 : Int) + (1 : Int) = (↑x2 : Int)))))))))))
 ((k - (↑(List.length l) : Int) - (↑(sumB cost2 (List.take x1 l)) : Int) = if k < (↑(cost3 l) : Int) then (-1 : Int) else k - (↑(cost3 l) : Int)) ∧
 (True))))))))
theorem szInt64SSS_vc (l : List (List (List Int))) (k : Int) : runF Try.prog (gam szInt64SSS_G) noWr (szInt64SSS_ann l k) Try.f68 (bodyOf Try.f68) [] [.c (.r3 .i64 (l)), .c (.int .i64 (k))] (szInt64SSS_p l k) = szInt64SSS_V l k := by kernel_rfl
theorem szInt64SSS_ok (l : List (List (List Int))) (k : Int) (hpre : (szInt64SSS_p l k).pre) : szInt64SSS_V l k := by
  simp only [szInt64SSS_p, szInt64SSS_V, BrP_iff, true_and, and_true, decide_eq_true_eq, decide_eq_false_iff_not, bne_iff_ne, beq_iff_eq, bne_eq_false_iff_eq, beq_eq_false_iff_ne, Bool.not_eq_true, Bool.not_eq_false, Bool.not_true, Bool.not_false, Bool.not_eq_eq_eq_not, Int.toNat_natCast, List.length_append, List.length_take, List.length_replicate, List.length_set, List.length_map, List.length_drop, List.length_nil, List.length_cons, markL_length, inB, InR, room, bdsOk] at hpre ⊢
  obtain ⟨⟨h1, h2⟩, h3, h4⟩ := hpre
  have ec : (cost3 l : Int) = (l.length : Int) + (sumB cost2 l : Int) := by simp [cost3]
  refine ⟨by omega, fun h => by rw [if_pos (by omega)], fun h => ⟨⟨0, ⟨by omega, by simp [sumB]; omega⟩, by simp [sumB], rfl⟩, fun i ⟨hi, he⟩ => ⟨fun h => ?_, fun h => ?_⟩⟩⟩
  · have q1 := h2 _ (getD_mem l [] i (by omega))
    have q2 := sumB_take cost2 l [] i (by omega)
    have q3 := sumB_take_le cost2 l (i + 1)
    have q4 : (cost2 (l.getD i []) : Int) = ((l.getD i []).length : Int) + (sumL (l.getD i []) : Int) := by simp [cost2]
    refine ⟨by omega, ⟨q1.1, q1.2, by omega, by omega⟩, fun h5 => ?_, fun h5 => ?_⟩
    · split at h5
      · rw [if_pos (by omega)]
      · omega
    · split at h5
      · omega
      · rename_i h6
        rw [if_neg h6]
        exact ⟨by omega, i + 1, ⟨by omega, by omega⟩, by omega, by omega, by omega⟩
  · rw [List.take_of_length_le (by omega)] at he ⊢
    rw [if_neg (by omega)]
    omega
theorem szInt64SSS_fits : Fits Try.prog 68 ⟨[], szInt64SSS_ct⟩ := by
  refine fits_fn (Γ := gam szInt64SSS_G) (gok_cons szInt64SS_fits gok_nil) Try.func68 (by kernel_rfl) (by kernel_rfl) (by kernel_rfl) fun ds p h hp => ?_
  unfold szInt64SSS_ct at h
  split at h
  · cases h
    exact ⟨noWr, szInt64SSS_ann _ _ , by rw [szInt64SSS_vc]; exact szInt64SSS_ok _ _  hp⟩
  · cases h

def szInt64SSSS_p (l : List (List (List (List Int)))) (k : Int) : Post := ⟨big4 l ∧ 0 ≤ k ∧ k ≤ 1099511627776, .c (.int .i64 (if k < (cost4 l : Int) then -1 else k - (cost4 l : Int))), []⟩
def szInt64SSSS_ct : List AD → Option Post
  | [.c (.r4 .i64 (l)), .c (.int .i64 (k))] => some (szInt64SSSS_p l k)
  | _ => none
def szInt64SSSS_ann (l : List (List (List (List Int)))) (k : Int) : Nat → Option Ann
  | 0 => some (Ann.mk ((Nat)) (fun i => ⟨[(0, .c (.ro (.r4 .i64 (l)))), (1, .c (.int .i64 (k - (l.length : Int) - (sumB cost3 (l.take i) : Int)))), (5, .c (.int .i64 ((i : Int))))], []⟩) (fun i => i ≤ l.length ∧ (l.length : Int) + (sumB cost3 (l.take i) : Int) ≤ k) (fun i => l.length - i) (fun _ => noAnn))
  | _ => none
def szInt64SSSS_G : List (Nat × Ctr) := [(68, ⟨[], szInt64SSS_ct⟩)]
def szInt64SSSS_V (l : List (List (List (List Int)))) (k : Int) : Prop :=
  ((InR (k - (↑(List.length l) : Int))) ∧
 (BrP (Decidable.decide (k - (↑(List.length l) : Int) < (0 : Int)))
 (((-1 : Int) = if k < (↑(cost4 l) : Int) then (-1 : Int) else k - (↑(cost4 l) : Int)) ∧
 (True))
 ((∃ x0 : Nat, (((x0 ≤ List.length l) ∧
 ((↑(List.length l) : Int) + (↑(sumB cost3 (List.take x0 l)) : Int) ≤ k)) ∧
 ((l = l) ∧
 ((k - (↑(List.length l) : Int) = k - (↑(List.length l) : Int) - (↑(sumB cost3 (List.take x0 l)) : Int)) ∧
 ((0 : Int) = (↑x0 : Int)))))) ∧
 (∀ x1 : Nat, (((x1 ≤ List.length l) ∧
 ((↑(List.length l) : Int) + (↑(sumB cost3 (List.take x1 l)) : Int) ≤ k)) →
 (BrP (Decidable.decide ((↑x1 : Int) < (↑(List.length l) : Int)))
 ((inB (↑x1 : Int) (List.length l)) ∧
 ((((big3 (List.getD l (Int.toNat (↑x1 : Int)) ([] : List (List (List Int))))) ∧
 (((0 : Int) ≤ k - (↑(List.length l) : Int) - (↑(sumB cost3 (List.take x1 l)) : Int)) ∧
 (k - (↑(List.length l) : Int) - (↑(sumB cost3 (List.take x1 l)) : Int) ≤ (1099511627776 : Int)))) ∧
 (True)) ∧
 (BrP (Decidable.decide ((if k - (↑(List.length l) : Int) - (↑(sumB cost3 (List.take x1 l)) : Int) < (↑(cost3 (List.getD l (Int.toNat (↑x1 : Int)) ([] : List (List (List Int))))) : Int) then (-1 : Int) else k - (↑(List.length l) : Int) - (↑(sumB cost3 (List.take x1 l)) : Int) - (↑(cost3 (List.getD l (Int.toNat (↑x1 : Int)) ([] : List (List (List Int))))) : Int)) < (0 : Int)))
 (((-1 : Int) = if k < (↑(cost4 l) : Int) then (-1 : Int) else k - (↑(cost4 l) : Int)) ∧
 (True))
 ((InR ((↑x1 : Int) + (1 : Int))) ∧
 (∃ x2 : Nat, (((x2 ≤ List.length l) ∧
 ((↑(List.length l) : Int) + (↑(sumB cost3 (List.take x2 l)) : Int) ≤ k)) ∧
 ((List.length l - x2 < List.length l - x1) ∧
 ((l = l) ∧
 (((if k - (↑(List.length l) : Int) - (↑(sumB cost3 (List.take x1 l)) : Int) < (↑(cost3 (List.getD l (Int.toNat (↑x1 : Int)) ([] : List (List (List Int))))) : Int) then (-1 : Int) else k - (↑(List.length l) : Int) - (↑(sumB cost3 (List.take x1 l)) : Int) - (↑(cost3 (List.getD l (Int.toNat (↑x1 : Int)) ([] : List (List (List Int))))) : Int)) = k - (↑(List.length l) : Int) - (↑(sumB cost3 (List.take x2 l)) : Int)) ∧
 ((↑x1 : Int) + (1 : Int) = (↑x2 : Int)))))))))))
 ((k - (↑(List.length l) : Int) - (↑(sumB cost3 (List.take x1 l)) : Int) = if k < (↑(cost4 l) : Int) then (-1 : Int) else k - (↑(cost4 l) : Int)) ∧
 (True))))))))
theorem szInt64SSSS_vc (l : List (List (List (List Int)))) (k : Int) : runF Try.prog (gam szInt64SSSS_G) noWr (szInt64SSSS_ann l k) Try.f31 (bodyOf Try.f31) [] [.c (.r4 .i64 (l)), .c (.int .i64 (k))] (szInt64SSSS_p l k) = szInt64SSSS_V l k := by kernel_rfl
theorem szInt64SSSS_ok (l : List (List (List (List Int)))) (k : Int) (hpre : (szInt64SSSS_p l k).pre) : szInt64SSSS_V l k := by
  simp only [szInt64SSSS_p, szInt64SSSS_V, BrP_iff, true_and, and_true, decide_eq_true_eq, decide_eq_false_iff_not, bne_iff_ne, beq_iff_eq, bne_eq_false_iff_eq, beq_eq_false_iff_ne, Bool.not_eq_true, Bool.not_eq_false, Bool.not_true, Bool.not_false, Bool.not_eq_eq_eq_not, Int.toNat_natCast, List.length_append, List.length_take, List.length_replicate, List.length_set, List.length_map, List.length_drop, List.length_nil, List.length_cons, markL_length, inB, InR, room, bdsOk] at hpre ⊢
  obtain ⟨⟨h1, h2⟩, h3, h4⟩ := hpre
  have ec : (cost4 l : Int) = (l.length : Int) + (sumB cost3 l : Int) := by simp [cost4]
  refine ⟨by omega, fun h => by rw [if_pos (by omega)], fun h => ⟨⟨0, ⟨by omega, by simp [sumB]; omega⟩, by simp [sumB], rfl⟩, fun i ⟨hi, he⟩ => ⟨fun h => ?_, fun h => ?_⟩⟩⟩
  · have q1 := h2 _ (getD_mem l [] i (by omega))
    have q2 := sumB_take cost3 l [] i (by omega)
    have q3 := sumB_take_le cost3 l (i + 1)
    refine ⟨by omega, ⟨q1, by omega, by omega⟩, fun h5 => ?_, fun h5 => ?_⟩
    · split at h5
      · rw [if_pos (by omega)]
      · omega
    · split at h5
      · omega
      · rename_i h6
        rw [if_neg h6]
        exact ⟨by omega, i + 1, ⟨by omega, by omega⟩, by omega, by omega, by omega⟩
  · rw [List.take_of_length_le (by omega)] at he ⊢
    rw [if_neg (by omega)]
    omega
theorem szInt64SSSS_fits : Fits Try.prog 31 ⟨[], szInt64SSSS_ct⟩ := by
  refine fits_fn (Γ := gam szInt64SSSS_G) (gok_cons szInt64SSS_fits gok_nil) Try.func31 (by kernel_rfl) (by kernel_rfl) (by kernel_rfl) fun ds p h hp => ?_
  unfold szInt64SSSS_ct at h
  split at h
  · cases h
    exact ⟨noWr, szInt64SSSS_ann _ _ , by rw [szInt64SSSS_vc]; exact szInt64SSSS_ok _ _  hp⟩
  · cases h

def toInt64SSS_p (l : List (List (List Int))) : Post := ⟨room3 l, .c (.tr [24, 41, 2] (.r3 .i64 (l))), []⟩
def toInt64SSS_ct : List AD → Option Post
  | [.c (.r3 .i64 (l))] => some (toInt64SSS_p l)
  | _ => none
def toInt64SSS_ann (l : List (List (List Int))) : Nat → Option Ann
  | 0 => some (Ann.mk ((Nat)) (fun i => ⟨[(0, .c (.ro (.r3 .i64 (l)))), (4, .c (.int .i64 ((i : Int)))), (3, .c (.own (7)))], [(7, some (.tr 0 [24, 41, 2] (.r3 .i64 (l.take i ++ List.replicate (l.length - i) []))))]⟩) (fun i => i ≤ l.length) (fun i => l.length - i) (fun _ => noAnn))
  | _ => none
def toInt64SSS_G : List (Nat × Ctr) := [(23, ⟨[], toInt64SS_ct⟩)]
def toInt64SSS_V (l : List (List (List Int))) : Prop :=
  ((((0 : Int) ≤ (↑(List.length l) : Int)) ∧
 (((↑(List.length l) : Int) ≤ (↑(List.length l) : Int)) ∧
 (room (Int.toNat (↑(List.length l) : Int))))) ∧
 ((∃ x0 : Nat, ((x0 ≤ List.length l) ∧
 ((l = l) ∧
 (((0 : Int) = (↑x0 : Int)) ∧
 (List.replicate (Int.toNat (↑(List.length l) : Int)) ([] : List (List Int)) = List.take x0 l ++ List.replicate (List.length l - x0) ([] : List (List Int))))))) ∧
 (∀ x1 : Nat, ((x1 ≤ List.length l) →
 (BrP (Decidable.decide ((↑x1 : Int) < (↑(List.length l) : Int)))
 ((inB (↑x1 : Int) (List.length l)) ∧
 (((roomR (List.getD l (Int.toNat (↑x1 : Int)) ([] : List (List Int)))) ∧
 (True)) ∧
 ((inB (↑x1 : Int) (FC.len (FC.r3 IntKind.i64 (List.take x1 l ++ List.replicate (List.length l - x1) ([] : List (List Int)))))) ∧
 ((InR ((↑x1 : Int) + (1 : Int))) ∧
 (∃ x2 : Nat, ((x2 ≤ List.length l) ∧
 ((List.length l - x2 < List.length l - x1) ∧
 ((l = l) ∧
 (((↑x1 : Int) + (1 : Int) = (↑x2 : Int)) ∧
 (List.set (List.take x1 l ++ List.replicate (List.length l - x1) ([] : List (List Int))) (Int.toNat (↑x1 : Int)) (List.getD l (Int.toNat (↑x1 : Int)) ([] : List (List Int))) = List.take x2 l ++ List.replicate (List.length l - x2) ([] : List (List Int))))))))))))
 ((List.take x1 l ++ List.replicate (List.length l - x1) ([] : List (List Int)) = l) ∧
 (True)))))))
theorem toInt64SSS_vc (l : List (List (List Int))) : runF Try.prog (gam toInt64SSS_G) noWr (toInt64SSS_ann l) Try.f69 (bodyOf Try.f69) [] [.c (.r3 .i64 (l))] (toInt64SSS_p l) = toInt64SSS_V l := by kernel_rfl
theorem toInt64SSS_ok (l : List (List (List Int))) (hpre : (toInt64SSS_p l).pre) : toInt64SSS_V l := by
  simp only [toInt64SSS_p, toInt64SSS_V, BrP_iff, true_and, and_true, decide_eq_true_eq, decide_eq_false_iff_not, bne_iff_ne, beq_iff_eq, bne_eq_false_iff_eq, beq_eq_false_iff_ne, Bool.not_eq_true, Bool.not_eq_false, Bool.not_true, Bool.not_false, Bool.not_eq_eq_eq_not, Int.toNat_natCast, List.length_append, List.length_take, List.length_replicate, List.length_set, List.length_map, List.length_drop, List.length_nil, List.length_cons, markL_length, inB, InR, room, bdsOk, FC.len] at hpre ⊢
  have h1 := hpre.1
  exact ⟨by omega, ⟨0, by omega, by simp, by simp⟩, fun i hi => ⟨fun h => ⟨by omega, room3_get hpre i (by omega), by omega, by omega, i + 1, by omega, by omega, by omega, fill_step l [] [] i (by omega)⟩, fun h => fill_end l [] i (by omega)⟩⟩
theorem toInt64SSS_fits : Fits Try.prog 69 ⟨[], toInt64SSS_ct⟩ := by
  refine fits_fn (Γ := gam toInt64SSS_G) (gok_cons toInt64SS_fits gok_nil) Try.func69 (by kernel_rfl) (by kernel_rfl) (by kernel_rfl) fun ds p h hp => ?_
  unfold toInt64SSS_ct at h
  split at h
  · cases h
    exact ⟨noWr, toInt64SSS_ann _ , by rw [toInt64SSS_vc]; exact toInt64SSS_ok _  hp⟩
  · cases h

def toInt64SSSS_p (l : List (List (List (List Int)))) : Post := ⟨room4 l, .c (.tr [59, 24, 41, 2] (.r4 .i64 (l))), []⟩
def toInt64SSSS_ct : List AD → Option Post
  | [.c (.r4 .i64 (l))] => some (toInt64SSSS_p l)
  | _ => none
def toInt64SSSS_ann (l : List (List (List (List Int)))) : Nat → Option Ann
  | 0 => some (Ann.mk ((Nat)) (fun i => ⟨[(0, .c (.ro (.r4 .i64 (l)))), (4, .c (.int .i64 ((i : Int)))), (3, .c (.own (7)))], [(7, some (.tr 0 [59, 24, 41, 2] (.r4 .i64 (l.take i ++ List.replicate (l.length - i) []))))]⟩) (fun i => i ≤ l.length) (fun i => l.length - i) (fun _ => noAnn))
  | _ => none
def toInt64SSSS_G : List (Nat × Ctr) := [(69, ⟨[], toInt64SSS_ct⟩)]
def toInt64SSSS_V (l : List (List (List (List Int)))) : Prop :=
  ((((0 : Int) ≤ (↑(List.length l) : Int)) ∧
 (((↑(List.length l) : Int) ≤ (↑(List.length l) : Int)) ∧
 (room (Int.toNat (↑(List.length l) : Int))))) ∧
 ((∃ x0 : Nat, ((x0 ≤ List.length l) ∧
 ((l = l) ∧
 (((0 : Int) = (↑x0 : Int)) ∧
 (List.replicate (Int.toNat (↑(List.length l) : Int)) ([] : List (List (List Int))) = List.take x0 l ++ List.replicate (List.length l - x0) ([] : List (List (List Int)))))))) ∧
 (∀ x1 : Nat, ((x1 ≤ List.length l) →
 (BrP (Decidable.decide ((↑x1 : Int) < (↑(List.length l) : Int)))
 ((inB (↑x1 : Int) (List.length l)) ∧
 (((room3 (List.getD l (Int.toNat (↑x1 : Int)) ([] : List (List (List Int))))) ∧
 (True)) ∧
 ((inB (↑x1 : Int) (FC.len (FC.r4 IntKind.i64 (List.take x1 l ++ List.replicate (List.length l - x1) ([] : List (List (List Int))))))) ∧
 ((InR ((↑x1 : Int) + (1 : Int))) ∧
 (∃ x2 : Nat, ((x2 ≤ List.length l) ∧
 ((List.length l - x2 < List.length l - x1) ∧
 ((l = l) ∧
 (((↑x1 : Int) + (1 : Int) = (↑x2 : Int)) ∧
 (List.set (List.take x1 l ++ List.replicate (List.length l - x1) ([] : List (List (List Int)))) (Int.toNat (↑x1 : Int)) (List.getD l (Int.toNat (↑x1 : Int)) ([] : List (List (List Int)))) = List.take x2 l ++ List.replicate (List.length l - x2) ([] : List (List (List Int)))))))))))))
 ((List.take x1 l ++ List.replicate (List.length l - x1) ([] : List (List (List Int))) = l) ∧
 (True)))))))
theorem toInt64SSSS_vc (l : List (List (List (List Int)))) : runF Try.prog (gam toInt64SSSS_G) noWr (toInt64SSSS_ann l) Try.f32 (bodyOf Try.f32) [] [.c (.r4 .i64 (l))] (toInt64SSSS_p l) = toInt64SSSS_V l := by kernel_rfl
theorem toInt64SSSS_ok (l : List (List (List (List Int)))) (hpre : (toInt64SSSS_p l).pre) : toInt64SSSS_V l := by
  simp only [toInt64SSSS_p, toInt64SSSS_V, BrP_iff, true_and, and_true, decide_eq_true_eq, decide_eq_false_iff_not, bne_iff_ne, beq_iff_eq, bne_eq_false_iff_eq, beq_eq_false_iff_ne, Bool.not_eq_true, Bool.not_eq_false, Bool.not_true, Bool.not_false, Bool.not_eq_eq_eq_not, Int.toNat_natCast, List.length_append, List.length_take, List.length_replicate, List.length_set, List.length_map, List.length_drop, List.length_nil, List.length_cons, markL_length, inB, InR, room, bdsOk, FC.len] at hpre ⊢
  have h1 := hpre.1
  exact ⟨by omega, ⟨0, by omega, by simp, by simp⟩, fun i hi => ⟨fun h => ⟨by omega, room4_get hpre i (by omega), by omega, by omega, i + 1, by omega, by omega, by omega, fill_step l [] [] i (by omega)⟩, fun h => fill_end l [] i (by omega)⟩⟩
theorem toInt64SSSS_fits : Fits Try.prog 32 ⟨[], toInt64SSSS_ct⟩ := by
  refine fits_fn (Γ := gam toInt64SSSS_G) (gok_cons toInt64SSS_fits gok_nil) Try.func32 (by kernel_rfl) (by kernel_rfl) (by kernel_rfl) fun ds p h hp => ?_
  unfold toInt64SSSS_ct at h
  split at h
  · cases h
    exact ⟨noWr, toInt64SSSS_ann _ , by rw [toInt64SSSS_vc]; exact toInt64SSSS_ok _  hp⟩
  · cases h

def eqInt64SSS_p (a : List (List (List Int))) (b : List (List (List Int))) : Post := ⟨room3 a, .c (.bool (decide (a = b))), []⟩
def eqInt64SSS_ct : List AD → Option Post
  | [.c (.r3 .i64 (a)), .c (.r3 .i64 (b))] => some (eqInt64SSS_p a b)
  | _ => none
def eqInt64SSS_ann (a : List (List (List Int))) (b : List (List (List Int))) : Nat → Option Ann
  | 0 => some (Ann.mk ((Nat)) (fun i => ⟨[(0, .c (.ro (.r3 .i64 (a)))), (1, .c (.ro (.r3 .i64 (b)))), (5, .c (.int .i64 ((i : Int))))], []⟩) (fun i => i ≤ a.length ∧ a.length = b.length ∧ a.take i = b.take i) (fun i => a.length - i) (fun _ => noAnn))
  | _ => none
def eqInt64SSS_G : List (Nat × Ctr) := [(26, ⟨[], eqInt64SS_ct⟩)]
def eqInt64SSS_V (a : List (List (List Int))) (b : List (List (List Int))) : Prop :=
  (BrP ((↑(List.length a) : Int) != (↑(List.length b) : Int))
 ((Bool.false = Decidable.decide (a = b)) ∧
 (True))
 ((∃ x0 : Nat, (((x0 ≤ List.length a) ∧
 ((List.length a = List.length b) ∧
 (List.take x0 a = List.take x0 b))) ∧
 ((a = a) ∧
 ((b = b) ∧
 ((0 : Int) = (↑x0 : Int)))))) ∧
 (∀ x1 : Nat, (((x1 ≤ List.length a) ∧
 ((List.length a = List.length b) ∧
 (List.take x1 a = List.take x1 b))) →
 (BrP (Decidable.decide ((↑x1 : Int) < (↑(List.length a) : Int)))
 ((inB (↑x1 : Int) (List.length a)) ∧
 ((inB (↑x1 : Int) (List.length b)) ∧
 (((roomR (List.getD a (Int.toNat (↑x1 : Int)) ([] : List (List Int)))) ∧
 (True)) ∧
 (BrP (!Decidable.decide (List.getD a (Int.toNat (↑x1 : Int)) ([] : List (List Int)) = List.getD b (Int.toNat (↑x1 : Int)) ([] : List (List Int))))
 ((Bool.false = Decidable.decide (a = b)) ∧
 (True))
 ((InR ((↑x1 : Int) + (1 : Int))) ∧
 (∃ x2 : Nat, (((x2 ≤ List.length a) ∧
 ((List.length a = List.length b) ∧
 (List.take x2 a = List.take x2 b))) ∧
 ((List.length a - x2 < List.length a - x1) ∧
 ((a = a) ∧
 ((b = b) ∧
 ((↑x1 : Int) + (1 : Int) = (↑x2 : Int))))))))))))
 ((Bool.true = Decidable.decide (a = b)) ∧
 (True)))))))
theorem eqInt64SSS_vc (a : List (List (List Int))) (b : List (List (List Int))) : runF Try.prog (gam eqInt64SSS_G) noWr (eqInt64SSS_ann a b) Try.f63 (bodyOf Try.f63) [] [.c (.r3 .i64 (a)), .c (.r3 .i64 (b))] (eqInt64SSS_p a b) = eqInt64SSS_V a b := by kernel_rfl
theorem eqInt64SSS_ok (a : List (List (List Int))) (b : List (List (List Int))) (hpre : (eqInt64SSS_p a b).pre) : eqInt64SSS_V a b := by
  simp only [eqInt64SSS_p, eqInt64SSS_V, BrP_iff, true_and, and_true, decide_eq_true_eq, decide_eq_false_iff_not, bne_iff_ne, beq_iff_eq, bne_eq_false_iff_eq, beq_eq_false_iff_ne, Bool.not_eq_true, Bool.not_eq_false, Bool.not_true, Bool.not_false, Bool.not_eq_eq_eq_not, Int.toNat_natCast, List.length_append, List.length_take, List.length_replicate, List.length_set, List.length_map, List.length_drop, List.length_nil, List.length_cons, markL_length, inB, InR, room, bdsOk] at hpre ⊢
  have h0 := hpre.1
  refine ⟨fun h => ?_, fun h => ⟨⟨0, ⟨by omega, by omega, rfl⟩, by simp⟩, fun i hi => ⟨fun h1 => ⟨by omega, by omega, room3_get hpre i (by omega), fun h2 => ?_, fun h2 => ⟨by omega, i + 1, ⟨by omega, hi.2.1, ?_⟩, by omega, by omega⟩⟩, fun h1 => ?_⟩⟩⟩
  · exact (decide_eq_false fun e => h (by rw [e])).symm
  · exact (decide_eq_false fun e => h2 (by rw [e])).symm
  · exact (take_eq_step a b [] i (by omega) (by omega) hi.2.2).2 h2
  · refine (decide_eq_true ?_).symm
    have := hi.2.2
    rwa [List.take_of_length_le (by omega), List.take_of_length_le (by omega)] at this
theorem eqInt64SSS_fits : Fits Try.prog 63 ⟨[], eqInt64SSS_ct⟩ := by
  refine fits_fn (Γ := gam eqInt64SSS_G) (gok_cons eqInt64SS_fits gok_nil) Try.func63 (by kernel_rfl) (by kernel_rfl) (by kernel_rfl) fun ds p h hp => ?_
  unfold eqInt64SSS_ct at h
  split at h
  · cases h
    exact ⟨noWr, eqInt64SSS_ann _ _ , by rw [eqInt64SSS_vc]; exact eqInt64SSS_ok _ _  hp⟩
  · cases h

def eqInt64SSSS_p (a : List (List (List (List Int)))) (b : List (List (List (List Int)))) : Post := ⟨room4 a, .c (.bool (decide (a = b))), []⟩
def eqInt64SSSS_ct : List AD → Option Post
  | [.c (.r4 .i64 (a)), .c (.r4 .i64 (b))] => some (eqInt64SSSS_p a b)
  | _ => none
def eqInt64SSSS_ann (a : List (List (List (List Int)))) (b : List (List (List (List Int)))) : Nat → Option Ann
  | 0 => some (Ann.mk ((Nat)) (fun i => ⟨[(0, .c (.ro (.r4 .i64 (a)))), (1, .c (.ro (.r4 .i64 (b)))), (5, .c (.int .i64 ((i : Int))))], []⟩) (fun i => i ≤ a.length ∧ a.length = b.length ∧ a.take i = b.take i) (fun i => a.length - i) (fun _ => noAnn))
  | _ => none
def eqInt64SSSS_G : List (Nat × Ctr) := [(63, ⟨[], eqInt64SSS_ct⟩)]
def eqInt64SSSS_V (a : List (List (List (List Int)))) (b : List (List (List (List Int)))) : Prop :=
  (BrP ((↑(List.length a) : Int) != (↑(List.length b) : Int))
 ((Bool.false = Decidable.decide (a = b)) ∧
 (True))
 ((∃ x0 : Nat, (((x0 ≤ List.length a) ∧
 ((List.length a = List.length b) ∧
 (List.take x0 a = List.take x0 b))) ∧
 ((a = a) ∧
 ((b = b) ∧
 ((0 : Int) = (↑x0 : Int)))))) ∧
 (∀ x1 : Nat, (((x1 ≤ List.length a) ∧
 ((List.length a = List.length b) ∧
 (List.take x1 a = List.take x1 b))) →
 (BrP (Decidable.decide ((↑x1 : Int) < (↑(List.length a) : Int)))
 ((inB (↑x1 : Int) (List.length a)) ∧
 ((inB (↑x1 : Int) (List.length b)) ∧
 (((room3 (List.getD a (Int.toNat (↑x1 : Int)) ([] : List (List (List Int))))) ∧
 (True)) ∧
 (BrP (!Decidable.decide (List.getD a (Int.toNat (↑x1 : Int)) ([] : List (List (List Int))) = List.getD b (Int.toNat (↑x1 : Int)) ([] : List (List (List Int)))))
 ((Bool.false = Decidable.decide (a = b)) ∧
 (True))
 ((InR ((↑x1 : Int) + (1 : Int))) ∧
 (∃ x2 : Nat, (((x2 ≤ List.length a) ∧
 ((List.length a = List.length b) ∧
 (List.take x2 a = List.take x2 b))) ∧
 ((List.length a - x2 < List.length a - x1) ∧
 ((a = a) ∧
 ((b = b) ∧
 ((↑x1 : Int) + (1 : Int) = (↑x2 : Int))))))))))))
 ((Bool.true = Decidable.decide (a = b)) ∧
 (True)))))))
theorem eqInt64SSSS_vc (a : List (List (List (List Int)))) (b : List (List (List (List Int)))) : runF Try.prog (gam eqInt64SSSS_G) noWr (eqInt64SSSS_ann a b) Try.f24 (bodyOf Try.f24) [] [.c (.r4 .i64 (a)), .c (.r4 .i64 (b))] (eqInt64SSSS_p a b) = eqInt64SSSS_V a b := by kernel_rfl
theorem eqInt64SSSS_ok (a : List (List (List (List Int)))) (b : List (List (List (List Int)))) (hpre : (eqInt64SSSS_p a b).pre) : eqInt64SSSS_V a b := by
  simp only [eqInt64SSSS_p, eqInt64SSSS_V, BrP_iff, true_and, and_true, decide_eq_true_eq, decide_eq_false_iff_not, bne_iff_ne, beq_iff_eq, bne_eq_false_iff_eq, beq_eq_false_iff_ne, Bool.not_eq_true, Bool.not_eq_false, Bool.not_true, Bool.not_false, Bool.not_eq_eq_eq_not, Int.toNat_natCast, List.length_append, List.length_take, List.length_replicate, List.length_set, List.length_map, List.length_drop, List.length_nil, List.length_cons, markL_length, inB, InR, room, bdsOk] at hpre ⊢
  have h0 := hpre.1
  refine ⟨fun h => ?_, fun h => ⟨⟨0, ⟨by omega, by omega, rfl⟩, by simp⟩, fun i hi => ⟨fun h1 => ⟨by omega, by omega, room4_get hpre i (by omega), fun h2 => ?_, fun h2 => ⟨by omega, i + 1, ⟨by omega, hi.2.1, ?_⟩, by omega, by omega⟩⟩, fun h1 => ?_⟩⟩⟩
  · exact (decide_eq_false fun e => h (by rw [e])).symm
  · exact (decide_eq_false fun e => h2 (by rw [e])).symm
  · exact (take_eq_step a b [] i (by omega) (by omega) hi.2.2).2 h2
  · refine (decide_eq_true ?_).symm
    have := hi.2.2
    rwa [List.take_of_length_le (by omega), List.take_of_length_le (by omega)] at this
theorem eqInt64SSSS_fits : Fits Try.prog 24 ⟨[], eqInt64SSSS_ct⟩ := by
  refine fits_fn (Γ := gam eqInt64SSSS_G) (gok_cons eqInt64SSS_fits gok_nil) Try.func24 (by kernel_rfl) (by kernel_rfl) (by kernel_rfl) fun ds p h hp => ?_
  unfold eqInt64SSSS_ct at h
  split at h
  · cases h
    exact ⟨noWr, eqInt64SSSS_ann _ _ , by rw [eqInt64SSSS_vc]; exact eqInt64SSSS_ok _ _  hp⟩
  · cases h

/-- Marks, one part behind the other. -/
def markG {α : Type} (f : α → Int → α) (c : α → Nat) : List α → Int → List α
  | [], _ => []
  | x :: l, k => f x k :: markG f c l (k + (c x : Int))

section
variable {α : Type} {f : α → Int → α} {c : α → Nat}

theorem markG_length : ∀ (l : List α) (k : Int), (markG f c l k).length = l.length
  | [], _ => rfl
  | r :: l, k => by simp [markG, markG_length l]

theorem markG_append : ∀ (a b : List α) (k : Int), markG f c (a ++ b) k = markG f c a k ++ markG f c b (k + (sumB c a : Int))
  | [], b, k => by simp [markG, sumB]
  | r :: a, b, k => by
    simp only [List.cons_append, markG, markG_append a b, sumB, List.map_cons, List.sum_cons]
    rw [show k + ((c r + (a.map c).sum : Nat) : Int) = k + (c r : Int) + ((a.map c).sum : Int) by omega]

theorem markG_take (l : List α) (z : α) (k : Int) (i : Nat) (h : i < l.length) : markG f c (l.take (i + 1)) k = markG f c (l.take i) k ++ [f (l.getD i z) (k + (sumB c (l.take i) : Int))] := by
  rw [← take_snoc l z i h, markG_append]; rfl

theorem markG_getD (l : List α) (z : α) (k : Int) (i : Nat) (h : i < l.length) : (markG f c l k).getD i z = f (l.getD i z) (k + (sumB c (l.take i) : Int)) := by
  have hl : (markG f c (l.take i) k).length = i := by rw [markG_length, List.length_take]; omega
  conv => lhs; rw [← List.take_append_drop (i + 1) l]
  rw [markG_append, markG_take l z k i h, List.append_assoc, getD_append_right' _ _ _ _ (by omega), hl, Nat.sub_self]
  rfl

theorem markG_sum (hc : ∀ x k, c (f x k) = c x) : ∀ (l : List α) (k : Int), sumB c (markG f c l k) = sumB c l
  | [], _ => rfl
  | r :: l, k => by
    have := markG_sum hc l (k + (c r : Int))
    simp only [sumB, markG, List.map_cons, List.sum_cons, hc] at this ⊢
    rw [this]

theorem markG_mark (hf : ∀ x k, f (f x k) k = f x k) (hc : ∀ x k, c (f x k) = c x) : ∀ (l : List α) (k : Int), markG f c (markG f c l k) k = markG f c l k
  | [], _ => rfl
  | r :: l, k => by simp only [markG, hf, hc, markG_mark hf hc l]

/-- One part more. -/
theorem markG_step (l : List α) (z : α) (k : Int) (i : Nat) (h : i < l.length) :
    (markG f c (l.take i) k ++ l.drop i).getD i z = l.getD i z ∧
    (markG f c (l.take i) k ++ l.drop i).set i (f (l.getD i z) (k + (sumB c (l.take i) : Int))) = markG f c (l.take (i + 1)) k ++ l.drop (i + 1) := by
  have hlen : (markG f c (l.take i) k).length = i := by rw [markG_length, List.length_take]; omega
  constructor
  · rw [getD_append_right' _ _ _ _ (by omega), hlen, drop_getD]; simp
  · rw [markG_take l z k i h, List.set_append_right _ _ (by omega), hlen, Nat.sub_self, drop_cons' l z i h, List.set_cons_zero]
    simp

end

def mark3 : List (List (List Int)) → Int → List (List (List Int)) := markG markR sumL
def mark4 : List (List (List (List Int))) → Int → List (List (List (List Int))) := markG mark3 tot3

theorem mark3_length (l : List (List (List Int))) (k : Int) : (mark3 l k).length = l.length := markG_length l k
theorem mark4_length (l : List (List (List (List Int)))) (k : Int) : (mark4 l k).length = l.length := markG_length l k
theorem mark3_tot (l : List (List (List Int))) (k : Int) : tot3 (mark3 l k) = tot3 l := markG_sum (fun x k => markR_sum x k) l k
theorem mark4_tot (l : List (List (List (List Int)))) (k : Int) : tot4 (mark4 l k) = tot4 l := markG_sum (fun x k => mark3_tot x k) l k
theorem mark3_mark (l : List (List (List Int))) (k : Int) : mark3 (mark3 l k) k = mark3 l k := markG_mark markR_mark markR_sum l k
theorem mark4_mark (l : List (List (List (List Int)))) (k : Int) : mark4 (mark4 l k) k = mark4 l k := markG_mark mark3_mark mark3_tot l k

theorem markG_mem {α : Type} {f : α → Int → α} {c : α → Nat} {l : List α} {k : Int} {y : α} (h : y ∈ markG f c l k) : ∃ x ∈ l, ∃ j, y = f x j := by
  induction l generalizing k with
  | nil => simp [markG] at h
  | cons x l ih =>
    rcases List.mem_cons.1 h with rfl | h
    · exact ⟨x, by simp, k, rfl⟩
    · obtain ⟨z, h1, h2⟩ := ih h
      exact ⟨z, by simp [h1], h2⟩

theorem fit3_mark {l : List (List (List Int))} (h : fit3 l) (k : Int) : fit3 (mark3 l k) := ⟨by rw [mark3_length]; exact h.1, fun r hr => by
  obtain ⟨x, hx, j, rfl⟩ := markG_mem hr
  rw [markR_length]; exact h.2 x hx⟩

theorem fit4_mark {l : List (List (List (List Int)))} (h : fit4 l) (k : Int) : fit4 (mark4 l k) := ⟨by rw [mark4_length]; exact h.1, fun r hr => by
  obtain ⟨x, hx, j, rfl⟩ := markG_mem hr
  exact fit3_mark (h.2 x hx) j⟩

def markT1_p (l : List Int) (k : Int) : Post := ⟨room l.length ∧ 0 ≤ k ∧ k ≤ 1099511627776, .c (.int .i64 (k + (l.length : Int))), [.tr [2] (.ints .i64 (markL k l.length))]⟩
def markT1_ct : List AD → Option Post
  | [.c (.ints .i64 (l)), .c (.int .i64 (k))] => some (markT1_p l k)
  | _ => none
def markT1_ann (l : List Int) (k : Int) : Nat → Option Ann
  | 0 => some (Ann.mk ((Nat)) (fun i => ⟨[(0, .c (.own (700))), (1, .c (.int .i64 (k + (i : Int)))), (5, .c (.int .i64 ((i : Int))))], [(700, some (.tr 0 [2] (.ints .i64 ((markL k l.length).take i ++ l.drop i))))]⟩) (fun i => i ≤ l.length) (fun i => l.length - i) (fun _ => noAnn))
  | _ => none
def markT1_G : List (Nat × Ctr) := []
def markT1_V (l : List Int) (k : Int) : Prop :=
  ((∃ x0 : Nat, ((x0 ≤ List.length l) ∧
 ((k = k + (↑x0 : Int)) ∧
 (((0 : Int) = (↑x0 : Int)) ∧
 (l = List.take x0 (markL k (List.length l)) ++ List.drop x0 l))))) ∧
 (∀ x1 : Nat, ((x1 ≤ List.length l) →
 (BrP (Decidable.decide ((↑x1 : Int) < (↑(FC.len (FC.ints IntKind.i64 (List.take x1 (markL k (List.length l)) ++ List.drop x1 l))) : Int)))
 ((inB (↑x1 : Int) (FC.len (FC.ints IntKind.i64 (List.take x1 (markL k (List.length l)) ++ List.drop x1 l)))) ∧
 ((InR (k + (↑x1 : Int) + (1 : Int))) ∧
 ((InR ((↑x1 : Int) + (1 : Int))) ∧
 (∃ x2 : Nat, ((x2 ≤ List.length l) ∧
 ((List.length l - x2 < List.length l - x1) ∧
 ((k + (↑x1 : Int) + (1 : Int) = k + (↑x2 : Int)) ∧
 (((↑x1 : Int) + (1 : Int) = (↑x2 : Int)) ∧
 (List.set (List.take x1 (markL k (List.length l)) ++ List.drop x1 l) (Int.toNat (↑x1 : Int)) (k + (↑x1 : Int)) = List.take x2 (markL k (List.length l)) ++ List.drop x2 l)))))))))
 ((k + (↑x1 : Int) = k + (↑(List.length l) : Int)) ∧
 ((List.take x1 (markL k (List.length l)) ++ List.drop x1 l = markL k (List.length l)) ∧
 (True)))))))
theorem markT1_vc (l : List Int) (k : Int) : runF Try.prog (gam markT1_G) noWr (markT1_ann l k) Try.f65 (bodyOf Try.f65) [(0, 0)] [.c (.ints .i64 (l)), .c (.int .i64 (k))] (markT1_p l k) = markT1_V l k := by kernel_rfl
theorem markT1_ok (l : List Int) (k : Int) (hpre : (markT1_p l k).pre) : markT1_V l k := by
  simp only [markT1_p, markT1_V, BrP_iff, true_and, and_true, decide_eq_true_eq, decide_eq_false_iff_not, bne_iff_ne, beq_iff_eq, bne_eq_false_iff_eq, beq_eq_false_iff_ne, Bool.not_eq_true, Bool.not_eq_false, Bool.not_true, Bool.not_false, Bool.not_eq_eq_eq_not, Int.toNat_natCast, List.length_append, List.length_take, List.length_replicate, List.length_set, List.length_map, List.length_drop, List.length_nil, List.length_cons, markL_length, inB, InR, room, bdsOk, FC.len] at hpre ⊢
  obtain ⟨h1, h2, h3⟩ := hpre
  refine ⟨⟨0, by omega, by simp⟩, fun i hi => ⟨fun h => ⟨by omega, by omega, by omega, i + 1, by omega, by omega, by omega, by omega, ?_⟩, fun h => ⟨?_, ?_⟩⟩⟩
  · rw [← set_take_drop (markL k l.length) l 0 i (markL_length _ _) (by omega), markL_getD _ _ _ (by omega)]
  · omega
  · rw [List.take_of_length_le (by rw [markL_length]; omega), List.drop_of_length_le (by omega), List.append_nil]
theorem markT1_fits : Fits Try.prog 65 ⟨[(0, 0)], markT1_ct⟩ := by
  refine fits_fn (Γ := gam markT1_G) gok_nil Try.func65 (by kernel_rfl) (by kernel_rfl) (by kernel_rfl) fun ds p h hp => ?_
  unfold markT1_ct at h
  split at h
  · cases h
    exact ⟨noWr, markT1_ann _ _ , by rw [markT1_vc]; exact markT1_ok _ _  hp⟩
  · cases h

def markT2_p (l : List (List Int)) (k : Int) : Post := ⟨l.length ≤ 1048576 ∧ sumL l ≤ 1048576 ∧ 0 ≤ k ∧ k ≤ 1073741824, .c (.int .i64 (k + (sumL l : Int))), [.tr [41, 2] (.rows .i64 (markR l k))]⟩
def markT2_ct : List AD → Option Post
  | [.c (.rows .i64 (l)), .c (.int .i64 (k))] => some (markT2_p l k)
  | _ => none
def markT2_ann (l : List (List Int)) (k : Int) : Nat → Option Ann
  | 0 => some (Ann.mk ((Nat)) (fun i => ⟨[(0, .c (.own (700))), (1, .c (.int .i64 (k + (sumL (l.take i) : Int)))), (5, .c (.int .i64 ((i : Int))))], [(700, some (.tr 0 [41, 2] (.rows .i64 (markR (l.take i) k ++ l.drop i))))]⟩) (fun i => i ≤ l.length) (fun i => l.length - i) (fun _ => noAnn))
  | _ => none
def markT2_G : List (Nat × Ctr) := [(65, ⟨[(0, 0)], markT1_ct⟩)]
def markT2_V (l : List (List Int)) (k : Int) : Prop :=
  ((∃ x0 : Nat, ((x0 ≤ List.length l) ∧
 ((k = k + (↑(sumL (List.take x0 l)) : Int)) ∧
 (((0 : Int) = (↑x0 : Int)) ∧
 (l = markR (List.take x0 l) k ++ List.drop x0 l))))) ∧
 (∀ x1 : Nat, ((x1 ≤ List.length l) →
 (BrP (Decidable.decide ((↑x1 : Int) < (↑(FC.len (FC.rows IntKind.i64 (markR (List.take x1 l) k ++ List.drop x1 l))) : Int)))
 ((inB (↑x1 : Int) (FC.len (FC.rows IntKind.i64 (markR (List.take x1 l) k ++ List.drop x1 l)))) ∧
 ((((room (List.length (List.getD (markR (List.take x1 l) k ++ List.drop x1 l) (Int.toNat (↑x1 : Int)) []))) ∧
 (((0 : Int) ≤ k + (↑(sumL (List.take x1 l)) : Int)) ∧
 (k + (↑(sumL (List.take x1 l)) : Int) ≤ (1099511627776 : Int)))) ∧
 (FC.len (FC.ints IntKind.i64 (markL (k + (↑(sumL (List.take x1 l)) : Int)) (List.length (List.getD (markR (List.take x1 l) k ++ List.drop x1 l) (Int.toNat (↑x1 : Int)) [])))) = FC.len (FC.ints IntKind.i64 (List.getD (markR (List.take x1 l) k ++ List.drop x1 l) (Int.toNat (↑x1 : Int)) [])))) ∧
 ((InR ((↑x1 : Int) + (1 : Int))) ∧
 (∃ x2 : Nat, ((x2 ≤ List.length l) ∧
 ((List.length l - x2 < List.length l - x1) ∧
 ((k + (↑(sumL (List.take x1 l)) : Int) + (↑(List.length (List.getD (markR (List.take x1 l) k ++ List.drop x1 l) (Int.toNat (↑x1 : Int)) [])) : Int) = k + (↑(sumL (List.take x2 l)) : Int)) ∧
 (((↑x1 : Int) + (1 : Int) = (↑x2 : Int)) ∧
 (List.set (markR (List.take x1 l) k ++ List.drop x1 l) (Int.toNat (↑x1 : Int)) (markL (k + (↑(sumL (List.take x1 l)) : Int)) (List.length (List.getD (markR (List.take x1 l) k ++ List.drop x1 l) (Int.toNat (↑x1 : Int)) []))) = markR (List.take x2 l) k ++ List.drop x2 l)))))))))
 ((k + (↑(sumL (List.take x1 l)) : Int) = k + (↑(sumL l) : Int)) ∧
 ((markR (List.take x1 l) k ++ List.drop x1 l = markR l k) ∧
 (True)))))))
theorem markT2_vc (l : List (List Int)) (k : Int) : runF Try.prog (gam markT2_G) noWr (markT2_ann l k) Try.f28 (bodyOf Try.f28) [(0, 0)] [.c (.rows .i64 (l)), .c (.int .i64 (k))] (markT2_p l k) = markT2_V l k := by kernel_rfl
theorem markT2_ok (l : List (List Int)) (k : Int) (hpre : (markT2_p l k).pre) : markT2_V l k := by
  simp only [markT2_p, markT2_V, BrP_iff, true_and, and_true, decide_eq_true_eq, decide_eq_false_iff_not, bne_iff_ne, beq_iff_eq, bne_eq_false_iff_eq, beq_eq_false_iff_ne, Bool.not_eq_true, Bool.not_eq_false, Bool.not_true, Bool.not_false, Bool.not_eq_eq_eq_not, Int.toNat_natCast, List.length_append, List.length_take, List.length_replicate, List.length_set, List.length_map, List.length_drop, List.length_nil, List.length_cons, markL_length, inB, InR, room, bdsOk, FC.len] at hpre ⊢
  obtain ⟨h1, h2, h3, h4⟩ := hpre
  refine ⟨⟨0, by omega, by simp [sumL], rfl, by simp [markR]⟩, fun i hi => ?_⟩
  have hlen : (markR (l.take i) k).length = i := by rw [markR_length, List.length_take]; omega
  rw [hlen]
  refine ⟨fun h => ?_, fun h => ?_⟩
  · have q1 := sumL_take l i (by omega)
    have q2 := sumL_take_le l (i + 1)
    have hg : (markR (l.take i) k ++ l.drop i).getD i [] = l.getD i [] := by
      rw [getD_append_right' _ _ _ _ (by omega), hlen, drop_getD]; simp
    have q3 := sumL_mem (getD_mem l [] i (by omega))
    rw [hg]
    refine ⟨by omega, by omega, by omega, i + 1, by omega, by omega, by omega, by omega, ?_⟩
    rw [markR_take l k i (by omega), List.set_append_right _ _ (by omega), hlen, Nat.sub_self, drop_cons' l [] i (by omega), List.set_cons_zero]
    simp
  · rw [List.take_of_length_le (by omega), List.drop_of_length_le (by omega), List.append_nil]
    exact ⟨rfl, rfl⟩
theorem markT2_fits : Fits Try.prog 28 ⟨[(0, 0)], markT2_ct⟩ := by
  refine fits_fn (Γ := gam markT2_G) (gok_cons markT1_fits gok_nil) Try.func28 (by kernel_rfl) (by kernel_rfl) (by kernel_rfl) fun ds p h hp => ?_
  unfold markT2_ct at h
  split at h
  · cases h
    exact ⟨noWr, markT2_ann _ _ , by rw [markT2_vc]; exact markT2_ok _ _  hp⟩
  · cases h

def markInt64SSS_p (l : List (List (List Int))) (k : Int) : Post := ⟨fit3 l ∧ tot3 l ≤ 1048576 ∧ 0 ≤ k ∧ k ≤ 536870912, .c (.int .i64 (k + (tot3 l : Int))), [.tr [24, 41, 2] (.r3 .i64 (mark3 l k))]⟩
def markInt64SSS_ct : List AD → Option Post
  | [.c (.r3 .i64 (l)), .c (.int .i64 (k))] => some (markInt64SSS_p l k)
  | _ => none
def markInt64SSS_ann (l : List (List (List Int))) (k : Int) : Nat → Option Ann
  | 0 => some (Ann.mk ((Nat)) (fun i => ⟨[(0, .c (.own (700))), (1, .c (.int .i64 (k + (tot3 (l.take i) : Int)))), (5, .c (.int .i64 ((i : Int))))], [(700, some (.tr 0 [24, 41, 2] (.r3 .i64 (mark3 (l.take i) k ++ l.drop i))))]⟩) (fun i => i ≤ l.length) (fun i => l.length - i) (fun _ => noAnn))
  | _ => none
def markInt64SSS_G : List (Nat × Ctr) := [(28, ⟨[(0, 0)], markT2_ct⟩)]
def markInt64SSS_V (l : List (List (List Int))) (k : Int) : Prop :=
  ((∃ x0 : Nat, ((x0 ≤ List.length l) ∧
 ((k = k + (↑(tot3 (List.take x0 l)) : Int)) ∧
 (((0 : Int) = (↑x0 : Int)) ∧
 (l = mark3 (List.take x0 l) k ++ List.drop x0 l))))) ∧
 (∀ x1 : Nat, ((x1 ≤ List.length l) →
 (BrP (Decidable.decide ((↑x1 : Int) < (↑(FC.len (FC.r3 IntKind.i64 (mark3 (List.take x1 l) k ++ List.drop x1 l))) : Int)))
 ((inB (↑x1 : Int) (FC.len (FC.r3 IntKind.i64 (mark3 (List.take x1 l) k ++ List.drop x1 l)))) ∧
 ((((List.length (List.getD (mark3 (List.take x1 l) k ++ List.drop x1 l) (Int.toNat (↑x1 : Int)) ([] : List (List Int))) ≤ (1048576 : Nat)) ∧
 ((sumL (List.getD (mark3 (List.take x1 l) k ++ List.drop x1 l) (Int.toNat (↑x1 : Int)) ([] : List (List Int))) ≤ (1048576 : Nat)) ∧
 (((0 : Int) ≤ k + (↑(tot3 (List.take x1 l)) : Int)) ∧
 (k + (↑(tot3 (List.take x1 l)) : Int) ≤ (1073741824 : Int))))) ∧
 (FC.len (FC.rows IntKind.i64 (markR (List.getD (mark3 (List.take x1 l) k ++ List.drop x1 l) (Int.toNat (↑x1 : Int)) ([] : List (List Int))) (k + (↑(tot3 (List.take x1 l)) : Int)))) = FC.len (FC.rows IntKind.i64 (List.getD (mark3 (List.take x1 l) k ++ List.drop x1 l) (Int.toNat (↑x1 : Int)) ([] : List (List Int)))))) ∧
 ((InR ((↑x1 : Int) + (1 : Int))) ∧
 (∃ x2 : Nat, ((x2 ≤ List.length l) ∧
 ((List.length l - x2 < List.length l - x1) ∧
 ((k + (↑(tot3 (List.take x1 l)) : Int) + (↑(sumL (List.getD (mark3 (List.take x1 l) k ++ List.drop x1 l) (Int.toNat (↑x1 : Int)) ([] : List (List Int)))) : Int) = k + (↑(tot3 (List.take x2 l)) : Int)) ∧
 (((↑x1 : Int) + (1 : Int) = (↑x2 : Int)) ∧
 (List.set (mark3 (List.take x1 l) k ++ List.drop x1 l) (Int.toNat (↑x1 : Int)) (markR (List.getD (mark3 (List.take x1 l) k ++ List.drop x1 l) (Int.toNat (↑x1 : Int)) ([] : List (List Int))) (k + (↑(tot3 (List.take x1 l)) : Int))) = mark3 (List.take x2 l) k ++ List.drop x2 l)))))))))
 ((k + (↑(tot3 (List.take x1 l)) : Int) = k + (↑(tot3 l) : Int)) ∧
 ((mark3 (List.take x1 l) k ++ List.drop x1 l = mark3 l k) ∧
 (True)))))))
theorem markInt64SSS_vc (l : List (List (List Int))) (k : Int) : runF Try.prog (gam markInt64SSS_G) noWr (markInt64SSS_ann l k) Try.f66 (bodyOf Try.f66) [(0, 0)] [.c (.r3 .i64 (l)), .c (.int .i64 (k))] (markInt64SSS_p l k) = markInt64SSS_V l k := by kernel_rfl
theorem markInt64SSS_ok (l : List (List (List Int))) (k : Int) (hpre : (markInt64SSS_p l k).pre) : markInt64SSS_V l k := by
  simp only [markInt64SSS_p, markInt64SSS_V, BrP_iff, true_and, and_true, decide_eq_true_eq, decide_eq_false_iff_not, bne_iff_ne, beq_iff_eq, bne_eq_false_iff_eq, beq_eq_false_iff_ne, Bool.not_eq_true, Bool.not_eq_false, Bool.not_true, Bool.not_false, Bool.not_eq_eq_eq_not, Int.toNat_natCast, List.length_append, List.length_take, List.length_replicate, List.length_set, List.length_map, List.length_drop, List.length_nil, List.length_cons, markL_length, inB, InR, room, bdsOk, FC.len] at hpre ⊢
  obtain ⟨⟨h1, h0⟩, h2, h3, h4⟩ := hpre
  refine ⟨⟨0, by omega, by simp [tot3, sumB], rfl, by simp [mark3, markG]⟩, fun i hi => ?_⟩
  have hlen : (mark3 (l.take i) k).length = i := by rw [mark3_length, List.length_take]; omega
  rw [hlen]
  refine ⟨fun h => ?_, fun h => ?_⟩
  · obtain ⟨g1, g2⟩ := markG_step (f := markR) (c := sumL) l [] k i (by omega)
    have q1 : tot3 (l.take (i + 1)) = tot3 (l.take i) + sumL (l.getD i []) := sumB_take sumL l [] i (by omega)
    have q2 : tot3 (l.take (i + 1)) ≤ tot3 l := sumB_take_le sumL l (i + 1)
    have q3 := h0 _ (getD_mem l [] i (by omega))
    rw [show (mark3 (l.take i) k ++ l.drop i).getD i [] = l.getD i [] from g1]
    refine ⟨by omega, ⟨⟨q3, by omega, by omega, by omega⟩, markR_length _ _⟩, by omega, i + 1, by omega, by omega, by omega, by omega, g2⟩
  · rw [List.take_of_length_le (by omega), List.drop_of_length_le (by omega), List.append_nil]
    exact ⟨rfl, rfl⟩
theorem markInt64SSS_fits : Fits Try.prog 66 ⟨[(0, 0)], markInt64SSS_ct⟩ := by
  refine fits_fn (Γ := gam markInt64SSS_G) (gok_cons markT2_fits gok_nil) Try.func66 (by kernel_rfl) (by kernel_rfl) (by kernel_rfl) fun ds p h hp => ?_
  unfold markInt64SSS_ct at h
  split at h
  · cases h
    exact ⟨noWr, markInt64SSS_ann _ _ , by rw [markInt64SSS_vc]; exact markInt64SSS_ok _ _  hp⟩
  · cases h

def markInt64SSSS_p (l : List (List (List (List Int)))) (k : Int) : Post := ⟨fit4 l ∧ tot4 l ≤ 1048576 ∧ 0 ≤ k ∧ k ≤ 268435456, .c (.int .i64 (k + (tot4 l : Int))), [.tr [59, 24, 41, 2] (.r4 .i64 (mark4 l k))]⟩
def markInt64SSSS_ct : List AD → Option Post
  | [.c (.r4 .i64 (l)), .c (.int .i64 (k))] => some (markInt64SSSS_p l k)
  | _ => none
def markInt64SSSS_ann (l : List (List (List (List Int)))) (k : Int) : Nat → Option Ann
  | 0 => some (Ann.mk ((Nat)) (fun i => ⟨[(0, .c (.own (700))), (1, .c (.int .i64 (k + (tot4 (l.take i) : Int)))), (5, .c (.int .i64 ((i : Int))))], [(700, some (.tr 0 [59, 24, 41, 2] (.r4 .i64 (mark4 (l.take i) k ++ l.drop i))))]⟩) (fun i => i ≤ l.length) (fun i => l.length - i) (fun _ => noAnn))
  | _ => none
def markInt64SSSS_G : List (Nat × Ctr) := [(66, ⟨[(0, 0)], markInt64SSS_ct⟩)]
def markInt64SSSS_V (l : List (List (List (List Int)))) (k : Int) : Prop :=
  ((∃ x0 : Nat, ((x0 ≤ List.length l) ∧
 ((k = k + (↑(tot4 (List.take x0 l)) : Int)) ∧
 (((0 : Int) = (↑x0 : Int)) ∧
 (l = mark4 (List.take x0 l) k ++ List.drop x0 l))))) ∧
 (∀ x1 : Nat, ((x1 ≤ List.length l) →
 (BrP (Decidable.decide ((↑x1 : Int) < (↑(FC.len (FC.r4 IntKind.i64 (mark4 (List.take x1 l) k ++ List.drop x1 l))) : Int)))
 ((inB (↑x1 : Int) (FC.len (FC.r4 IntKind.i64 (mark4 (List.take x1 l) k ++ List.drop x1 l)))) ∧
 ((((fit3 (List.getD (mark4 (List.take x1 l) k ++ List.drop x1 l) (Int.toNat (↑x1 : Int)) ([] : List (List (List Int))))) ∧
 ((tot3 (List.getD (mark4 (List.take x1 l) k ++ List.drop x1 l) (Int.toNat (↑x1 : Int)) ([] : List (List (List Int)))) ≤ (1048576 : Nat)) ∧
 (((0 : Int) ≤ k + (↑(tot4 (List.take x1 l)) : Int)) ∧
 (k + (↑(tot4 (List.take x1 l)) : Int) ≤ (536870912 : Int))))) ∧
 (FC.len (FC.r3 IntKind.i64 (mark3 (List.getD (mark4 (List.take x1 l) k ++ List.drop x1 l) (Int.toNat (↑x1 : Int)) ([] : List (List (List Int)))) (k + (↑(tot4 (List.take x1 l)) : Int)))) = FC.len (FC.r3 IntKind.i64 (List.getD (mark4 (List.take x1 l) k ++ List.drop x1 l) (Int.toNat (↑x1 : Int)) ([] : List (List (List Int))))))) ∧
 ((InR ((↑x1 : Int) + (1 : Int))) ∧
 (∃ x2 : Nat, ((x2 ≤ List.length l) ∧
 ((List.length l - x2 < List.length l - x1) ∧
 ((k + (↑(tot4 (List.take x1 l)) : Int) + (↑(tot3 (List.getD (mark4 (List.take x1 l) k ++ List.drop x1 l) (Int.toNat (↑x1 : Int)) ([] : List (List (List Int))))) : Int) = k + (↑(tot4 (List.take x2 l)) : Int)) ∧
 (((↑x1 : Int) + (1 : Int) = (↑x2 : Int)) ∧
 (List.set (mark4 (List.take x1 l) k ++ List.drop x1 l) (Int.toNat (↑x1 : Int)) (mark3 (List.getD (mark4 (List.take x1 l) k ++ List.drop x1 l) (Int.toNat (↑x1 : Int)) ([] : List (List (List Int)))) (k + (↑(tot4 (List.take x1 l)) : Int))) = mark4 (List.take x2 l) k ++ List.drop x2 l)))))))))
 ((k + (↑(tot4 (List.take x1 l)) : Int) = k + (↑(tot4 l) : Int)) ∧
 ((mark4 (List.take x1 l) k ++ List.drop x1 l = mark4 l k) ∧
 (True)))))))
theorem markInt64SSSS_vc (l : List (List (List (List Int)))) (k : Int) : runF Try.prog (gam markInt64SSSS_G) noWr (markInt64SSSS_ann l k) Try.f29 (bodyOf Try.f29) [(0, 0)] [.c (.r4 .i64 (l)), .c (.int .i64 (k))] (markInt64SSSS_p l k) = markInt64SSSS_V l k := by kernel_rfl
theorem markInt64SSSS_ok (l : List (List (List (List Int)))) (k : Int) (hpre : (markInt64SSSS_p l k).pre) : markInt64SSSS_V l k := by
  simp only [markInt64SSSS_p, markInt64SSSS_V, BrP_iff, true_and, and_true, decide_eq_true_eq, decide_eq_false_iff_not, bne_iff_ne, beq_iff_eq, bne_eq_false_iff_eq, beq_eq_false_iff_ne, Bool.not_eq_true, Bool.not_eq_false, Bool.not_true, Bool.not_false, Bool.not_eq_eq_eq_not, Int.toNat_natCast, List.length_append, List.length_take, List.length_replicate, List.length_set, List.length_map, List.length_drop, List.length_nil, List.length_cons, markL_length, inB, InR, room, bdsOk, FC.len] at hpre ⊢
  obtain ⟨⟨h1, h0⟩, h2, h3, h4⟩ := hpre
  refine ⟨⟨0, by omega, by simp [tot4, sumB], rfl, by simp [mark4, markG]⟩, fun i hi => ?_⟩
  have hlen : (mark4 (l.take i) k).length = i := by rw [mark4_length, List.length_take]; omega
  rw [hlen]
  refine ⟨fun h => ?_, fun h => ?_⟩
  · obtain ⟨g1, g2⟩ := markG_step (f := mark3) (c := tot3) l [] k i (by omega)
    have q1 : tot4 (l.take (i + 1)) = tot4 (l.take i) + tot3 (l.getD i []) := sumB_take tot3 l [] i (by omega)
    have q2 : tot4 (l.take (i + 1)) ≤ tot4 l := sumB_take_le tot3 l (i + 1)
    have q3 := h0 _ (getD_mem l [] i (by omega))
    rw [show (mark4 (l.take i) k ++ l.drop i).getD i [] = l.getD i [] from g1]
    refine ⟨by omega, ⟨⟨q3, by omega, by omega, by omega⟩, mark3_length _ _⟩, by omega, i + 1, by omega, by omega, by omega, by omega, g2⟩
  · rw [List.take_of_length_le (by omega), List.drop_of_length_le (by omega), List.append_nil]
    exact ⟨rfl, rfl⟩
theorem markInt64SSSS_fits : Fits Try.prog 29 ⟨[(0, 0)], markInt64SSSS_ct⟩ := by
  refine fits_fn (Γ := gam markInt64SSSS_G) (gok_cons markInt64SSS_fits gok_nil) Try.func29 (by kernel_rfl) (by kernel_rfl) (by kernel_rfl) fun ds p h hp => ?_
  unfold markInt64SSSS_ct at h
  split at h
  · cases h
    exact ⟨noWr, markInt64SSSS_ann _ _ , by rw [markInt64SSSS_vc]; exact markInt64SSSS_ok _ _  hp⟩
  · cases h

def heldInt64SSS_p (l : List (List (List Int))) (k : Int) : Post := ⟨fit3 l ∧ tot3 l ≤ 1048576 ∧ 0 ≤ k ∧ k ≤ 536870912, .c (.int .i64 (if l = mark3 l k then k + (tot3 l : Int) else -1)), []⟩
def heldInt64SSS_ct : List AD → Option Post
  | [.c (.r3 .i64 (l)), .c (.int .i64 (k))] => some (heldInt64SSS_p l k)
  | _ => none
def heldInt64SSS_ann (l : List (List (List Int))) (k : Int) : Nat → Option Ann
  | 0 => some (Ann.mk ((Nat)) (fun i => ⟨[(0, .c (.ro (.r3 .i64 (l)))), (1, .c (.int .i64 (k + (tot3 (l.take i) : Int)))), (5, .c (.int .i64 ((i : Int))))], []⟩) (fun i => i ≤ l.length ∧ l.take i = mark3 (l.take i) k) (fun i => l.length - i) (fun _ => noAnn))
  | _ => none
def heldInt64SSS_G : List (Nat × Ctr) := [(70, ⟨[], heldInt64SS_ct⟩)]
def heldInt64SSS_V (l : List (List (List Int))) (k : Int) : Prop :=
  ((∃ x0 : Nat, (((x0 ≤ List.length l) ∧
 (List.take x0 l = mark3 (List.take x0 l) k)) ∧
 ((l = l) ∧
 ((k = k + (↑(tot3 (List.take x0 l)) : Int)) ∧
 ((0 : Int) = (↑x0 : Int)))))) ∧
 (∀ x1 : Nat, (((x1 ≤ List.length l) ∧
 (List.take x1 l = mark3 (List.take x1 l) k)) →
 (BrP (Decidable.decide ((↑x1 : Int) < (↑(List.length l) : Int)))
 ((inB (↑x1 : Int) (List.length l)) ∧
 ((((List.length (List.getD l (Int.toNat (↑x1 : Int)) ([] : List (List Int))) ≤ (1048576 : Nat)) ∧
 ((sumL (List.getD l (Int.toNat (↑x1 : Int)) ([] : List (List Int))) ≤ (1048576 : Nat)) ∧
 (((0 : Int) ≤ k + (↑(tot3 (List.take x1 l)) : Int)) ∧
 (k + (↑(tot3 (List.take x1 l)) : Int) ≤ (1073741824 : Int))))) ∧
 (True)) ∧
 (BrP (Decidable.decide ((if List.getD l (Int.toNat (↑x1 : Int)) ([] : List (List Int)) = markR (List.getD l (Int.toNat (↑x1 : Int)) ([] : List (List Int))) (k + (↑(tot3 (List.take x1 l)) : Int)) then k + (↑(tot3 (List.take x1 l)) : Int) + (↑(sumL (List.getD l (Int.toNat (↑x1 : Int)) ([] : List (List Int)))) : Int) else (-1 : Int)) < (0 : Int)))
 (((-1 : Int) = if l = mark3 l k then k + (↑(tot3 l) : Int) else (-1 : Int)) ∧
 (True))
 ((InR ((↑x1 : Int) + (1 : Int))) ∧
 (∃ x2 : Nat, (((x2 ≤ List.length l) ∧
 (List.take x2 l = mark3 (List.take x2 l) k)) ∧
 ((List.length l - x2 < List.length l - x1) ∧
 ((l = l) ∧
 (((if List.getD l (Int.toNat (↑x1 : Int)) ([] : List (List Int)) = markR (List.getD l (Int.toNat (↑x1 : Int)) ([] : List (List Int))) (k + (↑(tot3 (List.take x1 l)) : Int)) then k + (↑(tot3 (List.take x1 l)) : Int) + (↑(sumL (List.getD l (Int.toNat (↑x1 : Int)) ([] : List (List Int)))) : Int) else (-1 : Int)) = k + (↑(tot3 (List.take x2 l)) : Int)) ∧
 ((↑x1 : Int) + (1 : Int) = (↑x2 : Int)))))))))))
 ((k + (↑(tot3 (List.take x1 l)) : Int) = if l = mark3 l k then k + (↑(tot3 l) : Int) else (-1 : Int)) ∧
 (True))))))
theorem heldInt64SSS_vc (l : List (List (List Int))) (k : Int) : runF Try.prog (gam heldInt64SSS_G) noWr (heldInt64SSS_ann l k) Try.f67 (bodyOf Try.f67) [] [.c (.r3 .i64 (l)), .c (.int .i64 (k))] (heldInt64SSS_p l k) = heldInt64SSS_V l k := by kernel_rfl
theorem heldInt64SSS_ok (l : List (List (List Int))) (k : Int) (hpre : (heldInt64SSS_p l k).pre) : heldInt64SSS_V l k := by
  simp only [heldInt64SSS_p, heldInt64SSS_V, BrP_iff, true_and, and_true, decide_eq_true_eq, decide_eq_false_iff_not, bne_iff_ne, beq_iff_eq, bne_eq_false_iff_eq, beq_eq_false_iff_ne, Bool.not_eq_true, Bool.not_eq_false, Bool.not_true, Bool.not_false, Bool.not_eq_eq_eq_not, Int.toNat_natCast, List.length_append, List.length_take, List.length_replicate, List.length_set, List.length_map, List.length_drop, List.length_nil, List.length_cons, markL_length, inB, InR, room, bdsOk, FC.len] at hpre ⊢
  obtain ⟨⟨h1, h0⟩, h2, h3, h4⟩ := hpre
  refine ⟨⟨0, ⟨by omega, rfl⟩, by simp [tot3, sumB], rfl⟩, fun i ⟨hi, he⟩ => ⟨fun h => ?_, fun h => ?_⟩⟩
  · have q1 : tot3 (l.take (i + 1)) = tot3 (l.take i) + sumL (l.getD i []) := sumB_take sumL l [] i (by omega)
    have q2 : tot3 (l.take (i + 1)) ≤ tot3 l := sumB_take_le sumL l (i + 1)
    have q3 := h0 _ (getD_mem l [] i (by omega))
    refine ⟨by omega, ⟨q3, by omega, by omega, by omega⟩, fun h5 => ?_, fun h5 => ?_⟩
    · split at h5
      · omega
      · rename_i h6
        rw [if_neg]
        intro e
        apply h6
        conv => lhs; rw [e]
        exact markG_getD (f := markR) (c := sumL) l [] k i (by omega)
    · split at h5
      · rename_i h6
        refine ⟨by omega, i + 1, ⟨by omega, ?_⟩, by omega, ?_, by omega⟩
        · rw [show mark3 (l.take (i + 1)) k = mark3 (l.take i) k ++ [markR (l.getD i []) (k + (tot3 (l.take i) : Int))] from markG_take (f := markR) (c := sumL) l [] k i (by omega), ← he, ← h6, take_snoc _ _ _ (by omega)]
        · rw [if_pos h6]; omega
      · omega
  · rw [List.take_of_length_le (by omega)] at he ⊢
    rw [if_pos he]
theorem heldInt64SSS_fits : Fits Try.prog 67 ⟨[], heldInt64SSS_ct⟩ := by
  refine fits_fn (Γ := gam heldInt64SSS_G) (gok_cons heldInt64SS_fits gok_nil) Try.func67 (by kernel_rfl) (by kernel_rfl) (by kernel_rfl) fun ds p h hp => ?_
  unfold heldInt64SSS_ct at h
  split at h
  · cases h
    exact ⟨noWr, heldInt64SSS_ann _ _ , by rw [heldInt64SSS_vc]; exact heldInt64SSS_ok _ _  hp⟩
  · cases h

def heldInt64SSSS_p (l : List (List (List (List Int)))) (k : Int) : Post := ⟨fit4 l ∧ tot4 l ≤ 1048576 ∧ 0 ≤ k ∧ k ≤ 268435456, .c (.int .i64 (if l = mark4 l k then k + (tot4 l : Int) else -1)), []⟩
def heldInt64SSSS_ct : List AD → Option Post
  | [.c (.r4 .i64 (l)), .c (.int .i64 (k))] => some (heldInt64SSSS_p l k)
  | _ => none
def heldInt64SSSS_ann (l : List (List (List (List Int)))) (k : Int) : Nat → Option Ann
  | 0 => some (Ann.mk ((Nat)) (fun i => ⟨[(0, .c (.ro (.r4 .i64 (l)))), (1, .c (.int .i64 (k + (tot4 (l.take i) : Int)))), (5, .c (.int .i64 ((i : Int))))], []⟩) (fun i => i ≤ l.length ∧ l.take i = mark4 (l.take i) k) (fun i => l.length - i) (fun _ => noAnn))
  | _ => none
def heldInt64SSSS_G : List (Nat × Ctr) := [(67, ⟨[], heldInt64SSS_ct⟩)]
def heldInt64SSSS_V (l : List (List (List (List Int)))) (k : Int) : Prop :=
  ((∃ x0 : Nat, (((x0 ≤ List.length l) ∧
 (List.take x0 l = mark4 (List.take x0 l) k)) ∧
 ((l = l) ∧
 ((k = k + (↑(tot4 (List.take x0 l)) : Int)) ∧
 ((0 : Int) = (↑x0 : Int)))))) ∧
 (∀ x1 : Nat, (((x1 ≤ List.length l) ∧
 (List.take x1 l = mark4 (List.take x1 l) k)) →
 (BrP (Decidable.decide ((↑x1 : Int) < (↑(List.length l) : Int)))
 ((inB (↑x1 : Int) (List.length l)) ∧
 ((((fit3 (List.getD l (Int.toNat (↑x1 : Int)) ([] : List (List (List Int))))) ∧
 ((tot3 (List.getD l (Int.toNat (↑x1 : Int)) ([] : List (List (List Int)))) ≤ (1048576 : Nat)) ∧
 (((0 : Int) ≤ k + (↑(tot4 (List.take x1 l)) : Int)) ∧
 (k + (↑(tot4 (List.take x1 l)) : Int) ≤ (536870912 : Int))))) ∧
 (True)) ∧
 (BrP (Decidable.decide ((if List.getD l (Int.toNat (↑x1 : Int)) ([] : List (List (List Int))) = mark3 (List.getD l (Int.toNat (↑x1 : Int)) ([] : List (List (List Int)))) (k + (↑(tot4 (List.take x1 l)) : Int)) then k + (↑(tot4 (List.take x1 l)) : Int) + (↑(tot3 (List.getD l (Int.toNat (↑x1 : Int)) ([] : List (List (List Int))))) : Int) else (-1 : Int)) < (0 : Int)))
 (((-1 : Int) = if l = mark4 l k then k + (↑(tot4 l) : Int) else (-1 : Int)) ∧
 (True))
 ((InR ((↑x1 : Int) + (1 : Int))) ∧
 (∃ x2 : Nat, (((x2 ≤ List.length l) ∧
 (List.take x2 l = mark4 (List.take x2 l) k)) ∧
 ((List.length l - x2 < List.length l - x1) ∧
 ((l = l) ∧
 (((if List.getD l (Int.toNat (↑x1 : Int)) ([] : List (List (List Int))) = mark3 (List.getD l (Int.toNat (↑x1 : Int)) ([] : List (List (List Int)))) (k + (↑(tot4 (List.take x1 l)) : Int)) then k + (↑(tot4 (List.take x1 l)) : Int) + (↑(tot3 (List.getD l (Int.toNat (↑x1 : Int)) ([] : List (List (List Int))))) : Int) else (-1 : Int)) = k + (↑(tot4 (List.take x2 l)) : Int)) ∧
 ((↑x1 : Int) + (1 : Int) = (↑x2 : Int)))))))))))
 ((k + (↑(tot4 (List.take x1 l)) : Int) = if l = mark4 l k then k + (↑(tot4 l) : Int) else (-1 : Int)) ∧
 (True))))))
theorem heldInt64SSSS_vc (l : List (List (List (List Int)))) (k : Int) : runF Try.prog (gam heldInt64SSSS_G) noWr (heldInt64SSSS_ann l k) Try.f30 (bodyOf Try.f30) [] [.c (.r4 .i64 (l)), .c (.int .i64 (k))] (heldInt64SSSS_p l k) = heldInt64SSSS_V l k := by kernel_rfl
theorem heldInt64SSSS_ok (l : List (List (List (List Int)))) (k : Int) (hpre : (heldInt64SSSS_p l k).pre) : heldInt64SSSS_V l k := by
  simp only [heldInt64SSSS_p, heldInt64SSSS_V, BrP_iff, true_and, and_true, decide_eq_true_eq, decide_eq_false_iff_not, bne_iff_ne, beq_iff_eq, bne_eq_false_iff_eq, beq_eq_false_iff_ne, Bool.not_eq_true, Bool.not_eq_false, Bool.not_true, Bool.not_false, Bool.not_eq_eq_eq_not, Int.toNat_natCast, List.length_append, List.length_take, List.length_replicate, List.length_set, List.length_map, List.length_drop, List.length_nil, List.length_cons, markL_length, inB, InR, room, bdsOk, FC.len] at hpre ⊢
  obtain ⟨⟨h1, h0⟩, h2, h3, h4⟩ := hpre
  refine ⟨⟨0, ⟨by omega, rfl⟩, by simp [tot4, sumB], rfl⟩, fun i ⟨hi, he⟩ => ⟨fun h => ?_, fun h => ?_⟩⟩
  · have q1 : tot4 (l.take (i + 1)) = tot4 (l.take i) + tot3 (l.getD i []) := sumB_take tot3 l [] i (by omega)
    have q2 : tot4 (l.take (i + 1)) ≤ tot4 l := sumB_take_le tot3 l (i + 1)
    have q3 := h0 _ (getD_mem l [] i (by omega))
    refine ⟨by omega, ⟨q3, by omega, by omega, by omega⟩, fun h5 => ?_, fun h5 => ?_⟩
    · split at h5
      · omega
      · rename_i h6
        rw [if_neg]
        intro e
        apply h6
        conv => lhs; rw [e]
        exact markG_getD (f := mark3) (c := tot3) l [] k i (by omega)
    · split at h5
      · rename_i h6
        refine ⟨by omega, i + 1, ⟨by omega, ?_⟩, by omega, ?_, by omega⟩
        · rw [show mark4 (l.take (i + 1)) k = mark4 (l.take i) k ++ [mark3 (l.getD i []) (k + (tot4 (l.take i) : Int))] from markG_take (f := mark3) (c := tot3) l [] k i (by omega), ← he, ← h6, take_snoc _ _ _ (by omega)]
        · rw [if_pos h6]; omega
      · omega
  · rw [List.take_of_length_le (by omega)] at he ⊢
    rw [if_pos he]
theorem heldInt64SSSS_fits : Fits Try.prog 30 ⟨[], heldInt64SSSS_ct⟩ := by
  refine fits_fn (Γ := gam heldInt64SSSS_G) (gok_cons heldInt64SSS_fits gok_nil) Try.func30 (by kernel_rfl) (by kernel_rfl) (by kernel_rfl) fun ds p h hp => ?_
  unfold heldInt64SSSS_ct at h
  split at h
  · cases h
    exact ⟨noWr, heldInt64SSSS_ann _ _ , by rw [heldInt64SSSS_vc]; exact heldInt64SSSS_ok _ _  hp⟩
  · cases h

end Go.Sx

