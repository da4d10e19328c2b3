/- The law of BraidAction. -/
import Derived.Test.YtegeohcghndpcaaAct
import Derived.Test.YtegeohcghndpcaaLists
open Go Go.Proofs
namespace Go.Sx
set_option linter.unusedSimpArgs false
set_option linter.unusedVariables false

def szS (a c : List (List Int)) (k : Int) : Int :=
  if (if k < (a.length : Int) + (sumL a : Int) then -1 else k - (a.length : Int) - (sumL a : Int)) < 0 then -1
  else if k - (a.length : Int) - (sumL a : Int) < (c.length : Int) + (sumL c : Int) then -1 else k - (a.length : Int) - (sumL a : Int) - (c.length : Int) - (sumL c : Int)

def szSolution_p (a : List (List Int)) (c : List (List Int)) (k : Int) : Post := ⟨((a.length : Int) ≤ 9223372036854775807 ∧ (∀ r ∈ a, (r.length : Int) ≤ 9223372036854775807)) ∧ ((c.length : Int) ≤ 9223372036854775807 ∧ (∀ r ∈ c, (r.length : Int) ≤ 9223372036854775807)) ∧ 0 ≤ k ∧ k ≤ 1099511627776, .c (.int .i64 (szS a c k)), []⟩
def szSolution_ct : List AD → Option Post
  | [.agg [.rows .i64 (a), .rows .i64 (c)], .c (.int .i64 (k))] => some (szSolution_p a c k)
  | _ => none
def szSolution_G : List (Nat × Ctr) := [(9, ⟨[], szInt64SS_ct⟩)]
def szSolution_V (a : List (List Int)) (c : List (List Int)) (k : Int) : Prop :=
  (((((↑(List.length a) : Int) ≤ (9223372036854775807 : Int)) ∧
  ((∀ (r : List Int), r ∈ a → (↑(List.length r) : Int) ≤ (9223372036854775807 : Int)) ∧
  (((0 : Int) ≤ k) ∧
  (k ≤ (1099511627776 : Int))))) ∧
  (True)) ∧
  (BrP (Decidable.decide ((if k < (↑(List.length a) : Int) + (↑(Go.Sx.sumL a) : Int) then (-1 : Int) else k - (↑(List.length a) : Int) - (↑(Go.Sx.sumL a) : Int)) < (0 : Int)))
    (((-1 : Int) = Go.Sx.szS a c k) ∧
    (True))
    (((((↑(List.length c) : Int) ≤ (9223372036854775807 : Int)) ∧
    ((∀ (r : List Int), r ∈ c → (↑(List.length r) : Int) ≤ (9223372036854775807 : Int)) ∧
    (((0 : Int) ≤ if k < (↑(List.length a) : Int) + (↑(Go.Sx.sumL a) : Int) then (-1 : Int) else k - (↑(List.length a) : Int) - (↑(Go.Sx.sumL a) : Int)) ∧
    ((if k < (↑(List.length a) : Int) + (↑(Go.Sx.sumL a) : Int) then (-1 : Int) else k - (↑(List.length a) : Int) - (↑(Go.Sx.sumL a) : Int)) ≤ (1099511627776 : Int))))) ∧
    (True)) ∧
    (BrP (Decidable.decide ((if (if k < (↑(List.length a) : Int) + (↑(Go.Sx.sumL a) : Int) then (-1 : Int) else k - (↑(List.length a) : Int) - (↑(Go.Sx.sumL a) : Int)) < (↑(List.length c) : Int) + (↑(Go.Sx.sumL c) : Int) then (-1 : Int) else (if k < (↑(List.length a) : Int) + (↑(Go.Sx.sumL a) : Int) then (-1 : Int) else k - (↑(List.length a) : Int) - (↑(Go.Sx.sumL a) : Int)) - (↑(List.length c) : Int) - (↑(Go.Sx.sumL c) : Int)) < (0 : Int)))
      (((-1 : Int) = Go.Sx.szS a c k) ∧
      (True))
      (((if (if k < (↑(List.length a) : Int) + (↑(Go.Sx.sumL a) : Int) then (-1 : Int) else k - (↑(List.length a) : Int) - (↑(Go.Sx.sumL a) : Int)) < (↑(List.length c) : Int) + (↑(Go.Sx.sumL c) : Int) then (-1 : Int) else (if k < (↑(List.length a) : Int) + (↑(Go.Sx.sumL a) : Int) then (-1 : Int) else k - (↑(List.length a) : Int) - (↑(Go.Sx.sumL a) : Int)) - (↑(List.length c) : Int) - (↑(Go.Sx.sumL c) : Int)) = Go.Sx.szS a c k) ∧
      (True))))))
theorem szSolution_vc (a : List (List Int)) (c : List (List Int)) (k : Int) : runF Try.prog (gam szSolution_G) noWr noAnn Try.f33 (bodyOf Try.f33) [] [.agg [.rows .i64 (a), .rows .i64 (c)], .c (.int .i64 (k))] (szSolution_p a c k) = szSolution_V a c k := by kernel_rfl
theorem szSolution_ok (a : List (List Int)) (c : List (List Int)) (k : Int) (hpre : (szSolution_p a c k).pre) : szSolution_V a c k := by
  simp only [szSolution_p, szSolution_V, BrP_iff, true_and, and_true, decide_eq_true_eq, decide_eq_false_iff_not, bne_iff_ne, beq_iff_eq, bne_eq_false_iff_eq, beq_eq_false_iff_ne, Bool.not_eq_true, Bool.not_eq_false, Bool.not_true, Bool.not_false, Bool.not_eq_eq_eq_not, Int.toNat_natCast, List.length_append, List.length_take, List.length_replicate, List.length_set, List.length_map, List.length_drop, List.length_nil, List.length_cons, markL_length, inB, InR, room, bdsOk] at hpre ⊢
  obtain ⟨⟨a1, a2⟩, ⟨c1, c2⟩, k1, k2⟩ := hpre
  refine ⟨⟨a1, a2, k1, k2⟩, fun h => ?_, fun h => ⟨⟨c1, c2, by omega, by split <;> omega⟩, fun h2 => ?_, fun h2 => ?_⟩⟩
  · rw [szS, if_pos h]
  · have hk : ¬ k < (a.length : Int) + (sumL a : Int) := by split at h <;> omega
    rw [if_neg hk] at h h2
    rw [szS, if_neg hk, if_neg h]
    split at h2
    · rename_i h3; rw [if_pos h3]
    · omega
  · have hk : ¬ k < (a.length : Int) + (sumL a : Int) := by split at h <;> omega
    rw [if_neg hk] at h
    rw [szS, if_neg hk, if_neg h]
theorem szSolution_fits : Fits Try.prog 33 ⟨[], szSolution_ct⟩ := by
  refine fits_fn (Γ := gam szSolution_G) (gok_cons szInt64SS_fits gok_nil) Try.func33 (by kernel_rfl) (by kernel_rfl) (by kernel_rfl) fun ds p h hp => ?_
  unfold szSolution_ct at h
  split at h
  · cases h
    exact ⟨noWr, noAnn, by rw [szSolution_vc]; exact szSolution_ok _ _ _  hp⟩
  · cases h

def toSolution_p (a : List (List Int)) (c : List (List Int)) : Post := ⟨roomR a ∧ roomR c, .agg [.rows 24 2 .i64 (a), .rows 24 2 .i64 (c)], []⟩
def toSolution_ct : List AD → Option Post
  | [.agg [.rows .i64 (a), .rows .i64 (c)]] => some (toSolution_p a c)
  | _ => none
def toSolution_G : List (Nat × Ctr) := [(11, ⟨[], toInt64SS_ct⟩)]
def toSolution_V (a : List (List Int)) (c : List (List Int)) : Prop :=
  (((Go.Sx.roomR a) ∧
  (True)) ∧
  (((Go.Sx.roomR c) ∧
  (True)) ∧
  (((a = a) ∧
  ((c = c) ∧
  (True))) ∧
  (True))))
theorem toSolution_vc (a : List (List Int)) (c : List (List Int)) : runF Try.prog (gam toSolution_G) noWr noAnn Try.f36 (bodyOf Try.f36) [] [.agg [.rows .i64 (a), .rows .i64 (c)]] (toSolution_p a c) = toSolution_V a c := by kernel_rfl
theorem toSolution_ok (a : List (List Int)) (c : List (List Int)) (hpre : (toSolution_p a c).pre) : toSolution_V a c := by
  simp only [toSolution_p, toSolution_V, BrP_iff, true_and, and_true, decide_eq_true_eq, decide_eq_false_iff_not, bne_iff_ne, beq_iff_eq, bne_eq_false_iff_eq, beq_eq_false_iff_ne, Bool.not_eq_true, Bool.not_eq_false, Bool.not_true, Bool.not_false, Bool.not_eq_eq_eq_not, Int.toNat_natCast, List.length_append, List.length_take, List.length_replicate, List.length_set, List.length_map, List.length_drop, List.length_nil, List.length_cons, markL_length, inB, InR, room, bdsOk] at hpre ⊢
  exact hpre
theorem toSolution_fits : Fits Try.prog 36 ⟨[], toSolution_ct⟩ := by
  refine fits_fn (Γ := gam toSolution_G) (gok_cons toInt64SS_fits gok_nil) Try.func36 (by kernel_rfl) (by kernel_rfl) (by kernel_rfl) fun ds p h hp => ?_
  unfold toSolution_ct at h
  split at h
  · cases h
    exact ⟨noWr, noAnn, by rw [toSolution_vc]; exact toSolution_ok _ _  hp⟩
  · cases h

def eqSolution_p (a : List (List Int)) (c : List (List Int)) (a2 : List (List Int)) (c2 : List (List Int)) : Post := ⟨roomR a ∧ roomR c, .c (.bool (decide (a = a2 ∧ c = c2))), []⟩
def eqSolution_ct : List AD → Option Post
  | [.agg [.rows .i64 (a), .rows .i64 (c)], .agg [.rows .i64 (a2), .rows .i64 (c2)]] => some (eqSolution_p a c a2 c2)
  | _ => none
def eqSolution_G : List (Nat × Ctr) := [(14, ⟨[], eqInt64SS_ct⟩)]
def eqSolution_V (a : List (List Int)) (c : List (List Int)) (a2 : List (List Int)) (c2 : List (List Int)) : Prop :=
  (((Go.Sx.roomR a) ∧
  (True)) ∧
  (BrP (!Decidable.decide (a = a2))
    ((Bool.false = Decidable.decide (a = a2 ∧ c = c2)) ∧
    (True))
    (((Go.Sx.roomR c) ∧
    (True)) ∧
    (BrP (!Decidable.decide (c = c2))
      ((Bool.false = Decidable.decide (a = a2 ∧ c = c2)) ∧
      (True))
      ((Bool.true = Decidable.decide (a = a2 ∧ c = c2)) ∧
      (True))))))
theorem eqSolution_vc (a : List (List Int)) (c : List (List Int)) (a2 : List (List Int)) (c2 : List (List Int)) : runF Try.prog (gam eqSolution_G) noWr noAnn Try.f39 (bodyOf Try.f39) [] [.agg [.rows .i64 (a), .rows .i64 (c)], .agg [.rows .i64 (a2), .rows .i64 (c2)]] (eqSolution_p a c a2 c2) = eqSolution_V a c a2 c2 := by kernel_rfl
theorem eqSolution_ok (a : List (List Int)) (c : List (List Int)) (a2 : List (List Int)) (c2 : List (List Int)) (hpre : (eqSolution_p a c a2 c2).pre) : eqSolution_V a c a2 c2 := by
  simp only [eqSolution_p, eqSolution_V, BrP_iff, true_and, and_true, decide_eq_true_eq, decide_eq_false_iff_not, bne_iff_ne, beq_iff_eq, bne_eq_false_iff_eq, beq_eq_false_iff_ne, Bool.not_eq_true, Bool.not_eq_false, Bool.not_true, Bool.not_false, Bool.not_eq_eq_eq_not, Int.toNat_natCast, List.length_append, List.length_take, List.length_replicate, List.length_set, List.length_map, List.length_drop, List.length_nil, List.length_cons, markL_length, inB, InR, room, bdsOk] at hpre ⊢
  refine ⟨hpre.1, fun h => (decide_eq_false fun e => h e.1).symm, fun h => ⟨hpre.2, fun h2 => (decide_eq_false fun e => h2 e.2).symm, fun h2 => (decide_eq_true ⟨h, h2⟩).symm⟩⟩
theorem eqSolution_fits : Fits Try.prog 39 ⟨[], eqSolution_ct⟩ := by
  refine fits_fn (Γ := gam eqSolution_G) (gok_cons eqInt64SS_fits gok_nil) Try.func39 (by kernel_rfl) (by kernel_rfl) (by kernel_rfl) fun ds p h hp => ?_
  unfold eqSolution_ct at h
  split at h
  · cases h
    exact ⟨noWr, noAnn, by rw [eqSolution_vc]; exact eqSolution_ok _ _ _ _  hp⟩
  · cases h

def markSolution_p (a : List (List Int)) (c : List (List Int)) (k : Int) : Post := ⟨a.length ≤ 1048576 ∧ sumL a ≤ 1048576 ∧ c.length ≤ 1048576 ∧ sumL c ≤ 1048576 ∧ 0 ≤ k ∧ k ≤ 1000000000, .c (.int .i64 (k + (sumL a : Int) + (sumL c : Int))), [.rows 24 2 .i64 (markR a k), .rows 24 2 .i64 (markR c (k + (sumL a : Int)))]⟩
def markSolution_ct : List AD → Option Post
  | [.agg [.rows .i64 (a), .rows .i64 (c)], .c (.int .i64 (k))] => some (markSolution_p a c k)
  | _ => none
def markSolution_G : List (Nat × Ctr) := [(15, ⟨[(0, 0)], markInt64SS_ct⟩)]
def markSolution_V (a : List (List Int)) (c : List (List Int)) (k : Int) : Prop :=
  ((((List.length a ≤ (1048576 : Nat)) ∧
  ((Go.Sx.sumL a ≤ (1048576 : Nat)) ∧
  (((0 : Int) ≤ k) ∧
  (k ≤ (1073741824 : Int))))) ∧
  ((List.map List.length (Go.Sx.markR a k) = List.map List.length a) ∧
  (True))) ∧
  ((((List.length c ≤ (1048576 : Nat)) ∧
  ((Go.Sx.sumL c ≤ (1048576 : Nat)) ∧
  (((0 : Int) ≤ k + (↑(Go.Sx.sumL a) : Int)) ∧
  (k + (↑(Go.Sx.sumL a) : Int) ≤ (1073741824 : Int))))) ∧
  ((List.map List.length (Go.Sx.markR c (k + (↑(Go.Sx.sumL a) : Int))) = List.map List.length c) ∧
  (True))) ∧
  ((k + (↑(Go.Sx.sumL a) : Int) + (↑(Go.Sx.sumL c) : Int) = k + (↑(Go.Sx.sumL a) : Int) + (↑(Go.Sx.sumL c) : Int)) ∧
  ((Go.Sx.markR a k = Go.Sx.markR a k) ∧
  ((Go.Sx.markR c (k + (↑(Go.Sx.sumL a) : Int)) = Go.Sx.markR c (k + (↑(Go.Sx.sumL a) : Int))) ∧
  (True))))))
theorem markSolution_vc (a : List (List Int)) (c : List (List Int)) (k : Int) : runF Try.prog (gam markSolution_G) noWr noAnn Try.f41 (bodyOf Try.f41) [(0, 0), (0, 1)] [.agg [.rows .i64 (a), .rows .i64 (c)], .c (.int .i64 (k))] (markSolution_p a c k) = markSolution_V a c k := by kernel_rfl
theorem markSolution_ok (a : List (List Int)) (c : List (List Int)) (k : Int) (hpre : (markSolution_p a c k).pre) : markSolution_V a c k := by
  simp only [markSolution_p, markSolution_V, BrP_iff, true_and, and_true, decide_eq_true_eq, decide_eq_false_iff_not, bne_iff_ne, beq_iff_eq, bne_eq_false_iff_eq, beq_eq_false_iff_ne, Bool.not_eq_true, Bool.not_eq_false, Bool.not_true, Bool.not_false, Bool.not_eq_eq_eq_not, Int.toNat_natCast, List.length_append, List.length_take, List.length_replicate, List.length_set, List.length_map, List.length_drop, List.length_nil, List.length_cons, markL_length, inB, InR, room, bdsOk] at hpre ⊢
  obtain ⟨a1, a2, c1, c2, k1, k2⟩ := hpre
  exact ⟨⟨⟨a1, a2, k1, by omega⟩, markR_lens a k⟩, ⟨c1, c2, by omega, by omega⟩, markR_lens c _⟩
theorem markSolution_fits : Fits Try.prog 41 ⟨[(0, 0), (0, 1)], markSolution_ct⟩ := by
  refine fits_fn (Γ := gam markSolution_G) (gok_cons markInt64SS_fits gok_nil) Try.func41 (by kernel_rfl) (by kernel_rfl) (by kernel_rfl) fun ds p h hp => ?_
  unfold markSolution_ct at h
  split at h
  · cases h
    exact ⟨noWr, noAnn, by rw [markSolution_vc]; exact markSolution_ok _ _ _  hp⟩
  · cases h

theorem szS_of {a c : List (List Int)} (h : ¬ szS a c 1048576 < 0) : a.length ≤ 1048576 ∧ sumL a ≤ 1048576 ∧ roomR a ∧ c.length ≤ 1048576 ∧ sumL c ≤ 1048576 ∧ roomR c := by
  unfold szS at h
  by_cases h1 : (if (1048576 : Int) < (a.length : Int) + (sumL a : Int) then (-1 : Int) else 1048576 - (a.length : Int) - (sumL a : Int)) < 0
  · rw [if_pos h1] at h; omega
  · rw [if_neg h1] at h
    obtain ⟨e1, e2, e3⟩ := size_of h1
    have h3 : ¬ (if 1048576 < (c.length : Int) + (sumL c : Int) then (-1 : Int) else 1048576 - (c.length : Int) - (sumL c : Int)) < 0 := by
      split at h
      · omega
      · split <;> omega
    obtain ⟨d1, d2, d3⟩ := size_of h3
    exact ⟨e1, e2, e3, d1, d2, d3⟩

theorem actG_len (F S G H : List (List Int)) (w l : List Int) : ∀ i, (actG F S G H w l i).length = l.length
  | 0 => rfl
  | i + 1 => by
    simp only [actG, stG]
    split
    · rw [doL_len, actG_len F S G H w l i]
    · rw [doL_len, actG_len F S G H w l i]

theorem actC_len (F S : List (List Int)) (s : Int) (w l : List Int) : (actC F S s w l).1.length ≤ l.length := by
  unfold actC
  split
  · rw [actG_len]; exact Nat.le_refl _
  · exact Nat.zero_le _

def lAct_p (a : List (List Int)) (c : List (List Int)) (s : Int) (w : List Int) (l : List Int) : Post := ⟨((a.length : Int) ≤ 9223372036854775807 ∧ (∀ r ∈ a, (r.length : Int) ≤ 9223372036854775807)) ∧ ((c.length : Int) ≤ 9223372036854775807 ∧ (∀ r ∈ c, (r.length : Int) ≤ 9223372036854775807)) ∧ (w.length : Int) ≤ 9223372036854775807 ∧ (l.length : Int) ≤ 9223372036854775807, .c (.bool (true)), []⟩
def lAct_ct : List AD → Option Post
  | [.agg [.rows .i64 (a), .rows .i64 (c)], .agg [.int .i64 (s), .ints .i64 (w)], .c (.ints .i64 (l))] => some (lAct_p a c s w l)
  | _ => none
def lAct_G : List (Nat × Ctr) := [(33, ⟨[], szSolution_ct⟩), (34, ⟨[], szBraid_ct⟩), (51, ⟨[], szInt64S_ct⟩), (36, ⟨[], toSolution_ct⟩), (37, ⟨[], toBraid_ct⟩), (30, ⟨[], toInt64S_ct⟩), (39, ⟨[], eqSolution_ct⟩), (40, ⟨[], eqBraid_ct⟩), (13, ⟨[], eqInt64S_ct⟩), (41, ⟨[(0, 0), (0, 1)], markSolution_ct⟩), (42, ⟨[(0, 1)], markBraid_ct⟩), (16, ⟨[(0, 0)], markInt64S_ct⟩), (17, ⟨[], heldInt64S_ct⟩), (35, ⟨[], sAct_ct⟩), (38, ⟨[], iAct_ct⟩)]
def lAct_V (a : List (List Int)) (c : List (List Int)) (s : Int) (w : List Int) (l : List Int) : Prop :=
  (BrP (Decidable.decide ((1048576 : Int) < (↑(List.length l) : Int)))
    ((Bool.true = Bool.true) ∧
    (True))
    ((((((↑(List.length a) : Int) ≤ (9223372036854775807 : Int)) ∧
    (∀ (r : List Int), r ∈ a → (↑(List.length r) : Int) ≤ (9223372036854775807 : Int))) ∧
    ((((↑(List.length c) : Int) ≤ (9223372036854775807 : Int)) ∧
    (∀ (r : List Int), r ∈ c → (↑(List.length r) : Int) ≤ (9223372036854775807 : Int))) ∧
    (((0 : Int) ≤ (1048576 : Int)) ∧
    ((1048576 : Int) ≤ (1099511627776 : Int))))) ∧
    (True)) ∧
    (BrP (Decidable.decide (Go.Sx.szS a c (1048576 : Int) < (0 : Int)))
      ((Bool.true = Bool.true) ∧
      (True))
      (((((↑(List.length w) : Int) ≤ (9223372036854775807 : Int)) ∧
      (((0 : Int) ≤ Go.Sx.szS a c (1048576 : Int)) ∧
      (Go.Sx.szS a c (1048576 : Int) ≤ (1099511627776 : Int)))) ∧
      (True)) ∧
      (BrP (Decidable.decide ((if Go.Sx.szS a c (1048576 : Int) < (↑(List.length w) : Int) then (-1 : Int) else Go.Sx.szS a c (1048576 : Int) - (↑(List.length w) : Int)) < (0 : Int)))
        ((Bool.true = Bool.true) ∧
        (True))
        ((((Go.Sx.roomR a) ∧
        (Go.Sx.roomR c)) ∧
        (True)) ∧
        (((Go.Sx.room (List.length w)) ∧
        (True)) ∧
        (((Go.Sx.room (List.length l)) ∧
        (True)) ∧
        ((((Go.Sx.roomR a) ∧
        ((Go.Sx.roomR c) ∧
        ((Go.Sx.room (List.length w)) ∧
        (Go.Sx.room (List.length l))))) ∧
        (True)) ∧
        ((((Go.Sx.roomR a) ∧
        (Go.Sx.roomR c)) ∧
        (True)) ∧
        (((Go.Sx.room (List.length w)) ∧
        (True)) ∧
        (((Go.Sx.room (List.length l)) ∧
        (True)) ∧
        ((((Go.Sx.roomR a) ∧
        ((Go.Sx.roomR c) ∧
        ((Go.Sx.room (List.length w)) ∧
        (Go.Sx.room (List.length l))))) ∧
        (True)) ∧
        (((Go.Sx.room (List.length (Prod.fst (Go.Sx.actC a c s w l)))) ∧
        (True)) ∧
        (BrP (!Decidable.decide (Prod.fst (Go.Sx.actC a c s w l) = Prod.fst (Go.Sx.actC a c s w l)))
          ((Bool.false = Bool.true) ∧
          (True))
          (BrP (Prod.snd (Go.Sx.actC a c s w l) != Prod.snd (Go.Sx.actC a c s w l))
            ((Bool.false = Bool.true) ∧
            (True))
            ((((Go.Sx.roomR a) ∧
            (Go.Sx.roomR c)) ∧
            (True)) ∧
            ((((Go.Sx.roomR a) ∧
            (Go.Sx.roomR c)) ∧
            (True)) ∧
            (BrP (!Decidable.decide (a = a ∧ c = c))
              ((Bool.false = Bool.true) ∧
              (True))
              (((Go.Sx.room (List.length w)) ∧
              (True)) ∧
              (((Go.Sx.room (List.length w)) ∧
              (True)) ∧
              (BrP (!Decidable.decide (s = s ∧ w = w))
                ((Bool.false = Bool.true) ∧
                (True))
                (((Go.Sx.room (List.length l)) ∧
                (True)) ∧
                (((Go.Sx.room (List.length l)) ∧
                (True)) ∧
                (BrP (!Decidable.decide (l = l))
                  ((Bool.false = Bool.true) ∧
                  (True))
                  ((((List.length a ≤ (1048576 : Nat)) ∧
                  ((Go.Sx.sumL a ≤ (1048576 : Nat)) ∧
                  ((List.length c ≤ (1048576 : Nat)) ∧
                  ((Go.Sx.sumL c ≤ (1048576 : Nat)) ∧
                  (((0 : Int) ≤ (1 : Int)) ∧
                  ((1 : Int) ≤ (1000000000 : Int))))))) ∧
                  ((List.map List.length (Go.Sx.markR a (1 : Int)) = List.map List.length a) ∧
                  ((List.map List.length (Go.Sx.markR c ((1 : Int) + (↑(Go.Sx.sumL a) : Int))) = List.map List.length c) ∧
                  (True)))) ∧
                  ((((Go.Sx.room (List.length w)) ∧
                  (((0 : Int) ≤ (1 : Int) + (↑(Go.Sx.sumL a) : Int) + (↑(Go.Sx.sumL c) : Int)) ∧
                  ((1 : Int) + (↑(Go.Sx.sumL a) : Int) + (↑(Go.Sx.sumL c) : Int) ≤ (1099511627776 : Int)))) ∧
                  ((List.length (Go.Sx.markL ((1 : Int) + (↑(Go.Sx.sumL a) : Int) + (↑(Go.Sx.sumL c) : Int)) (List.length w)) = List.length w) ∧
                  (True))) ∧
                  ((((Go.Sx.room (List.length l)) ∧
                  (((0 : Int) ≤ (1 : Int) + (↑(Go.Sx.sumL a) : Int) + (↑(Go.Sx.sumL c) : Int) + (↑(List.length w) : Int)) ∧
                  ((1 : Int) + (↑(Go.Sx.sumL a) : Int) + (↑(Go.Sx.sumL c) : Int) + (↑(List.length w) : Int) ≤ (1099511627776 : Int)))) ∧
                  ((List.length (Go.Sx.markL ((1 : Int) + (↑(Go.Sx.sumL a) : Int) + (↑(Go.Sx.sumL c) : Int) + (↑(List.length w) : Int)) (List.length l)) = List.length l) ∧
                  (True))) ∧
                  (BrP (Decidable.decide ((1 : Int) + (↑(Go.Sx.sumL a) : Int) + (↑(Go.Sx.sumL c) : Int) + (↑(List.length w) : Int) + (↑(List.length l) : Int) < (0 : Int)))
                    ((Bool.false = Bool.true) ∧
                    (True))
                    (((Go.Sx.room (List.length (Prod.fst (Go.Sx.actC a c s w l)))) ∧
                    (True)) ∧
                    (BrP (!Decidable.decide (Prod.fst (Go.Sx.actC a c s w l) = Prod.fst (Go.Sx.actC a c s w l)))
                      ((Bool.false = Bool.true) ∧
                      (True))
                      (BrP (Prod.snd (Go.Sx.actC a c s w l) != Prod.snd (Go.Sx.actC a c s w l))
                        ((Bool.false = Bool.true) ∧
                        (True))
                        ((((Go.Sx.room (List.length (Prod.fst (Go.Sx.actC a c s w l)))) ∧
                        (((0 : Int) ≤ (1 : Int)) ∧
                        ((1 : Int) ≤ (1099511627776 : Int)))) ∧
                        ((List.length (Go.Sx.markL (1 : Int) (List.length (Prod.fst (Go.Sx.actC a c s w l)))) = List.length (Prod.fst (Go.Sx.actC a c s w l))) ∧
                        (True))) ∧
                        ((((Go.Sx.room (List.length (Go.Sx.markL (1 : Int) (List.length (Prod.fst (Go.Sx.actC a c s w l)))))) ∧
                        (((0 : Int) ≤ (1 : Int)) ∧
                        ((1 : Int) ≤ (1099511627776 : Int)))) ∧
                        (True)) ∧
                        (BrP (Decidable.decide ((if Go.Sx.markL (1 : Int) (List.length (Prod.fst (Go.Sx.actC a c s w l))) = Go.Sx.markL (1 : Int) (List.length (Go.Sx.markL (1 : Int) (List.length (Prod.fst (Go.Sx.actC a c s w l))))) then (1 : Int) + (↑(List.length (Go.Sx.markL (1 : Int) (List.length (Prod.fst (Go.Sx.actC a c s w l))))) : Int) else (-1 : Int)) < (0 : Int)))
                          ((Bool.false = Bool.true) ∧
                          (True))
                          (BrP ((if Go.Sx.markL (1 : Int) (List.length (Prod.fst (Go.Sx.actC a c s w l))) = Go.Sx.markL (1 : Int) (List.length (Go.Sx.markL (1 : Int) (List.length (Prod.fst (Go.Sx.actC a c s w l))))) then (1 : Int) + (↑(List.length (Go.Sx.markL (1 : Int) (List.length (Prod.fst (Go.Sx.actC a c s w l))))) : Int) else (-1 : Int)) != (1 : Int) + (↑(List.length (Prod.fst (Go.Sx.actC a c s w l))) : Int))
                            ((Bool.false = Bool.true) ∧
                            (True))
                            ((((Go.Sx.roomR a) ∧
                            (Go.Sx.roomR c)) ∧
                            (True)) ∧
                            (((Go.Sx.room (List.length w)) ∧
                            (True)) ∧
                            (((Go.Sx.room (List.length l)) ∧
                            (True)) ∧
                            ((((Go.Sx.roomR a) ∧
                            ((Go.Sx.roomR c) ∧
                            ((Go.Sx.room (List.length w)) ∧
                            (Go.Sx.room (List.length l))))) ∧
                            (True)) ∧
                            (((Go.Sx.room (List.length (Prod.fst (Go.Sx.actC a c s w l)))) ∧
                            (True)) ∧
                            (BrP (!Decidable.decide (Prod.fst (Go.Sx.actC a c s w l) = Prod.fst (Go.Sx.actC a c s w l)))
                              ((Bool.false = Bool.true) ∧
                              (True))
                              (BrP (Prod.snd (Go.Sx.actC a c s w l) != Prod.snd (Go.Sx.actC a c s w l))
                                ((Bool.false = Bool.true) ∧
                                (True))
                                ((((Go.Sx.room (List.length (Go.Sx.markL (1 : Int) (List.length (Prod.fst (Go.Sx.actC a c s w l)))))) ∧
                                (((0 : Int) ≤ (1 : Int)) ∧
                                ((1 : Int) ≤ (1099511627776 : Int)))) ∧
                                (True)) ∧
                                (BrP (Decidable.decide ((if Go.Sx.markL (1 : Int) (List.length (Prod.fst (Go.Sx.actC a c s w l))) = Go.Sx.markL (1 : Int) (List.length (Go.Sx.markL (1 : Int) (List.length (Prod.fst (Go.Sx.actC a c s w l))))) then (1 : Int) + (↑(List.length (Go.Sx.markL (1 : Int) (List.length (Prod.fst (Go.Sx.actC a c s w l))))) : Int) else (-1 : Int)) < (0 : Int)))
                                  ((Bool.false = Bool.true) ∧
                                  (True))
                                  (BrP ((if Go.Sx.markL (1 : Int) (List.length (Prod.fst (Go.Sx.actC a c s w l))) = Go.Sx.markL (1 : Int) (List.length (Go.Sx.markL (1 : Int) (List.length (Prod.fst (Go.Sx.actC a c s w l))))) then (1 : Int) + (↑(List.length (Go.Sx.markL (1 : Int) (List.length (Prod.fst (Go.Sx.actC a c s w l))))) : Int) else (-1 : Int)) != (1 : Int) + (↑(List.length (Prod.fst (Go.Sx.actC a c s w l))) : Int))
                                    ((Bool.false = Bool.true) ∧
                                    (True))
                                    ((Bool.true = Bool.true) ∧
                                    (True))))))))))))))))))))))))))))))))))))))))))))))))
theorem lAct_vc (a : List (List Int)) (c : List (List Int)) (s : Int) (w : List Int) (l : List Int) : runF Try.prog (gam lAct_G) noWr noAnn Try.f6 (bodyOf Try.f6) [] [.agg [.rows .i64 (a), .rows .i64 (c)], .agg [.int .i64 (s), .ints .i64 (w)], .c (.ints .i64 (l))] (lAct_p a c s w l) = lAct_V a c s w l := by kernel_rfl
theorem lAct_ok (a : List (List Int)) (c : List (List Int)) (s : Int) (w : List Int) (l : List Int) (hpre : (lAct_p a c s w l).pre) : lAct_V a c s w l := by
  simp only [lAct_p, lAct_V, BrP_iff, true_and, and_true, decide_eq_true_eq, decide_eq_false_iff_not, bne_iff_ne, beq_iff_eq, bne_eq_false_iff_eq, beq_eq_false_iff_ne, Bool.not_eq_true, Bool.not_eq_false, Bool.not_true, Bool.not_false, Bool.not_eq_eq_eq_not, Int.toNat_natCast, List.length_append, List.length_take, List.length_replicate, List.length_set, List.length_map, List.length_drop, List.length_nil, List.length_cons, markL_length, inB, InR, room, bdsOk] at hpre ⊢
  obtain ⟨⟨a1, a2⟩, ⟨c1, c2⟩, w1, l1⟩ := hpre
  refine ⟨fun _ => trivial, fun h0 => ⟨⟨⟨a1, a2⟩, ⟨c1, c2⟩, by omega, by omega⟩, fun _ => trivial, fun h => ?_⟩⟩
  obtain ⟨e1, e2, e3, d1, d2, d3⟩ := szS_of h
  have hk : szS a c 1048576 ≤ 1048576 := by
    unfold szS
    split
    · omega
    · split <;> omega
  refine ⟨⟨w1, by omega, by omega⟩, fun _ => trivial, fun h2 => ?_⟩
  have hw : w.length ≤ 1048576 := by split at h2 <;> omega
  have hl : l.length ≤ 1048576 := by omega
  have r1 : w.length ≤ 1099511627776 := by omega
  have r2 : l.length ≤ 1099511627776 := by omega
  have ac := actC_len a c s w l
  have r3 : (actC a c s w l).1.length ≤ 1099511627776 := by omega
  have r4 : ¬ (1 + ((actC a c s w l).1.length : Int) < 0) := by omega
  have m1 := markR_lens a 1
  have m2 := markR_lens c (1 + (sumL a : Int))
  have k1 : 0 ≤ 1 + (sumL a : Int) + (sumL c : Int) ∧ 1 + (sumL a : Int) + (sumL c : Int) ≤ 1099511627776 := by omega
  have k2 : 0 ≤ 1 + (sumL a : Int) + (sumL c : Int) + (w.length : Int) ∧ 1 + (sumL a : Int) + (sumL c : Int) + (w.length : Int) ≤ 1099511627776 := by omega
  have k3 : ¬ (1 + (sumL a : Int) + (sumL c : Int) + (w.length : Int) + (l.length : Int) < 0) := by omega
  simp [e1, e2, e3, d1, d2, d3, r1, r2, r3, r4, m1, m2, k1, k2, k3]
theorem lAct_fits : Fits Try.prog 6 ⟨[], lAct_ct⟩ := by
  refine fits_fn (Γ := gam lAct_G) (gok_cons szSolution_fits (gok_cons szBraid_fits (gok_cons szInt64S_fits (gok_cons toSolution_fits (gok_cons toBraid_fits (gok_cons toInt64S_fits (gok_cons eqSolution_fits (gok_cons eqBraid_fits (gok_cons eqInt64S_fits (gok_cons markSolution_fits (gok_cons markBraid_fits (gok_cons markInt64S_fits (gok_cons heldInt64S_fits (gok_cons sAct_fits (gok_cons iAct_fits gok_nil))))))))))))))) Try.func6 (by kernel_rfl) (by kernel_rfl) (by kernel_rfl) fun ds p h hp => ?_
  unfold lAct_ct at h
  split at h
  · cases h
    exact ⟨noWr, noAnn, by rw [lAct_vc]; exact lAct_ok _ _ _ _ _  hp⟩
  · cases h

end Go.Sx

