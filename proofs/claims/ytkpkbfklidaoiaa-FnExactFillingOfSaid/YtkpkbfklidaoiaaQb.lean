/- Contracts on the way of QuandleBoundary. -/
import Derived.Test.YtkpkbfklidaoiaaRb
import Derived.Test.YtkpkbfklidaoiaaInc
open Go Go.Proofs
namespace Go.Sx
set_option linter.unusedSimpArgs false
set_option linter.unusedVariables false

/-- Two neighbours are equal. -/
def flB (x : List Int) : Bool := !((List.range (x.length - 1)).all fun i => decide (x.getD (i + 1) 0 ≠ x.getD i 0))

def l15Flat_p (x : List Int) : Post := ⟨x.length ≤ 1000, .c (.bool (flB x)), []⟩
def l15Flat_ct : List AD → Option Post
  | [.c (.ints .i64 (x))] => some (l15Flat_p x)
  | _ => none
def l15Flat_ann (x : List Int) : Nat → Option Ann
  | 0 => some (Ann.mk ((Nat)) (fun i => ⟨[(0, .c (.ro (.ints .i64 (x)))), (3, .c (.int .i64 ((i : Int) + 1)))], []⟩) (fun i => i ≤ x.length ∧ flB x = !((List.range' i (x.length - 1 - i)).all fun i => decide (x.getD (i + 1) 0 ≠ x.getD i 0))) (fun i => x.length - i) (fun _ => noAnn))
  | _ => none
def l15Flat_G : List (Nat × Ctr) := []
def l15Flat_V (x : List Int) : Prop :=
  ((∃ x0 : Nat, (((x0 ≤ List.length x) ∧
  (Go.Sx.flB x = !List.all (List.range' x0 (List.length x - (1 : Nat) - x0)) fun (i : Nat) => Decidable.decide (List.getD x (i + (1 : Nat)) (0 : Int) ≠ List.getD x i (0 : Int)))) ∧
  ((x = x) ∧
  ((1 : Int) = (↑x0 : Int) + (1 : Int))))) ∧
  (∀ x1 : Nat, (((x1 ≤ List.length x) ∧
  (Go.Sx.flB x = !List.all (List.range' x1 (List.length x - (1 : Nat) - x1)) fun (i : Nat) => Decidable.decide (List.getD x (i + (1 : Nat)) (0 : Int) ≠ List.getD x i (0 : Int)))) →
  (BrP (Decidable.decide ((↑x1 : Int) + (1 : Int) < (↑(List.length x) : Int)))
    ((Go.Sx.inB ((↑x1 : Int) + (1 : Int)) (List.length x)) ∧
    ((Go.Sx.InR ((↑x1 : Int) + (1 : Int) - (1 : Int))) ∧
    ((Go.Sx.inB ((↑x1 : Int) + (1 : Int) - (1 : Int)) (List.length x)) ∧
    (BrP (List.getD x (Int.toNat ((↑x1 : Int) + (1 : Int))) (0 : Int) == List.getD x (Int.toNat ((↑x1 : Int) + (1 : Int) - (1 : Int))) (0 : Int))
      ((Bool.true = Go.Sx.flB x) ∧
      (True))
      ((Go.Sx.InR ((↑x1 : Int) + (1 : Int) + (1 : Int))) ∧
      (∃ x2 : Nat, (((x2 ≤ List.length x) ∧
      (Go.Sx.flB x = !List.all (List.range' x2 (List.length x - (1 : Nat) - x2)) fun (i : Nat) => Decidable.decide (List.getD x (i + (1 : Nat)) (0 : Int) ≠ List.getD x i (0 : Int)))) ∧
      ((List.length x - x2 < List.length x - x1) ∧
      ((x = x) ∧
      ((↑x1 : Int) + (1 : Int) + (1 : Int) = (↑x2 : Int) + (1 : Int)))))))))))
    ((Bool.false = Go.Sx.flB x) ∧
    (True))))))
theorem l15Flat_vc (x : List Int) : runF Try.prog (gam l15Flat_G) noWr (l15Flat_ann x) Try.f74 (bodyOf Try.f74) [] [.c (.ints .i64 (x))] (l15Flat_p x) = l15Flat_V x := by kernel_rfl
theorem l15Flat_ok (x : List Int) (hpre : (l15Flat_p x).pre) : l15Flat_V x := by
  simp only [l15Flat_p, l15Flat_V, BrP_iff, true_and, and_true, decide_eq_true_eq, decide_eq_false_iff_not, bne_iff_ne, beq_iff_eq, bne_eq_false_iff_eq, beq_eq_false_iff_ne, Bool.not_eq_true, Bool.not_eq_false, Bool.not_true, Bool.not_false, Bool.not_eq_eq_eq_not, Int.toNat_natCast, List.length_append, List.length_take, List.length_replicate, List.length_set, List.length_map, List.length_drop, List.length_nil, List.length_cons, markL_length, inB, InR, room, bdsOk] at hpre ⊢
  refine ⟨⟨0, ⟨by omega, by rw [flB, rg_start, Nat.sub_zero]⟩, by omega⟩, fun i ⟨hi, he⟩ => ⟨fun h => ?_, fun h => ?_⟩⟩
  · rw [rg_step _ (by omega)] at he
    rw [show ((i : Int) + 1).toNat = i + 1 by omega, show ((i : Int) + 1 - 1).toNat = i by omega]
    refine ⟨by omega, by omega, by omega, fun h2 => ?_, fun h2 => ⟨by omega, i + 1, ⟨by omega, ?_⟩, by omega, by omega⟩⟩
    · rw [he, decide_eq_false (by rw [h2]; simp)]; rfl
    · rw [he, decide_eq_true h2, Bool.true_and]
  · rw [he, rg_end _ (by omega)]; rfl
theorem l15Flat_fits : Fits Try.prog 74 ⟨[], l15Flat_ct⟩ := by
  refine fits_fn (Γ := gam l15Flat_G) gok_nil Try.func74 (by kernel_rfl) (by kernel_rfl) (by kernel_rfl) fun ds p h hp => ?_
  unfold l15Flat_ct at h
  split at h
  · cases h
    exact ⟨noWr, l15Flat_ann _ , by rw [l15Flat_vc]; exact l15Flat_ok _  hp⟩
  · cases h

def isDegenerate_p (x : List Int) : Post := ⟨x.length ≤ 1000, .c (.bool (flB x)), []⟩
def isDegenerate_ct : List AD → Option Post
  | [.c (.ints .i64 (x))] => some (isDegenerate_p x)
  | _ => none
def isDegenerate_ann (x : List Int) : Nat → Option Ann
  | 0 => some (Ann.mk ((Nat)) (fun i => ⟨[(0, .c (.ro (.ints .i64 (x)))), (3, .c (.int .i64 ((i : Int) + 1)))], []⟩) (fun i => i ≤ x.length ∧ flB x = !((List.range' i (x.length - 1 - i)).all fun i => decide (x.getD (i + 1) 0 ≠ x.getD i 0))) (fun i => x.length - i) (fun _ => noAnn))
  | _ => none
def isDegenerate_G : List (Nat × Ctr) := []
def isDegenerate_V (x : List Int) : Prop :=
  ((∃ x0 : Nat, (((x0 ≤ List.length x) ∧
  (Go.Sx.flB x = !List.all (List.range' x0 (List.length x - (1 : Nat) - x0)) fun (i : Nat) => Decidable.decide (List.getD x (i + (1 : Nat)) (0 : Int) ≠ List.getD x i (0 : Int)))) ∧
  ((x = x) ∧
  ((1 : Int) = (↑x0 : Int) + (1 : Int))))) ∧
  (∀ x1 : Nat, (((x1 ≤ List.length x) ∧
  (Go.Sx.flB x = !List.all (List.range' x1 (List.length x - (1 : Nat) - x1)) fun (i : Nat) => Decidable.decide (List.getD x (i + (1 : Nat)) (0 : Int) ≠ List.getD x i (0 : Int)))) →
  (BrP (Decidable.decide ((↑x1 : Int) + (1 : Int) < (↑(List.length x) : Int)))
    ((Go.Sx.inB ((↑x1 : Int) + (1 : Int)) (List.length x)) ∧
    ((Go.Sx.InR ((↑x1 : Int) + (1 : Int) - (1 : Int))) ∧
    ((Go.Sx.inB ((↑x1 : Int) + (1 : Int) - (1 : Int)) (List.length x)) ∧
    (BrP (List.getD x (Int.toNat ((↑x1 : Int) + (1 : Int))) (0 : Int) == List.getD x (Int.toNat ((↑x1 : Int) + (1 : Int) - (1 : Int))) (0 : Int))
      ((Bool.true = Go.Sx.flB x) ∧
      (True))
      ((Go.Sx.InR ((↑x1 : Int) + (1 : Int) + (1 : Int))) ∧
      (∃ x2 : Nat, (((x2 ≤ List.length x) ∧
      (Go.Sx.flB x = !List.all (List.range' x2 (List.length x - (1 : Nat) - x2)) fun (i : Nat) => Decidable.decide (List.getD x (i + (1 : Nat)) (0 : Int) ≠ List.getD x i (0 : Int)))) ∧
      ((List.length x - x2 < List.length x - x1) ∧
      ((x = x) ∧
      ((↑x1 : Int) + (1 : Int) + (1 : Int) = (↑x2 : Int) + (1 : Int)))))))))))
    ((Bool.false = Go.Sx.flB x) ∧
    (True))))))
theorem isDegenerate_vc (x : List Int) : runF Try.prog (gam isDegenerate_G) noWr (isDegenerate_ann x) Try.f49 (bodyOf Try.f49) [] [.c (.ints .i64 (x))] (isDegenerate_p x) = isDegenerate_V x := by kernel_rfl
theorem isDegenerate_ok (x : List Int) (hpre : (isDegenerate_p x).pre) : isDegenerate_V x := by
  simp only [isDegenerate_p, isDegenerate_V, BrP_iff, true_and, and_true, decide_eq_true_eq, decide_eq_false_iff_not, bne_iff_ne, beq_iff_eq, bne_eq_false_iff_eq, beq_eq_false_iff_ne, Bool.not_eq_true, Bool.not_eq_false, Bool.not_true, Bool.not_false, Bool.not_eq_eq_eq_not, Int.toNat_natCast, List.length_append, List.length_take, List.length_replicate, List.length_set, List.length_map, List.length_drop, List.length_nil, List.length_cons, markL_length, inB, InR, room, bdsOk] at hpre ⊢
  refine ⟨⟨0, ⟨by omega, by rw [flB, rg_start, Nat.sub_zero]⟩, by omega⟩, fun i ⟨hi, he⟩ => ⟨fun h => ?_, fun h => ?_⟩⟩
  · rw [rg_step _ (by omega)] at he
    rw [show ((i : Int) + 1).toNat = i + 1 by omega, show ((i : Int) + 1 - 1).toNat = i by omega]
    refine ⟨by omega, by omega, by omega, fun h2 => ?_, fun h2 => ⟨by omega, i + 1, ⟨by omega, ?_⟩, by omega, by omega⟩⟩
    · rw [he, decide_eq_false (by rw [h2]; simp)]; rfl
    · rw [he, decide_eq_true h2, Bool.true_and]
  · rw [he, rg_end _ (by omega)]; rfl
theorem isDegenerate_fits : Fits Try.prog 49 ⟨[], isDegenerate_ct⟩ := by
  refine fits_fn (Γ := gam isDegenerate_G) gok_nil Try.func49 (by kernel_rfl) (by kernel_rfl) (by kernel_rfl) fun ds p h hp => ?_
  unfold isDegenerate_ct at h
  split at h
  · cases h
    exact ⟨noWr, isDegenerate_ann _ , by rw [isDegenerate_vc]; exact isDegenerate_ok _  hp⟩
  · cases h

/-- The chain with the coefficients of flat tuples below i replaced by 0. -/
def clrN (n k : Int) (c : List Int) (i : Nat) : List Int := tab c.length fun q => if q < i ∧ flB (digN n k.toNat (q : Int)) = true then 0 else c.getD q 0

theorem clrN_length (n k : Int) (c : List Int) (i : Nat) : (clrN n k c i).length = c.length := tab_length _ _
theorem clrN_zero (n k : Int) (c : List Int) : clrN n k c 0 = c := by
  conv => rhs; rw [eq_tab c]
  exact tab_ext fun q _ => if_neg (by omega)
theorem clrN_yes {n k : Int} {c : List Int} {i : Nat} (h : flB (digN n k.toNat (i : Int)) = true) : (clrN n k c i).set i 0 = clrN n k c (i + 1) := by
  rw [clrN, tab_set]
  refine tab_ext fun q _ => ?_
  by_cases hq : q = i
  · subst hq; rw [if_pos rfl, if_pos ⟨by omega, h⟩]
  · rw [if_neg hq]
    by_cases h2 : q < i ∧ flB (digN n k.toNat (q : Int)) = true
    · rw [if_pos h2, if_pos ⟨by omega, h2.2⟩]
    · rw [if_neg h2, if_neg fun h3 => h2 ⟨by omega, h3.2⟩]
theorem clrN_no {n k : Int} {c : List Int} {i : Nat} (h : flB (digN n k.toNat (i : Int)) = false) : clrN n k c i = clrN n k c (i + 1) := by
  refine tab_ext fun q _ => ?_
  by_cases hq : q = i
  · subst hq; rw [if_neg (by omega), if_neg (by rw [h]; simp)]
  · by_cases h2 : q < i ∧ flB (digN n k.toNat (q : Int)) = true
    · rw [if_pos h2, if_pos ⟨by omega, h2.2⟩]
    · rw [if_neg h2, if_neg fun h3 => h2 ⟨by omega, h3.2⟩]

def withoutDegenerate_p (n : Int) (k : Int) (c : List Int) : Post := ⟨1 ≤ n ∧ 0 ≤ k ∧ k ≤ 1000 ∧ c.length ≤ 1000000, .tup [], [.ints 2 .i64 (clrN n k c c.length)]⟩
def withoutDegenerate_ct : List AD → Option Post
  | [.c (.int .i64 (n)), .c (.int .i64 (k)), .c (.ints .i64 (c))] => some (withoutDegenerate_p n k c)
  | _ => none
def withoutDegenerate_ann (n : Int) (k : Int) (c : List Int) : Nat → Option Ann
  | 0 => some (Ann.mk ((Nat)) (fun i => ⟨[(0, .c (.int .i64 (n))), (1, .c (.int .i64 (k))), (2, .c (.own (732))), (8, .c (.int .i64 ((c.length : Int)))), (9, .c (.int .i64 ((i : Int))))], [(732, some (.ints 2 .i64 (clrN n k c i)))]⟩) (fun i => i ≤ c.length) (fun i => c.length - i) (fun _ => noAnn))
  | _ => none
def withoutDegenerate_G : List (Nat × Ctr) := [(50, ⟨[], tupleOf_ct⟩), (49, ⟨[], isDegenerate_ct⟩)]
def withoutDegenerate_V (n : Int) (k : Int) (c : List Int) : Prop :=
  ((∃ x0 : Nat, ((x0 ≤ List.length c) ∧
  ((n = n) ∧
  ((k = k) ∧
  (((↑(List.length c) : Int) = (↑(List.length c) : Int)) ∧
  (((0 : Int) = (↑x0 : Int)) ∧
  (c = Go.Sx.clrN n k c x0))))))) ∧
  (∀ x1 : Nat, ((x1 ≤ List.length c) →
  (BrP (Decidable.decide ((↑x1 : Int) < (↑(List.length c) : Int)))
    (((((1 : Int) ≤ n) ∧
    (((0 : Int) ≤ k) ∧
    ((k ≤ (1000 : Int)) ∧
    (((0 : Int) ≤ (↑x1 : Int)) ∧
    ((↑x1 : Int) ≤ (1000000 : Int)))))) ∧
    (True)) ∧
    (((List.length (Go.Sx.digN n (Int.toNat k) (↑x1 : Int)) ≤ (1000 : Nat)) ∧
    (True)) ∧
    (BrP (Go.Sx.flB (Go.Sx.digN n (Int.toNat k) (↑x1 : Int)))
      ((Go.Sx.inB (↑x1 : Int) (List.length (Go.Sx.clrN n k c x1))) ∧
      ((Go.Sx.InR ((↑x1 : Int) + (1 : Int))) ∧
      (∃ x2 : Nat, ((x2 ≤ List.length c) ∧
      ((List.length c - x2 < List.length c - x1) ∧
      ((n = n) ∧
      ((k = k) ∧
      (((↑(List.length c) : Int) = (↑(List.length c) : Int)) ∧
      (((↑x1 : Int) + (1 : Int) = (↑x2 : Int)) ∧
      (List.set (Go.Sx.clrN n k c x1) (Int.toNat (↑x1 : Int)) (0 : Int) = Go.Sx.clrN n k c x2))))))))))
      ((Go.Sx.InR ((↑x1 : Int) + (1 : Int))) ∧
      (∃ x3 : Nat, ((x3 ≤ List.length c) ∧
      ((List.length c - x3 < List.length c - x1) ∧
      ((n = n) ∧
      ((k = k) ∧
      (((↑(List.length c) : Int) = (↑(List.length c) : Int)) ∧
      (((↑x1 : Int) + (1 : Int) = (↑x3 : Int)) ∧
      (Go.Sx.clrN n k c x1 = Go.Sx.clrN n k c x3))))))))))))
    ((True) ∧
    ((Go.Sx.clrN n k c x1 = Go.Sx.clrN n k c (List.length c)) ∧
    (True)))))))
theorem withoutDegenerate_vc (n : Int) (k : Int) (c : List Int) : runF Try.prog (gam withoutDegenerate_G) noWr (withoutDegenerate_ann n k c) Try.f72 (bodyOf Try.f72) [(2, 0)] [.c (.int .i64 (n)), .c (.int .i64 (k)), .c (.ints .i64 (c))] (withoutDegenerate_p n k c) = withoutDegenerate_V n k c := by kernel_rfl
theorem withoutDegenerate_ok (n : Int) (k : Int) (c : List Int) (hpre : (withoutDegenerate_p n k c).pre) : withoutDegenerate_V n k c := by
  simp only [withoutDegenerate_p, withoutDegenerate_V, BrP_iff, true_and, and_true, decide_eq_true_eq, decide_eq_false_iff_not, bne_iff_ne, beq_iff_eq, bne_eq_false_iff_eq, beq_eq_false_iff_ne, Bool.not_eq_true, Bool.not_eq_false, Bool.not_true, Bool.not_false, Bool.not_eq_eq_eq_not, Int.toNat_natCast, List.length_append, List.length_take, List.length_replicate, List.length_set, List.length_map, List.length_drop, List.length_nil, List.length_cons, markL_length, inB, InR, room, bdsOk] at hpre ⊢
  obtain ⟨h1, h2, h3, h4⟩ := hpre
  refine ⟨⟨0, by omega, rfl, (clrN_zero n k c).symm⟩, fun i hi => ⟨fun h => ?_, fun h => by rw [show i = c.length by omega]⟩⟩
  rw [digN_length, clrN_length]
  exact ⟨by omega, by omega, fun hf => ⟨by omega, by omega, i + 1, by omega, by omega, by omega, clrN_yes hf⟩, fun hf => ⟨by omega, i + 1, by omega, by omega, by omega, clrN_no hf⟩⟩
theorem withoutDegenerate_fits : Fits Try.prog 72 ⟨[(2, 0)], withoutDegenerate_ct⟩ := by
  refine fits_fn (Γ := gam withoutDegenerate_G) (gok_cons tupleOf_fits (gok_cons isDegenerate_fits gok_nil)) Try.func72 (by kernel_rfl) (by kernel_rfl) (by kernel_rfl) fun ds p h hp => ?_
  unfold withoutDegenerate_ct at h
  split at h
  · cases h
    exact ⟨noWr, withoutDegenerate_ann _ _ _ , by rw [withoutDegenerate_vc]; exact withoutDegenerate_ok _ _ _  hp⟩
  · cases h

def l15Clear_p (n : Int) (k : Int) (c : List Int) : Post := ⟨1 ≤ n ∧ 0 ≤ k ∧ k ≤ 1000 ∧ c.length ≤ 1000000, .c (.ints 2 .i64 (clrN n k c c.length)), []⟩
def l15Clear_ct : List AD → Option Post
  | [.c (.int .i64 (n)), .c (.int .i64 (k)), .c (.ints .i64 (c))] => some (l15Clear_p n k c)
  | _ => none
def l15Clear_ann (n : Int) (k : Int) (c : List Int) : Nat → Option Ann
  | 0 => some (Ann.mk ((Nat)) (fun i => ⟨[(0, .c (.int .i64 (n))), (1, .c (.int .i64 (k))), (7, .c (.own (10))), (8, .c (.int .i64 ((i : Int))))], [(10, some (.ints 2 .i64 (clrN n k c i)))]⟩) (fun i => i ≤ c.length) (fun i => c.length - i) (fun _ => noAnn))
  | _ => none
def l15Clear_G : List (Nat × Ctr) := [(57, ⟨[], l01Own_ct⟩), (53, ⟨[], l15Tuple_ct⟩), (74, ⟨[], l15Flat_ct⟩)]
def l15Clear_V (n : Int) (k : Int) (c : List Int) : Prop :=
  (((Go.Sx.room (List.length c)) ∧
  (True)) ∧
  ((∃ x0 : Nat, ((x0 ≤ List.length c) ∧
  ((n = n) ∧
  ((k = k) ∧
  (((0 : Int) = (↑x0 : Int)) ∧
  (c = Go.Sx.clrN n k c x0)))))) ∧
  (∀ x1 : Nat, ((x1 ≤ List.length c) →
  (BrP (Decidable.decide ((↑x1 : Int) < (↑(List.length (Go.Sx.clrN n k c x1)) : Int)))
    (((((1 : Int) ≤ n) ∧
    (((0 : Int) ≤ k) ∧
    ((k ≤ (1000 : Int)) ∧
    (((0 : Int) ≤ (↑x1 : Int)) ∧
    ((↑x1 : Int) ≤ (1000000 : Int)))))) ∧
    (True)) ∧
    (((List.length (Go.Sx.digN n (Int.toNat k) (↑x1 : Int)) ≤ (1000 : Nat)) ∧
    (True)) ∧
    (BrP (Go.Sx.flB (Go.Sx.digN n (Int.toNat k) (↑x1 : Int)))
      ((Go.Sx.inB (↑x1 : Int) (List.length (Go.Sx.clrN n k c x1))) ∧
      ((Go.Sx.InR ((↑x1 : Int) + (1 : Int))) ∧
      (∃ x2 : Nat, ((x2 ≤ List.length c) ∧
      ((List.length c - x2 < List.length c - x1) ∧
      ((n = n) ∧
      ((k = k) ∧
      (((↑x1 : Int) + (1 : Int) = (↑x2 : Int)) ∧
      (List.set (Go.Sx.clrN n k c x1) (Int.toNat (↑x1 : Int)) (0 : Int) = Go.Sx.clrN n k c x2)))))))))
      ((Go.Sx.InR ((↑x1 : Int) + (1 : Int))) ∧
      (∃ x3 : Nat, ((x3 ≤ List.length c) ∧
      ((List.length c - x3 < List.length c - x1) ∧
      ((n = n) ∧
      ((k = k) ∧
      (((↑x1 : Int) + (1 : Int) = (↑x3 : Int)) ∧
      (Go.Sx.clrN n k c x1 = Go.Sx.clrN n k c x3)))))))))))
    ((Go.Sx.clrN n k c x1 = Go.Sx.clrN n k c (List.length c)) ∧
    (True)))))))
theorem l15Clear_vc (n : Int) (k : Int) (c : List Int) : runF Try.prog (gam l15Clear_G) noWr (l15Clear_ann n k c) Try.f75 (bodyOf Try.f75) [] [.c (.int .i64 (n)), .c (.int .i64 (k)), .c (.ints .i64 (c))] (l15Clear_p n k c) = l15Clear_V n k c := by kernel_rfl
theorem l15Clear_ok (n : Int) (k : Int) (c : List Int) (hpre : (l15Clear_p n k c).pre) : l15Clear_V n k c := by
  simp only [l15Clear_p, l15Clear_V, BrP_iff, true_and, and_true, decide_eq_true_eq, decide_eq_false_iff_not, bne_iff_ne, beq_iff_eq, bne_eq_false_iff_eq, beq_eq_false_iff_ne, Bool.not_eq_true, Bool.not_eq_false, Bool.not_true, Bool.not_false, Bool.not_eq_eq_eq_not, Int.toNat_natCast, List.length_append, List.length_take, List.length_replicate, List.length_set, List.length_map, List.length_drop, List.length_nil, List.length_cons, markL_length, inB, InR, room, bdsOk] at hpre ⊢
  obtain ⟨h1, h2, h3, h4⟩ := hpre
  refine ⟨by omega, ⟨0, by omega, rfl, (clrN_zero n k c).symm⟩, fun i hi => ?_⟩
  rw [clrN_length]
  refine ⟨fun h => ?_, fun h => by rw [show i = c.length by omega]⟩
  rw [digN_length]
  exact ⟨by omega, by omega, fun hf => ⟨by omega, by omega, i + 1, by omega, by omega, by omega, clrN_yes hf⟩, fun hf => ⟨by omega, i + 1, by omega, by omega, by omega, clrN_no hf⟩⟩
theorem l15Clear_fits : Fits Try.prog 75 ⟨[], l15Clear_ct⟩ := by
  refine fits_fn (Γ := gam l15Clear_G) (gok_cons l01Own_fits (gok_cons l15Tuple_fits (gok_cons l15Flat_fits gok_nil))) Try.func75 (by kernel_rfl) (by kernel_rfl) (by kernel_rfl) fun ds p h hp => ?_
  unfold l15Clear_ct at h
  split at h
  · cases h
    exact ⟨noWr, l15Clear_ann _ _ _ , by rw [l15Clear_vc]; exact l15Clear_ok _ _ _  hp⟩
  · cases h

/-- The kink; is it the identity? -/
def kkL (t : List (List Int)) : List Int := tab t.length fun x => en t x x
def qdB (t : List (List Int)) : Bool := (List.range t.length).all fun x => decide (en t x x = (x : Int))

theorem kk_inc {t : List (List Int)} (h : tabB t = true) : incB (kkL t) = qdB t := by
  obtain ⟨n1, n2, ht⟩ := tabB_of h
  have hl : (kkL t).length = t.length := tab_length _ _
  have hr : rngB ((kkL t).length : Int) (kkL t) := fun x hx => by
    simp only [kkL, tab, List.mem_map, List.mem_range] at hx
    obtain ⟨i, hi, rfl⟩ := hx
    have := (ht i hi).2 i hi
    rw [hl]
    unfold en
    omega
  rw [inc_unit hr, hl, Bool.eq_iff_iff, decide_eq_true_iff, qdB, List.all_eq_true]
  constructor
  · intro e x hx
    rw [List.mem_range] at hx
    refine decide_eq_true ?_
    have : (kkL t).getD x 0 = (unitL t.length).getD x 0 := by rw [e]
    rwa [kkL, unitL, tab_getD _ _ _ hx, tab_getD _ _ _ hx] at this
  · intro e
    exact tab_ext fun x hx => of_decide_eq_true (e x (by simpa using hx))

def kinkOf_p (t : List (List Int)) : Post := ⟨tabB t = true, .c (.ints 2 .i64 (kkL t)), []⟩
def kinkOf_ct : List AD → Option Post
  | [.agg [.rows .i64 (t)]] => some (kinkOf_p t)
  | _ => none
def kinkOf_ann (t : List (List Int)) : Nat → Option Ann
  | 0 => some (Ann.mk ((Nat)) (fun i => ⟨[(1, .c (.ptr 1 0)), (3, .c (.own (8))), (10, .c (.int .i64 ((t.length : Int)))), (11, .c (.int .i64 ((i : Int))))], [(1, some (.box [.ro (.rows .i64 (t))])), (8, some (.ints 2 .i64 ((kkL t).take i ++ List.replicate ((kkL t).length - i) 0)))]⟩) (fun i => i ≤ t.length) (fun i => t.length - i) (fun _ => noAnn))
  | _ => none
def kinkOf_G : List (Nat × Ctr) := []
def kinkOf_V (t : List (List Int)) : Prop :=
  ((((0 : Int) ≤ (↑(List.length t) : Int)) ∧
  (((↑(List.length t) : Int) ≤ (↑(List.length t) : Int)) ∧
  (Go.Sx.room (Int.toNat (↑(List.length t) : Int))))) ∧
  ((∃ x0 : Nat, ((x0 ≤ List.length t) ∧
  (((↑(List.length (List.replicate (Int.toNat (↑(List.length t) : Int)) (0 : Int))) : Int) = (↑(List.length t) : Int)) ∧
  (((0 : Int) = (↑x0 : Int)) ∧
  ((t = t) ∧
  (List.replicate (Int.toNat (↑(List.length t) : Int)) (0 : Int) = List.take x0 (Go.Sx.kkL t) ++ List.replicate (List.length (Go.Sx.kkL t) - x0) (0 : Int))))))) ∧
  (∀ x1 : Nat, ((x1 ≤ List.length t) →
  (BrP (Decidable.decide ((↑x1 : Int) < (↑(List.length t) : Int)))
    ((Go.Sx.inB (↑x1 : Int) (List.length t)) ∧
    ((Go.Sx.inB (↑x1 : Int) (List.length (List.getD t (Int.toNat (↑x1 : Int)) []))) ∧
    ((Go.Sx.inB (↑x1 : Int) (List.length (List.take x1 (Go.Sx.kkL t) ++ List.replicate (List.length (Go.Sx.kkL t) - x1) (0 : Int)))) ∧
    ((Go.Sx.InR ((↑x1 : Int) + (1 : Int))) ∧
    (∃ x2 : Nat, ((x2 ≤ List.length t) ∧
    ((List.length t - x2 < List.length t - x1) ∧
    (((↑(List.length t) : Int) = (↑(List.length t) : Int)) ∧
    (((↑x1 : Int) + (1 : Int) = (↑x2 : Int)) ∧
    ((t = t) ∧
    (List.set (List.take x1 (Go.Sx.kkL t) ++ List.replicate (List.length (Go.Sx.kkL t) - x1) (0 : Int)) (Int.toNat (↑x1 : Int)) (List.getD (List.getD t (Int.toNat (↑x1 : Int)) []) (Int.toNat (↑x1 : Int)) (0 : Int)) = List.take x2 (Go.Sx.kkL t) ++ List.replicate (List.length (Go.Sx.kkL t) - x2) (0 : Int))))))))))))
    ((List.take x1 (Go.Sx.kkL t) ++ List.replicate (List.length (Go.Sx.kkL t) - x1) (0 : Int) = Go.Sx.kkL t) ∧
    (True)))))))
theorem kinkOf_vc (t : List (List Int)) : runF Try.prog (gam kinkOf_G) noWr (kinkOf_ann t) Try.f48 (bodyOf Try.f48) [] [.agg [.rows .i64 (t)]] (kinkOf_p t) = kinkOf_V t := by kernel_rfl
theorem kinkOf_ok (t : List (List Int)) (hpre : (kinkOf_p t).pre) : kinkOf_V t := by
  simp only [kinkOf_p, kinkOf_V, BrP_iff, true_and, and_true, decide_eq_true_eq, decide_eq_false_iff_not, bne_iff_ne, beq_iff_eq, bne_eq_false_iff_eq, beq_eq_false_iff_ne, Bool.not_eq_true, Bool.not_eq_false, Bool.not_true, Bool.not_false, Bool.not_eq_eq_eq_not, Int.toNat_natCast, List.length_append, List.length_take, List.length_replicate, List.length_set, List.length_map, List.length_drop, List.length_nil, List.length_cons, markL_length, inB, InR, room, bdsOk] at hpre ⊢
  obtain ⟨n1, n2, ht⟩ := tabB_of hpre
  have hl : (kkL t).length = t.length := tab_length _ _
  rw [hl]
  refine ⟨by omega, ⟨0, by omega, rfl, by simp⟩, fun i hi => ⟨fun h => ?_, fun h => ?_⟩⟩
  · have r := ht i (by omega)
    have e : (t.getD i []).getD i 0 = (kkL t).getD i 0 := (tab_getD _ (fun x => en t x x) i (by omega)).symm
    refine ⟨by omega, by omega, by omega, by omega, i + 1, by omega, by omega, by omega, ?_⟩
    rw [e]
    have := fill_step (kkL t) 0 0 i (by omega)
    rwa [hl] at this
  · rw [List.take_of_length_le (by omega), show t.length - i = 0 by omega]; simp
theorem kinkOf_fits : Fits Try.prog 48 ⟨[], kinkOf_ct⟩ := by
  refine fits_fn (Γ := gam kinkOf_G) gok_nil Try.func48 (by kernel_rfl) (by kernel_rfl) (by kernel_rfl) fun ds p h hp => ?_
  unfold kinkOf_ct at h
  split at h
  · cases h
    exact ⟨noWr, kinkOf_ann _ , by rw [kinkOf_vc]; exact kinkOf_ok _  hp⟩
  · cases h

def l03Quandle_p (t : List (List Int)) : Post := ⟨tabB t = true, .c (.bool (qdB t)), []⟩
def l03Quandle_ct : List AD → Option Post
  | [.agg [.rows .i64 (t)]] => some (l03Quandle_p t)
  | _ => none
def l03Quandle_ann (t : List (List Int)) : Nat → Option Ann
  | 0 => some (Ann.mk ((Nat)) (fun i => ⟨[(1, .c (.ptr 1 0)), (3, .c (.int .i64 ((i : Int))))], [(1, some (.box [.ro (.rows .i64 (t))]))]⟩) (fun i => i ≤ t.length ∧ qdB t = (List.range' i (t.length - i)).all fun x => decide (en t x x = (x : Int))) (fun i => t.length - i) (fun _ => noAnn))
  | _ => none
def l03Quandle_G : List (Nat × Ctr) := []
def l03Quandle_V (t : List (List Int)) : Prop :=
  ((∃ x0 : Nat, (((x0 ≤ List.length t) ∧
  (Go.Sx.qdB t = List.all (List.range' x0 (List.length t - x0)) fun (x : Nat) => Decidable.decide (Go.Sx.en t x x = (↑x : Int)))) ∧
  (((0 : Int) = (↑x0 : Int)) ∧
  (t = t)))) ∧
  (∀ x1 : Nat, (((x1 ≤ List.length t) ∧
  (Go.Sx.qdB t = List.all (List.range' x1 (List.length t - x1)) fun (x : Nat) => Decidable.decide (Go.Sx.en t x x = (↑x : Int)))) →
  (BrP (Decidable.decide ((↑x1 : Int) < (↑(List.length t) : Int)))
    ((Go.Sx.inB (↑x1 : Int) (List.length t)) ∧
    ((Go.Sx.inB (↑x1 : Int) (List.length (List.getD t (Int.toNat (↑x1 : Int)) []))) ∧
    (BrP (List.getD (List.getD t (Int.toNat (↑x1 : Int)) []) (Int.toNat (↑x1 : Int)) (0 : Int) != (↑x1 : Int))
      ((Bool.false = Go.Sx.qdB t) ∧
      (True))
      ((Go.Sx.InR ((↑x1 : Int) + (1 : Int))) ∧
      (∃ x2 : Nat, (((x2 ≤ List.length t) ∧
      (Go.Sx.qdB t = List.all (List.range' x2 (List.length t - x2)) fun (x : Nat) => Decidable.decide (Go.Sx.en t x x = (↑x : Int)))) ∧
      ((List.length t - x2 < List.length t - x1) ∧
      (((↑x1 : Int) + (1 : Int) = (↑x2 : Int)) ∧
      (t = t)))))))))
    ((Bool.true = Go.Sx.qdB t) ∧
    (True))))))
theorem l03Quandle_vc (t : List (List Int)) : runF Try.prog (gam l03Quandle_G) noWr (l03Quandle_ann t) Try.f45 (bodyOf Try.f45) [] [.agg [.rows .i64 (t)]] (l03Quandle_p t) = l03Quandle_V t := by kernel_rfl
theorem l03Quandle_ok (t : List (List Int)) (hpre : (l03Quandle_p t).pre) : l03Quandle_V t := by
  simp only [l03Quandle_p, l03Quandle_V, BrP_iff, true_and, and_true, decide_eq_true_eq, decide_eq_false_iff_not, bne_iff_ne, beq_iff_eq, bne_eq_false_iff_eq, beq_eq_false_iff_ne, Bool.not_eq_true, Bool.not_eq_false, Bool.not_true, Bool.not_false, Bool.not_eq_eq_eq_not, Int.toNat_natCast, List.length_append, List.length_take, List.length_replicate, List.length_set, List.length_map, List.length_drop, List.length_nil, List.length_cons, markL_length, inB, InR, room, bdsOk] at hpre ⊢
  obtain ⟨n1, n2, ht⟩ := tabB_of hpre
  refine ⟨⟨0, ⟨by omega, rg_start _ _⟩, rfl⟩, fun i ⟨hi, he⟩ => ⟨fun h => ?_, fun h => by rw [he, rg_end _ (by omega)]⟩⟩
  have r := ht i (by omega)
  rw [rg_step _ (by omega)] at he
  refine ⟨by omega, by omega, fun h2 => ?_, fun h2 => ⟨by omega, i + 1, ⟨by omega, ?_⟩, by omega, by omega⟩⟩
  · rw [he, show decide (en t i i = (i : Int)) = false from decide_eq_false h2]; rfl
  · rw [he, show decide (en t i i = (i : Int)) = true from decide_eq_true h2, Bool.true_and]
theorem l03Quandle_fits : Fits Try.prog 45 ⟨[], l03Quandle_ct⟩ := by
  refine fits_fn (Γ := gam l03Quandle_G) gok_nil Try.func45 (by kernel_rfl) (by kernel_rfl) (by kernel_rfl) fun ds p h hp => ?_
  unfold l03Quandle_ct at h
  split at h
  · cases h
    exact ⟨noWr, l03Quandle_ann _ , by rw [l03Quandle_vc]; exact l03Quandle_ok _  hp⟩
  · cases h

/-- The answer of QuandleBoundary. -/
def qbC (t : List (List Int)) (p k : Int) (c : List Int) : List Int × Int :=
  if (rbC t p k c).2 = 0 then (if qdB t = true then (clrN t.length (k - 1) (rbC t p k c).1 (rbC t p k c).1.length, 0) else ([], 5)) else ([], (rbC t p k c).2)

theorem qbC_len (t : List (List Int)) (p k : Int) (c : List Int) : (qbC t p k c).1.length ≤ 512 := by
  unfold qbC
  split
  · split
    · simp only [clrN_length]; exact rbC_len t p k c
    · simp
  · simp

theorem qbC_no {t : List (List Int)} {p k : Int} {c : List Int} {z : Int} (h : (rbC t p k c).2 = z) (hz : z ≠ 0) : [] = (qbC t p k c).1 ∧ z = (qbC t p k c).2 := by
  rw [qbC, if_neg (by omega)]; exact ⟨rfl, h.symm⟩
theorem qbC_five {t : List (List Int)} {p k : Int} {c : List Int} (h : (rbC t p k c).2 = 0) (hq : qdB t = false) : [] = (qbC t p k c).1 ∧ 5 = (qbC t p k c).2 := by
  rw [qbC, if_pos h, if_neg (by rw [hq]; decide)]; exact ⟨rfl, rfl⟩
theorem qbC_yes {t : List (List Int)} {p k : Int} {c : List Int} (h : (rbC t p k c).2 = 0) (hq : qdB t = true) : clrN t.length (k - 1) (rbC t p k c).1 (rbC t p k c).1.length = (qbC t p k c).1 ∧ 0 = (qbC t p k c).2 := by
  rw [qbC, if_pos h, if_pos hq]; exact ⟨rfl, rfl⟩

theorem rbC_ok {t : List (List Int)} {p k : Int} {c : List Int} (h : (rbC t p k c).2 = 0) : chC t p k c = 0 ∧ k ≠ 0 := by
  unfold rbC at h
  split at h
  · rename_i e
    split at h
    · cases h
    · rename_i hk; exact ⟨e, hk⟩
  · rename_i e; exact absurd h e




end Go.Sx

