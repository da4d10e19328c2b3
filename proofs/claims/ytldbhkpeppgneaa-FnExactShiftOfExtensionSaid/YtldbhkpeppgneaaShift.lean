/- Contracts on the way of ShiftOfExtension. -/
import Derived.Test.YtldbhkpeppgneaaBase
open Go Go.Proofs
namespace Go.Sx
set_option linter.unusedSimpArgs false
set_option linter.unusedVariables false

def shF (m : Int) (g : List Int) (a : Int) : Int := a.tdiv m * m + (a.tmod m + g.getD (a.tdiv m).toNat 0).tmod m
def shL (n m : Int) (g : List Int) : List Int := (List.range (n * m).toNat).map fun i : Nat => shF m g (i : Int)

theorem shL_length (n m : Int) (g : List Int) : (shL n m g).length = (n * m).toNat := by simp [shL]
theorem shL_getD (n m : Int) (g : List Int) (i : Nat) (h : i < (n * m).toNat) : (shL n m g).getD i 0 = shF m g (i : Int) := by
  simp [shL, List.getD_eq_getElem?_getD, h]

def numsB (n m : Int) (g : List Int) : Bool := allW 0 (m - 1) g && decide ((g.length : Int) = n)

def shOk (n m : Int) (g : List Int) : Bool := decide (1 ≤ n ∧ n ≤ 12) && decide (1 ≤ m ∧ m ≤ 12) && numsB n m g
def shC (n m : Int) (g : List Int) : List Int × Int := if shOk n m g = true then (if 12 < n * m then ([], 3) else (shL n m g, 0)) else ([], 2)

theorem shC_no {n m : Int} {g : List Int} (h : shOk n m g = false) : [] = (shC n m g).1 ∧ 2 = (shC n m g).2 := by simp [shC, h]
theorem shC_big {n m : Int} {g : List Int} (h : shOk n m g = true) (h2 : 12 < n * m) : [] = (shC n m g).1 ∧ 3 = (shC n m g).2 := by simp only [shC, if_pos h, if_pos h2]; exact ⟨trivial, trivial⟩
theorem shC_yes {n m : Int} {g : List Int} (h : shOk n m g = true) (h2 : ¬ 12 < n * m) : shL n m g = (shC n m g).1 ∧ 0 = (shC n m g).2 := by simp only [shC, if_pos h, if_neg h2]; exact ⟨trivial, trivial⟩
theorem shC_len (n m : Int) (g : List Int) : (shC n m g).1.length ≤ 12 := by
  unfold shC
  split
  · split
    · simp
    · simp only [shL_length]; omega
  · simp

/-- What one entry needs. -/
theorem shF_in {n m : Int} {g : List Int} (hm : 1 ≤ m ∧ m ≤ 12) (hg : allW 0 (m - 1) g = true) (hl : (g.length : Int) = n) (i : Nat) (hi : (i : Int) < n * m) :
    0 ≤ (i : Int).tdiv m ∧ (i : Int).tdiv m < n ∧ 0 ≤ (i : Int).tmod m ∧ (i : Int).tmod m ≤ m - 1 ∧ (i : Int).tdiv m ≤ i ∧ (i : Int).tdiv m * m ≤ i ∧ 0 ≤ (i : Int).tdiv m * m ∧
    0 ≤ g.getD ((i : Int).tdiv m).toNat 0 ∧ g.getD ((i : Int).tdiv m).toNat 0 ≤ m - 1 ∧
    0 ≤ ((i : Int).tmod m + g.getD ((i : Int).tdiv m).toNat 0).tmod m ∧ ((i : Int).tmod m + g.getD ((i : Int).tdiv m).toNat 0).tmod m ≤ m - 1 := by
  have e1 : (i : Int).tdiv m = i / m := Int.tdiv_eq_ediv_of_nonneg (by omega)
  have e2 : (i : Int).tmod m = i % m := Int.tmod_eq_emod_of_nonneg (by omega)
  have d1 : 0 ≤ (i : Int) / m := Int.ediv_nonneg (by omega) (by omega)
  have d2 : (i : Int) / m < n := Int.ediv_lt_of_lt_mul (by omega) hi
  have d3 : (i : Int) / m ≤ i := Int.ediv_le_self _ (by omega)
  have d4 := Int.emod_nonneg (i : Int) (show m ≠ 0 by omega)
  have d5 := Int.emod_lt_of_pos (i : Int) (show 0 < m by omega)
  have d6 := Int.mul_ediv_add_emod (i : Int) m
  have d7 := Int.mul_comm m ((i : Int) / m)
  have d9 := Int.mul_nonneg d1 (show 0 ≤ m by omega)
  rw [e1, e2]
  have d8 := allW_get hg ((i : Int) / m).toNat (by omega)
  rw [Int.tmod_eq_emod_of_nonneg (a := (i : Int) % m + g.getD ((i : Int) / m).toNat 0) (by omega)]
  have f1 := Int.emod_nonneg ((i : Int) % m + g.getD ((i : Int) / m).toNat 0) (show m ≠ 0 by omega)
  have f2 := Int.emod_lt_of_pos ((i : Int) % m + g.getD ((i : Int) / m).toNat 0) (show 0 < m by omega)
  omega

theorem shOk_of {n m : Int} {g : List Int} (h : shOk n m g = true) : (1 ≤ n ∧ n ≤ 12) ∧ (1 ≤ m ∧ m ≤ 12) ∧ allW 0 (m - 1) g = true ∧ (g.length : Int) = n ∧ 0 ≤ n * m ∧ n * m ≤ 144 := by
  simp only [shOk, numsB, Bool.and_eq_true, decide_eq_true_eq] at h
  obtain ⟨⟨h1, h2⟩, h3, h4⟩ := h
  exact ⟨h1, h2, h3, h4, Int.mul_nonneg (by omega) (by omega), Int.le_trans (Int.mul_le_mul h1.2 h2.2 (by omega) (by omega)) (by omega)⟩

def l14Numbers_p (n : Int) (m : Int) (g : List Int) : Post := ⟨1 ≤ m ∧ m ≤ 12 ∧ room g.length, .c (.bool (numsB n m g)), []⟩
def l14Numbers_ct : List AD → Option Post
  | [.c (.int .i64 (n)), .c (.int .i64 (m)), .c (.ints .i64 (g))] => some (l14Numbers_p n m g)
  | _ => none
def l14Numbers_ann (n : Int) (m : Int) (g : List Int) : Nat → Option Ann
  | 0 => some ⟨(Nat), fun i => ⟨[(0, .c (.int .i64 (n))), (1, .c (.int .i64 (m))), (2, .c (.ro (.ints .i64 (g)))), (7, .c (.int .i64 ((i : Int))))], []⟩, fun i => i ≤ g.length ∧ allW 0 (m - 1) g = allW 0 (m - 1) (g.drop i), fun i => g.length - i⟩
  | _ => none
def l14Numbers_G : List (Nat × Ctr) := [(61, ⟨[], l01In_ct⟩)]
def l14Numbers_V (n : Int) (m : Int) (g : List Int) : Prop :=
  ((∃ x0 : Nat, (((x0 ≤ List.length g) ∧
  (Go.Sx.allW (0 : Int) (m - (1 : Int)) g = Go.Sx.allW (0 : Int) (m - (1 : Int)) (List.drop x0 g))) ∧
  ((n = n) ∧
  ((m = m) ∧
  ((g = g) ∧
  ((0 : Int) = (↑x0 : Int))))))) ∧
  (∀ x1 : Nat, (((x1 ≤ List.length g) ∧
  (Go.Sx.allW (0 : Int) (m - (1 : Int)) g = Go.Sx.allW (0 : Int) (m - (1 : Int)) (List.drop x1 g))) →
  (BrP (Decidable.decide ((↑x1 : Int) < (↑(List.length g) : Int)))
    ((Go.Sx.inB (↑x1 : Int) (List.length g)) ∧
    ((Go.Sx.InR (m - (1 : Int))) ∧
    (((True) ∧
    (True)) ∧
    (BrP (!Decidable.decide ((0 : Int) ≤ List.getD g (Int.toNat (↑x1 : Int)) (0 : Int) ∧ List.getD g (Int.toNat (↑x1 : Int)) (0 : Int) ≤ m - (1 : Int)))
      ((Bool.false = Go.Sx.numsB n m g) ∧
      (True))
      ((Go.Sx.InR ((↑x1 : Int) + (1 : Int))) ∧
      (∃ x2 : Nat, (((x2 ≤ List.length g) ∧
      (Go.Sx.allW (0 : Int) (m - (1 : Int)) g = Go.Sx.allW (0 : Int) (m - (1 : Int)) (List.drop x2 g))) ∧
      ((List.length g - x2 < List.length g - x1) ∧
      ((n = n) ∧
      ((m = m) ∧
      ((g = g) ∧
      ((↑x1 : Int) + (1 : Int) = (↑x2 : Int)))))))))))))
    ((((↑(List.length g) : Int) == n) = Go.Sx.numsB n m g) ∧
    (True))))))
theorem l14Numbers_vc (n : Int) (m : Int) (g : List Int) : runF Try.prog (gam l14Numbers_G) noWr (l14Numbers_ann n m g) Try.f72 (bodyOf Try.f72) [] [.c (.int .i64 (n)), .c (.int .i64 (m)), .c (.ints .i64 (g))] (l14Numbers_p n m g) = l14Numbers_V n m g := by kernel_rfl
theorem l14Numbers_ok (n : Int) (m : Int) (g : List Int) (hpre : (l14Numbers_p n m g).pre) : l14Numbers_V n m g := by
  simp only [l14Numbers_p, l14Numbers_V, BrP_iff, true_and, and_true, decide_eq_true_eq, decide_eq_false_iff_not, bne_iff_ne, beq_iff_eq, bne_eq_false_iff_eq, beq_eq_false_iff_ne, Bool.not_eq_true, Bool.not_eq_false, Bool.not_true, Bool.not_false, Bool.not_eq_eq_eq_not, Int.toNat_natCast, List.length_append, List.length_take, List.length_replicate, List.length_set, List.length_map, List.length_drop, List.length_nil, List.length_cons, markL_length, inB, InR, room] at hpre ⊢
  obtain ⟨h1, h2, h3⟩ := hpre
  refine ⟨⟨0, ⟨by omega, rfl⟩, rfl⟩, fun i ⟨hi, he⟩ => ⟨fun h => ?_, fun h => ?_⟩⟩
  · have hd := allW_drop 0 (m - 1) g i (by omega)
    refine ⟨by omega, by omega, fun h1 => ?_, fun h1 => ⟨by omega, i + 1, ⟨by omega, ?_⟩, by omega, by omega⟩⟩
    · rw [numsB, he, hd, decide_eq_false h1]; rfl
    · rw [he, hd, decide_eq_true h1]; rfl
  · rw [numsB, he, List.drop_of_length_le (by omega)]
    rw [Bool.eq_iff_iff]; simp [allW]
theorem l14Numbers_fits : Fits Try.prog 72 ⟨[], l14Numbers_ct⟩ := by
  refine fits_fn (Γ := gam l14Numbers_G) (gok_cons l01In_fits gok_nil) Try.func72 (by kernel_rfl) (by kernel_rfl) (by kernel_rfl) fun ds p h hp => ?_
  unfold l14Numbers_ct at h
  split at h
  · cases h
    exact ⟨noWr, l14Numbers_ann _ _ _ , by rw [l14Numbers_vc]; exact l14Numbers_ok _ _ _  hp⟩
  · cases h

def sShift_p (n : Int) (m : Int) (g : List Int) : Post := ⟨room g.length, .tup [.inl (.ints 2 .i64 ((shC n m g).1)), .inl (.int .i64 ((shC n m g).2))], []⟩
def sShift_ct : List AD → Option Post
  | [.c (.int .i64 (n)), .c (.int .i64 (m)), .c (.ints .i64 (g))] => some (sShift_p n m g)
  | _ => none
def sShift_ann (n : Int) (m : Int) (g : List Int) : Nat → Option Ann
  | 0 => some ⟨(Nat), fun i => ⟨[(0, .c (.int .i64 (n))), (1, .c (.int .i64 (m))), (2, .c (.ro (.ints .i64 (g)))), (8, .c (.own (10))), (9, .c (.int .i64 ((i : Int))))], [(10, some (.ints 2 .i64 ((shL n m g).take i)))]⟩, fun i => (i : Int) ≤ n * m ∧ shOk n m g = true ∧ n * m ≤ 12, fun i => 12 - i⟩
  | _ => none
def sShift_G : List (Nat × Ctr) := [(61, ⟨[], l01In_ct⟩), (72, ⟨[], l14Numbers_ct⟩)]
def sShift_V (n : Int) (m : Int) (g : List Int) : Prop :=
  (((True) ∧
  (True)) ∧
  (BrP (!Decidable.decide ((1 : Int) ≤ n ∧ n ≤ (12 : Int)))
    ((([] = Prod.fst (Go.Sx.shC n m g)) ∧
    (((2 : Int) = Prod.snd (Go.Sx.shC n m g)) ∧
    (True))) ∧
    (True))
    (((True) ∧
    (True)) ∧
    (BrP (!Decidable.decide ((1 : Int) ≤ m ∧ m ≤ (12 : Int)))
      ((([] = Prod.fst (Go.Sx.shC n m g)) ∧
      (((2 : Int) = Prod.snd (Go.Sx.shC n m g)) ∧
      (True))) ∧
      (True))
      (((((1 : Int) ≤ m) ∧
      ((m ≤ (12 : Int)) ∧
      (Go.Sx.room (List.length g)))) ∧
      (True)) ∧
      (BrP (!Go.Sx.numsB n m g)
        ((([] = Prod.fst (Go.Sx.shC n m g)) ∧
        (((2 : Int) = Prod.snd (Go.Sx.shC n m g)) ∧
        (True))) ∧
        (True))
        ((Go.Sx.InR (n * m)) ∧
        (BrP (Decidable.decide ((12 : Int) < n * m))
          ((([] = Prod.fst (Go.Sx.shC n m g)) ∧
          (((3 : Int) = Prod.snd (Go.Sx.shC n m g)) ∧
          (True))) ∧
          (True))
          ((∃ x0 : Nat, ((((↑x0 : Int) ≤ n * m) ∧
          ((Go.Sx.shOk n m g = Bool.true) ∧
          (n * m ≤ (12 : Int)))) ∧
          ((n = n) ∧
          ((m = m) ∧
          ((g = g) ∧
          (((0 : Int) = (↑x0 : Int)) ∧
          ([] = List.take x0 (Go.Sx.shL n m g)))))))) ∧
          (∀ x1 : Nat, ((((↑x1 : Int) ≤ n * m) ∧
          ((Go.Sx.shOk n m g = Bool.true) ∧
          (n * m ≤ (12 : Int)))) →
          ((Go.Sx.InR (n * m)) ∧
          (BrP (Decidable.decide ((↑x1 : Int) < n * m))
            (((m ≠ (0 : Int)) ∧
            (Go.Sx.InR (Int.tdiv (↑x1 : Int) m))) ∧
            ((Go.Sx.InR (Int.tdiv (↑x1 : Int) m * m)) ∧
            ((m ≠ (0 : Int)) ∧
            (((m ≠ (0 : Int)) ∧
            (Go.Sx.InR (Int.tdiv (↑x1 : Int) m))) ∧
            ((Go.Sx.inB (Int.tdiv (↑x1 : Int) m) (List.length g)) ∧
            ((Go.Sx.InR (Int.tmod (↑x1 : Int) m + List.getD g (Int.toNat (Int.tdiv (↑x1 : Int) m)) (0 : Int))) ∧
            ((m ≠ (0 : Int)) ∧
            ((Go.Sx.InR (Int.tdiv (↑x1 : Int) m * m + Int.tmod (Int.tmod (↑x1 : Int) m + List.getD g (Int.toNat (Int.tdiv (↑x1 : Int) m)) (0 : Int)) m)) ∧
            ((Go.Sx.room (List.length (List.take x1 (Go.Sx.shL n m g)) + List.length [Int.tdiv (↑x1 : Int) m * m + Int.tmod (Int.tmod (↑x1 : Int) m + List.getD g (Int.toNat (Int.tdiv (↑x1 : Int) m)) (0 : Int)) m])) ∧
            ((Go.Sx.InR ((↑x1 : Int) + (1 : Int))) ∧
            (∃ x2 : Nat, ((((↑x2 : Int) ≤ n * m) ∧
            ((Go.Sx.shOk n m g = Bool.true) ∧
            (n * m ≤ (12 : Int)))) ∧
            (((12 : Nat) - x2 < (12 : Nat) - x1) ∧
            ((n = n) ∧
            ((m = m) ∧
            ((g = g) ∧
            (((↑x1 : Int) + (1 : Int) = (↑x2 : Int)) ∧
            (List.take x1 (Go.Sx.shL n m g) ++ [Int.tdiv (↑x1 : Int) m * m + Int.tmod (Int.tmod (↑x1 : Int) m + List.getD g (Int.toNat (Int.tdiv (↑x1 : Int) m)) (0 : Int)) m] = List.take x2 (Go.Sx.shL n m g)))))))))))))))))))
            (((List.take x1 (Go.Sx.shL n m g) = Prod.fst (Go.Sx.shC n m g)) ∧
            (((0 : Int) = Prod.snd (Go.Sx.shC n m g)) ∧
            (True))) ∧
            (True)))))))))))))))
theorem sShift_vc (n : Int) (m : Int) (g : List Int) : runF Try.prog (gam sShift_G) noWr (sShift_ann n m g) Try.f27 (bodyOf Try.f27) [] [.c (.int .i64 (n)), .c (.int .i64 (m)), .c (.ints .i64 (g))] (sShift_p n m g) = sShift_V n m g := by kernel_rfl
theorem sShift_ok (n : Int) (m : Int) (g : List Int) (hpre : (sShift_p n m g).pre) : sShift_V n m g := by
  simp only [sShift_p, sShift_V, BrP_iff, true_and, and_true, decide_eq_true_eq, decide_eq_false_iff_not, bne_iff_ne, beq_iff_eq, bne_eq_false_iff_eq, beq_eq_false_iff_ne, Bool.not_eq_true, Bool.not_eq_false, Bool.not_true, Bool.not_false, Bool.not_eq_eq_eq_not, Int.toNat_natCast, List.length_append, List.length_take, List.length_replicate, List.length_set, List.length_map, List.length_drop, List.length_nil, List.length_cons, markL_length, inB, InR, room] at hpre ⊢
  refine ⟨fun h => shC_no (by simp only [shOk, decide_eq_false h, Bool.false_and]), fun h1 => ⟨fun h => shC_no (by simp only [shOk, decide_eq_false h, Bool.false_and, Bool.and_false]), fun h2 => ⟨⟨h2.1, h2.2, hpre⟩, fun h => shC_no (by simp only [shOk, h, Bool.and_false]), fun h3 => ?_⟩⟩⟩
  have ok : shOk n m g = true := by simp only [shOk, decide_eq_true h1, decide_eq_true h2, h3, Bool.and_true]
  obtain ⟨_, _, hw, hl, hp1, hp2⟩ := shOk_of ok
  refine ⟨by omega, fun h => shC_big ok h, fun h4 => ⟨⟨0, ⟨by omega, ok, by omega⟩, rfl, by simp⟩, fun i ⟨hi, _, _⟩ => ⟨by omega, fun h => ?_, fun h => ?_⟩⟩⟩
  · have q := shF_in h2 hw hl i h
    have hlen := shL_length n m g
    refine ⟨by omega, by omega, by omega, by omega, by omega, by omega, by omega, by omega, by omega, by omega, i + 1, ⟨by omega, ok, by omega⟩, by omega, by omega, ?_⟩
    rw [← take_snoc (shL n m g) 0 i (by omega), shL_getD _ _ _ _ (by omega)]
    rfl
  · have hlen := shL_length n m g
    rw [List.take_of_length_le (by omega)]
    exact shC_yes ok h4
theorem sShift_fits : Fits Try.prog 27 ⟨[], sShift_ct⟩ := by
  refine fits_fn (Γ := gam sShift_G) (gok_cons l01In_fits (gok_cons l14Numbers_fits gok_nil)) Try.func27 (by kernel_rfl) (by kernel_rfl) (by kernel_rfl) fun ds p h hp => ?_
  unfold sShift_ct at h
  split at h
  · cases h
    exact ⟨noWr, sShift_ann _ _ _ , by rw [sShift_vc]; exact sShift_ok _ _ _  hp⟩
  · cases h

def isShift_p (n : Int) (m : Int) (g : List Int) : Post := ⟨room g.length, .c (.bool (decide (1 ≤ m ∧ m ≤ 12) && numsB n m g)), []⟩
def isShift_ct : List AD → Option Post
  | [.c (.int .i64 (n)), .c (.int .i64 (m)), .c (.ints .i64 (g))] => some (isShift_p n m g)
  | _ => none
def isShift_G : List (Nat × Ctr) := [(68, ⟨[], within_ct⟩), (64, ⟨[], allWithin_ct⟩)]
def isShift_V (n : Int) (m : Int) (g : List Int) : Prop :=
  (((True) ∧
  (True)) ∧
  (BrP (Decidable.decide ((1 : Int) ≤ m ∧ m ≤ (12 : Int)))
    (BrP ((↑(List.length g) : Int) == n)
      ((Go.Sx.InR (m - (1 : Int))) ∧
      (((Go.Sx.room (List.length g)) ∧
      (True)) ∧
      ((Go.Sx.allW (0 : Int) (m - (1 : Int)) g = (Decidable.decide ((1 : Int) ≤ m ∧ m ≤ (12 : Int)) && Go.Sx.numsB n m g)) ∧
      (True))))
      ((Bool.false = (Decidable.decide ((1 : Int) ≤ m ∧ m ≤ (12 : Int)) && Go.Sx.numsB n m g)) ∧
      (True)))
    ((Bool.false = (Decidable.decide ((1 : Int) ≤ m ∧ m ≤ (12 : Int)) && Go.Sx.numsB n m g)) ∧
    (True))))
theorem isShift_vc (n : Int) (m : Int) (g : List Int) : runF Try.prog (gam isShift_G) noWr noAnn Try.f73 (bodyOf Try.f73) [] [.c (.int .i64 (n)), .c (.int .i64 (m)), .c (.ints .i64 (g))] (isShift_p n m g) = isShift_V n m g := by kernel_rfl
theorem isShift_ok (n : Int) (m : Int) (g : List Int) (hpre : (isShift_p n m g).pre) : isShift_V n m g := by
  simp only [isShift_p, isShift_V, BrP_iff, true_and, and_true, decide_eq_true_eq, decide_eq_false_iff_not, bne_iff_ne, beq_iff_eq, bne_eq_false_iff_eq, beq_eq_false_iff_ne, Bool.not_eq_true, Bool.not_eq_false, Bool.not_true, Bool.not_false, Bool.not_eq_eq_eq_not, Int.toNat_natCast, List.length_append, List.length_take, List.length_replicate, List.length_set, List.length_map, List.length_drop, List.length_nil, List.length_cons, markL_length, inB, InR, room] at hpre ⊢
  refine ⟨fun h => ⟨fun h2 => ⟨by omega, hpre, ?_⟩, fun h2 => ?_⟩, fun h => by rw [decide_eq_false h]; rfl⟩
  · rw [decide_eq_true h, numsB, decide_eq_true h2]; simp
  · rw [decide_eq_true h, numsB, decide_eq_false h2]; simp
theorem isShift_fits : Fits Try.prog 73 ⟨[], isShift_ct⟩ := by
  refine fits_fn (Γ := gam isShift_G) (gok_cons within_fits (gok_cons allWithin_fits gok_nil)) Try.func73 (by kernel_rfl) (by kernel_rfl) (by kernel_rfl) fun ds p h hp => ?_
  unfold isShift_ct at h
  split at h
  · cases h
    exact ⟨noWr, noAnn, by rw [isShift_vc]; exact isShift_ok _ _ _  hp⟩
  · cases h

def iShift_p (n : Int) (m : Int) (g : List Int) : Post := ⟨room g.length, .tup [.inl (.ints 2 .i64 ((shC n m g).1)), .inl (.int .i64 ((shC n m g).2))], []⟩
def iShift_ct : List AD → Option Post
  | [.c (.int .i64 (n)), .c (.int .i64 (m)), .c (.ints .i64 (g))] => some (iShift_p n m g)
  | _ => none
def iShift_ann (n : Int) (m : Int) (g : List Int) : Nat → Option Ann
  | 0 => some ⟨(Nat), fun i => ⟨[(0, .c (.int .i64 (n))), (1, .c (.int .i64 (m))), (2, .c (.ro (.ints .i64 (g)))), (8, .c (.own (10))), (31, .c (.int .i64 (n * m))), (32, .c (.int .i64 ((i : Int))))], [(10, some (.ints 2 .i64 ((shL n m g).take i ++ List.replicate ((shL n m g).length - i) 0)))]⟩, fun i => (i : Int) ≤ n * m ∧ shOk n m g = true ∧ n * m ≤ 12, fun i => 12 - i⟩
  | _ => none
def iShift_G : List (Nat × Ctr) := [(68, ⟨[], within_ct⟩), (73, ⟨[], isShift_ct⟩)]
def iShift_V (n : Int) (m : Int) (g : List Int) : Prop :=
  (((True) ∧
  (True)) ∧
  (BrP (!Decidable.decide ((1 : Int) ≤ n ∧ n ≤ (12 : Int)))
    ((([] = Prod.fst (Go.Sx.shC n m g)) ∧
    (((2 : Int) = Prod.snd (Go.Sx.shC n m g)) ∧
    (True))) ∧
    (True))
    (((Go.Sx.room (List.length g)) ∧
    (True)) ∧
    (BrP (!(Decidable.decide ((1 : Int) ≤ m ∧ m ≤ (12 : Int)) && Go.Sx.numsB n m g))
      ((([] = Prod.fst (Go.Sx.shC n m g)) ∧
      (((2 : Int) = Prod.snd (Go.Sx.shC n m g)) ∧
      (True))) ∧
      (True))
      ((Go.Sx.InR (n * m)) ∧
      (BrP (Decidable.decide ((12 : Int) < n * m))
        ((([] = Prod.fst (Go.Sx.shC n m g)) ∧
        (((3 : Int) = Prod.snd (Go.Sx.shC n m g)) ∧
        (True))) ∧
        (True))
        ((Go.Sx.InR (n * m)) ∧
        ((((0 : Int) ≤ n * m) ∧
        ((n * m ≤ n * m) ∧
        (Go.Sx.room (Int.toNat (n * m))))) ∧
        ((∃ x0 : Nat, ((((↑x0 : Int) ≤ n * m) ∧
        ((Go.Sx.shOk n m g = Bool.true) ∧
        (n * m ≤ (12 : Int)))) ∧
        ((n = n) ∧
        ((m = m) ∧
        ((g = g) ∧
        (((↑(List.length (List.replicate (Int.toNat (n * m)) (0 : Int))) : Int) = n * m) ∧
        (((0 : Int) = (↑x0 : Int)) ∧
        (List.replicate (Int.toNat (n * m)) (0 : Int) = List.take x0 (Go.Sx.shL n m g) ++ List.replicate (List.length (Go.Sx.shL n m g) - x0) (0 : Int))))))))) ∧
        (∀ x1 : Nat, ((((↑x1 : Int) ≤ n * m) ∧
        ((Go.Sx.shOk n m g = Bool.true) ∧
        (n * m ≤ (12 : Int)))) →
        (BrP (Decidable.decide ((↑x1 : Int) < n * m))
          (((m ≠ (0 : Int)) ∧
          (Go.Sx.InR (Int.tdiv (↑x1 : Int) m))) ∧
          ((m ≠ (0 : Int)) ∧
          ((Go.Sx.InR (Int.tdiv (↑x1 : Int) m * m)) ∧
          ((Go.Sx.inB (Int.tdiv (↑x1 : Int) m) (List.length g)) ∧
          ((Go.Sx.InR (Int.tmod (↑x1 : Int) m + List.getD g (Int.toNat (Int.tdiv (↑x1 : Int) m)) (0 : Int))) ∧
          ((m ≠ (0 : Int)) ∧
          ((Go.Sx.InR (Int.tdiv (↑x1 : Int) m * m + Int.tmod (Int.tmod (↑x1 : Int) m + List.getD g (Int.toNat (Int.tdiv (↑x1 : Int) m)) (0 : Int)) m)) ∧
          ((Go.Sx.inB (↑x1 : Int) (List.length (List.take x1 (Go.Sx.shL n m g) ++ List.replicate (List.length (Go.Sx.shL n m g) - x1) (0 : Int)))) ∧
          ((Go.Sx.InR ((↑x1 : Int) + (1 : Int))) ∧
          (∃ x2 : Nat, ((((↑x2 : Int) ≤ n * m) ∧
          ((Go.Sx.shOk n m g = Bool.true) ∧
          (n * m ≤ (12 : Int)))) ∧
          (((12 : Nat) - x2 < (12 : Nat) - x1) ∧
          ((n = n) ∧
          ((m = m) ∧
          ((g = g) ∧
          ((n * m = n * m) ∧
          (((↑x1 : Int) + (1 : Int) = (↑x2 : Int)) ∧
          (List.set (List.take x1 (Go.Sx.shL n m g) ++ List.replicate (List.length (Go.Sx.shL n m g) - x1) (0 : Int)) (Int.toNat (↑x1 : Int)) (Int.tdiv (↑x1 : Int) m * m + Int.tmod (Int.tmod (↑x1 : Int) m + List.getD g (Int.toNat (Int.tdiv (↑x1 : Int) m)) (0 : Int)) m) = List.take x2 (Go.Sx.shL n m g) ++ List.replicate (List.length (Go.Sx.shL n m g) - x2) (0 : Int)))))))))))))))))))
          (((List.take x1 (Go.Sx.shL n m g) ++ List.replicate (List.length (Go.Sx.shL n m g) - x1) (0 : Int) = Prod.fst (Go.Sx.shC n m g)) ∧
          (((0 : Int) = Prod.snd (Go.Sx.shC n m g)) ∧
          (True))) ∧
          (True))))))))))))))
theorem iShift_vc (n : Int) (m : Int) (g : List Int) : runF Try.prog (gam iShift_G) noWr (iShift_ann n m g) Try.f28 (bodyOf Try.f28) [] [.c (.int .i64 (n)), .c (.int .i64 (m)), .c (.ints .i64 (g))] (iShift_p n m g) = iShift_V n m g := by kernel_rfl
theorem iShift_ok (n : Int) (m : Int) (g : List Int) (hpre : (iShift_p n m g).pre) : iShift_V n m g := by
  simp only [iShift_p, iShift_V, BrP_iff, true_and, and_true, decide_eq_true_eq, decide_eq_false_iff_not, bne_iff_ne, beq_iff_eq, bne_eq_false_iff_eq, beq_eq_false_iff_ne, Bool.not_eq_true, Bool.not_eq_false, Bool.not_true, Bool.not_false, Bool.not_eq_eq_eq_not, Int.toNat_natCast, List.length_append, List.length_take, List.length_replicate, List.length_set, List.length_map, List.length_drop, List.length_nil, List.length_cons, markL_length, inB, InR, room] at hpre ⊢
  refine ⟨fun h => shC_no (by simp only [shOk, decide_eq_false h, Bool.false_and]), fun h1 => ⟨hpre, fun h => shC_no (by simp only [shOk, Bool.and_assoc, h, Bool.and_false]), fun h3 => ?_⟩⟩
  have ok : shOk n m g = true := by simp only [shOk, Bool.and_assoc, decide_eq_true h1, h3, Bool.and_true]
  obtain ⟨_, h2, hw, hl, hp1, hp2⟩ := shOk_of ok
  have hlen := shL_length n m g
  refine ⟨by omega, fun h => shC_big ok h, fun h4 => ⟨by omega, by omega, ⟨0, ⟨by omega, ok, by omega⟩, by omega, rfl, fill_start _ _ _ hlen⟩, fun i ⟨hi, _, _⟩ => ⟨fun h => ?_, fun h => ?_⟩⟩⟩
  · have q := shF_in h2 hw hl i h
    refine ⟨by omega, by omega, by omega, by omega, by omega, by omega, by omega, by omega, by omega, i + 1, ⟨by omega, ok, by omega⟩, by omega, by omega, ?_⟩
    rw [← fill_step (shL n m g) 0 0 i (by omega), shL_getD _ _ _ _ (by omega)]
    rfl
  · rw [fill_end _ _ _ (by omega)]
    exact shC_yes ok h4
theorem iShift_fits : Fits Try.prog 28 ⟨[], iShift_ct⟩ := by
  refine fits_fn (Γ := gam iShift_G) (gok_cons within_fits (gok_cons isShift_fits gok_nil)) Try.func28 (by kernel_rfl) (by kernel_rfl) (by kernel_rfl) fun ds p h hp => ?_
  unfold iShift_ct at h
  split at h
  · cases h
    exact ⟨noWr, iShift_ann _ _ _ , by rw [iShift_vc]; exact iShift_ok _ _ _  hp⟩
  · cases h

def lShift_p (n : Int) (m : Int) (g : List Int) : Post := ⟨True, .c (.bool (true)), []⟩
def lShift_ct : List AD → Option Post
  | [.c (.int .i64 (n)), .c (.int .i64 (m)), .c (.ints .i64 (g))] => some (lShift_p n m g)
  | _ => none
def lShift_G : List (Nat × Ctr) := [(19, ⟨[], toInt64S_ct⟩), (21, ⟨[], eqInt64S_ct⟩), (29, ⟨[(0, 0)], markInt64S_ct⟩), (30, ⟨[], heldInt64S_ct⟩), (27, ⟨[], sShift_ct⟩), (28, ⟨[], iShift_ct⟩)]
def lShift_V (n : Int) (m : Int) (g : List Int) : Prop :=
  (BrP (Decidable.decide ((1048576 : Int) < (↑(List.length g) : Int)))
    ((Bool.true = Bool.true) ∧
    (True))
    (((Go.Sx.room (List.length g)) ∧
    (True)) ∧
    (((Go.Sx.room (List.length g)) ∧
    (True)) ∧
    (((Go.Sx.room (List.length g)) ∧
    (True)) ∧
    (((Go.Sx.room (List.length g)) ∧
    (True)) ∧
    (((Go.Sx.room (List.length (Prod.fst (Go.Sx.shC n m g)))) ∧
    (True)) ∧
    (BrP (!Decidable.decide (Prod.fst (Go.Sx.shC n m g) = Prod.fst (Go.Sx.shC n m g)))
      ((Bool.false = Bool.true) ∧
      (True))
      (BrP (Prod.snd (Go.Sx.shC n m g) != Prod.snd (Go.Sx.shC n m g))
        ((Bool.false = Bool.true) ∧
        (True))
        (((Go.Sx.room (List.length g)) ∧
        (True)) ∧
        (((Go.Sx.room (List.length g)) ∧
        (True)) ∧
        (BrP (!Decidable.decide (g = g))
          ((Bool.false = Bool.true) ∧
          (True))
          ((((Go.Sx.room (List.length g)) ∧
          (((0 : Int) ≤ (1 : Int)) ∧
          ((1 : Int) ≤ (1099511627776 : Int)))) ∧
          ((List.length (Go.Sx.markL (1 : Int) (List.length g)) = List.length g) ∧
          (True))) ∧
          (BrP (Decidable.decide ((1 : Int) + (↑(List.length g) : Int) < (0 : Int)))
            ((Bool.false = Bool.true) ∧
            (True))
            (((Go.Sx.room (List.length (Prod.fst (Go.Sx.shC n m g)))) ∧
            (True)) ∧
            (BrP (!Decidable.decide (Prod.fst (Go.Sx.shC n m g) = Prod.fst (Go.Sx.shC n m g)))
              ((Bool.false = Bool.true) ∧
              (True))
              (BrP (Prod.snd (Go.Sx.shC n m g) != Prod.snd (Go.Sx.shC n m g))
                ((Bool.false = Bool.true) ∧
                (True))
                ((((Go.Sx.room (List.length (Prod.fst (Go.Sx.shC n m g)))) ∧
                (((0 : Int) ≤ (1 : Int)) ∧
                ((1 : Int) ≤ (1099511627776 : Int)))) ∧
                ((List.length (Go.Sx.markL (1 : Int) (List.length (Prod.fst (Go.Sx.shC n m g)))) = List.length (Prod.fst (Go.Sx.shC n m g))) ∧
                (True))) ∧
                ((((Go.Sx.room (List.length (Go.Sx.markL (1 : Int) (List.length (Prod.fst (Go.Sx.shC n m g)))))) ∧
                (((0 : Int) ≤ (1 : Int)) ∧
                ((1 : Int) ≤ (1099511627776 : Int)))) ∧
                (True)) ∧
                (BrP (Decidable.decide ((if Go.Sx.markL (1 : Int) (List.length (Prod.fst (Go.Sx.shC n m g))) = Go.Sx.markL (1 : Int) (List.length (Go.Sx.markL (1 : Int) (List.length (Prod.fst (Go.Sx.shC n m g))))) then (1 : Int) + (↑(List.length (Go.Sx.markL (1 : Int) (List.length (Prod.fst (Go.Sx.shC n m g))))) : Int) else (-1 : Int)) < (0 : Int)))
                  ((Bool.false = Bool.true) ∧
                  (True))
                  (BrP ((if Go.Sx.markL (1 : Int) (List.length (Prod.fst (Go.Sx.shC n m g))) = Go.Sx.markL (1 : Int) (List.length (Go.Sx.markL (1 : Int) (List.length (Prod.fst (Go.Sx.shC n m g))))) then (1 : Int) + (↑(List.length (Go.Sx.markL (1 : Int) (List.length (Prod.fst (Go.Sx.shC n m g))))) : Int) else (-1 : Int)) != (1 : Int) + (↑(List.length (Prod.fst (Go.Sx.shC n m g))) : Int))
                    ((Bool.false = Bool.true) ∧
                    (True))
                    (((Go.Sx.room (List.length g)) ∧
                    (True)) ∧
                    (((Go.Sx.room (List.length g)) ∧
                    (True)) ∧
                    (((Go.Sx.room (List.length (Prod.fst (Go.Sx.shC n m g)))) ∧
                    (True)) ∧
                    (BrP (!Decidable.decide (Prod.fst (Go.Sx.shC n m g) = Prod.fst (Go.Sx.shC n m g)))
                      ((Bool.false = Bool.true) ∧
                      (True))
                      (BrP (Prod.snd (Go.Sx.shC n m g) != Prod.snd (Go.Sx.shC n m g))
                        ((Bool.false = Bool.true) ∧
                        (True))
                        ((((Go.Sx.room (List.length (Go.Sx.markL (1 : Int) (List.length (Prod.fst (Go.Sx.shC n m g)))))) ∧
                        (((0 : Int) ≤ (1 : Int)) ∧
                        ((1 : Int) ≤ (1099511627776 : Int)))) ∧
                        (True)) ∧
                        (BrP (Decidable.decide ((if Go.Sx.markL (1 : Int) (List.length (Prod.fst (Go.Sx.shC n m g))) = Go.Sx.markL (1 : Int) (List.length (Go.Sx.markL (1 : Int) (List.length (Prod.fst (Go.Sx.shC n m g))))) then (1 : Int) + (↑(List.length (Go.Sx.markL (1 : Int) (List.length (Prod.fst (Go.Sx.shC n m g))))) : Int) else (-1 : Int)) < (0 : Int)))
                          ((Bool.false = Bool.true) ∧
                          (True))
                          (BrP ((if Go.Sx.markL (1 : Int) (List.length (Prod.fst (Go.Sx.shC n m g))) = Go.Sx.markL (1 : Int) (List.length (Go.Sx.markL (1 : Int) (List.length (Prod.fst (Go.Sx.shC n m g))))) then (1 : Int) + (↑(List.length (Go.Sx.markL (1 : Int) (List.length (Prod.fst (Go.Sx.shC n m g))))) : Int) else (-1 : Int)) != (1 : Int) + (↑(List.length (Prod.fst (Go.Sx.shC n m g))) : Int))
                            ((Bool.false = Bool.true) ∧
                            (True))
                            ((Bool.true = Bool.true) ∧
                            (True))))))))))))))))))))))))))))))
theorem lShift_vc (n : Int) (m : Int) (g : List Int) : runF Try.prog (gam lShift_G) noWr noAnn Try.f5 (bodyOf Try.f5) [] [.c (.int .i64 (n)), .c (.int .i64 (m)), .c (.ints .i64 (g))] (lShift_p n m g) = lShift_V n m g := by kernel_rfl
theorem lShift_ok (n : Int) (m : Int) (g : List Int) (hpre : (lShift_p n m g).pre) : lShift_V n m g := by
  simp only [lShift_p, lShift_V, BrP_iff, true_and, and_true, decide_eq_true_eq, decide_eq_false_iff_not, bne_iff_ne, beq_iff_eq, bne_eq_false_iff_eq, beq_eq_false_iff_ne, Bool.not_eq_true, Bool.not_eq_false, Bool.not_true, Bool.not_false, Bool.not_eq_eq_eq_not, Int.toNat_natCast, List.length_append, List.length_take, List.length_replicate, List.length_set, List.length_map, List.length_drop, List.length_nil, List.length_cons, markL_length, inB, InR, room] at hpre ⊢
  refine ⟨fun _ => trivial, fun h => ?_⟩
  have hl := shC_len n m g
  have h1 : (shC n m g).1.length ≤ 1099511627776 := by omega
  have h2 : ¬ (1 + ((shC n m g).1.length : Int) < 0) := by omega
  have h3 : g.length ≤ 1099511627776 := by omega
  have h4 : ¬ (1 + (g.length : Int) < 0) := by omega
  simp [h1, h2, h3, h4]
theorem lShift_fits : Fits Try.prog 5 ⟨[], lShift_ct⟩ := by
  refine fits_fn (Γ := gam lShift_G) (gok_cons toInt64S_fits (gok_cons eqInt64S_fits (gok_cons markInt64S_fits (gok_cons heldInt64S_fits (gok_cons sShift_fits (gok_cons iShift_fits gok_nil)))))) Try.func5 (by kernel_rfl) (by kernel_rfl) (by kernel_rfl) fun ds p h hp => ?_
  unfold lShift_ct at h
  split at h
  · cases h
    exact ⟨noWr, noAnn, by rw [lShift_vc]; exact lShift_ok _ _ _  hp⟩
  · cases h

end Go.Sx

