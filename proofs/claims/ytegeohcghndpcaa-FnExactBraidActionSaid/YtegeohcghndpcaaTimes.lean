/- Contracts on the way of TimesBraid. -/
import Derived.Test.YtegeohcghndpcaaBraidB
import Derived.Test.YtegeohcghndpcaaOwn
import Derived.Test.YtegeohcghndpcaaGro
open Go Go.Proofs
namespace Go.Sx
set_option linter.unusedSimpArgs false
set_option linter.unusedVariables false

theorem flat_step (t : List (List Int)) (i : Nat) (h : i < t.length) : (t.take (i + 1)).flatten = (t.take i).flatten ++ t.getD i [] := by
  rw [List.take_succ_eq_append_getElem h, List.flatten_append]
  simp [List.getD, h]

theorem flat_len {t : List (List Int)} (h1 : t.length ≤ 1000) (h2 : ∀ r ∈ t, r.length ≤ 1000) : ∀ i, i ≤ t.length → (t.take i).flatten.length ≤ 1000 * i
  | 0, _ => by simp
  | i + 1, hi => by
    have ih := flat_len h1 h2 i (by omega)
    have := h2 _ (getD_mem t [] i (by omega))
    rw [flat_step t i (by omega), List.length_append]
    omega

def Concat_p (t : List (List Int)) : Post := ⟨t.length ≤ 1000 ∧ (∀ r ∈ t, r.length ≤ 1000), .c (.ints 2 .i64 (t.flatten)), []⟩
def Concat_ct : List AD → Option Post
  | [.c (.rows .i64 (t))] => some (Concat_p t)
  | _ => none
def Concat_ann (t : List (List Int)) : Nat → Option Ann
  | 0 => some (Ann.mk ((Nat)) (fun i => ⟨[(0, .c (.ro (.rows .i64 (t)))), (3, .c (.int .i64 ((((t.take i).flatten.length : Nat) : Int)))), (9, .c (.ro (.rows .i64 (t)))), (10, .c (.int .i64 ((t.length : Int)))), (11, .c (.int .i64 ((i : Int))))], []⟩) (fun i => i ≤ t.length) (fun i => t.length - i) (fun _ => noAnn))
  | 2 => some (Ann.mk ((Nat)) (fun i => ⟨[(6, .c (.own (24))), (25, .c (.ro (.rows .i64 (t)))), (26, .c (.int .i64 ((t.length : Int)))), (27, .c (.int .i64 ((i : Int))))], [(24, some (.ints 2 .i64 ((t.take i).flatten)))]⟩) (fun i => i ≤ t.length) (fun i => t.length - i) (fun _ => noAnn))
  | _ => none
def Concat_G : List (Nat × Ctr) := [(135, ⟨[(0,98),(0,98)], sGrow_ct⟩)]
def Concat_V (t : List (List Int)) : Prop :=
  ((∃ x0 : Nat, ((x0 ≤ List.length t) ∧
  ((t = t) ∧
  (((0 : Int) = (↑(List.length (List.flatten (List.take x0 t))) : Int)) ∧
  ((t = t) ∧
  (((↑(List.length t) : Int) = (↑(List.length t) : Int)) ∧
  ((0 : Int) = (↑x0 : Int)))))))) ∧
  (∀ x1 : Nat, ((x1 ≤ List.length t) →
  (BrP (Decidable.decide ((↑x1 : Int) < (↑(List.length t) : Int)))
    ((Go.Sx.inB (↑x1 : Int) (List.length t)) ∧
    ((Go.Sx.InR ((↑(List.length (List.flatten (List.take x1 t))) : Int) + (↑(List.length (List.getD t (Int.toNat (↑x1 : Int)) [])) : Int))) ∧
    (BrP (Decidable.decide ((↑(List.length (List.flatten (List.take x1 t))) : Int) + (↑(List.length (List.getD t (Int.toNat (↑x1 : Int)) [])) : Int) < (0 : Int)))
      (False)
      ((Go.Sx.InR ((↑x1 : Int) + (1 : Int))) ∧
      (∃ x2 : Nat, ((x2 ≤ List.length t) ∧
      ((List.length t - x2 < List.length t - x1) ∧
      ((t = t) ∧
      (((↑(List.length (List.flatten (List.take x1 t))) : Int) + (↑(List.length (List.getD t (Int.toNat (↑x1 : Int)) [])) : Int) = (↑(List.length (List.flatten (List.take x2 t))) : Int)) ∧
      ((t = t) ∧
      (((↑(List.length t) : Int) = (↑(List.length t) : Int)) ∧
      ((↑x1 : Int) + (1 : Int) = (↑x2 : Int)))))))))))))
    ((((0 : Int) ≤ (↑(List.length (List.flatten (List.take x1 t))) : Int)) ∧
    ((↑(List.length (List.flatten (List.take x1 t))) : Int) ≤ (1099511627776 : Int))) ∧
    ((∃ x3 : Nat, ((x3 ≤ List.length t) ∧
    ((t = t) ∧
    (((↑(List.length t) : Int) = (↑(List.length t) : Int)) ∧
    (((0 : Int) = (↑x3 : Int)) ∧
    ([] = List.flatten (List.take x3 t))))))) ∧
    (∀ x4 : Nat, ((x4 ≤ List.length t) →
    (BrP (Decidable.decide ((↑x4 : Int) < (↑(List.length t) : Int)))
      ((Go.Sx.inB (↑x4 : Int) (List.length t)) ∧
      ((Go.Sx.room (List.length (List.flatten (List.take x4 t)) + List.length (List.getD t (Int.toNat (↑x4 : Int)) []))) ∧
      ((Go.Sx.InR ((↑x4 : Int) + (1 : Int))) ∧
      (∃ x5 : Nat, ((x5 ≤ List.length t) ∧
      ((List.length t - x5 < List.length t - x4) ∧
      ((t = t) ∧
      (((↑(List.length t) : Int) = (↑(List.length t) : Int)) ∧
      (((↑x4 : Int) + (1 : Int) = (↑x5 : Int)) ∧
      (List.flatten (List.take x4 t) ++ List.getD t (Int.toNat (↑x4 : Int)) [] = List.flatten (List.take x5 t)))))))))))
      ((List.flatten (List.take x4 t) = List.flatten t) ∧
      (True)))))))))))
theorem Concat_vc (t : List (List Int)) : runF Try.prog (gam Concat_G) noWr (Concat_ann t) Try.f93 (bodyOf Try.f93) [] [.c (.rows .i64 (t))] (Concat_p t) = Concat_V t := by kernel_rfl
theorem Concat_ok (t : List (List Int)) (hpre : (Concat_p t).pre) : Concat_V t := by
  simp only [Concat_p, Concat_V, BrP_iff, true_and, and_true, decide_eq_true_eq, decide_eq_false_iff_not, bne_iff_ne, beq_iff_eq, bne_eq_false_iff_eq, beq_eq_false_iff_ne, Bool.not_eq_true, Bool.not_eq_false, Bool.not_true, Bool.not_false, Bool.not_eq_eq_eq_not, Int.toNat_natCast, List.length_append, List.length_take, List.length_replicate, List.length_set, List.length_map, List.length_drop, List.length_nil, List.length_cons, markL_length, inB, InR, room, bdsOk] at hpre ⊢
  obtain ⟨h1, h2⟩ := hpre
  refine ⟨⟨0, by omega, rfl, rfl⟩, fun i hi => ⟨fun h => ?_, fun h => ⟨?_, ⟨0, by omega, rfl, rfl⟩, fun k hk => ⟨fun h3 => ?_, fun h3 => ?_⟩⟩⟩⟩
  · have f1 := flat_len h1 h2 i hi
    have g1 := h2 _ (getD_mem t [] i (by omega))
    refine ⟨by omega, by omega, fun h4 => by omega, fun h4 => ⟨by omega, i + 1, by omega, by omega, ?_, by omega⟩⟩
    rw [flat_step t i (by omega), List.length_append]
    omega
  · have f1 := flat_len h1 h2 i hi
    omega
  · have f1 := flat_len h1 h2 k hk
    have g1 := h2 _ (getD_mem t [] k (by omega))
    exact ⟨by omega, by omega, by omega, k + 1, by omega, by omega, by omega, (flat_step t k (by omega)).symm⟩
  · rw [List.take_of_length_le (by omega)]
theorem Concat_fits : Fits Try.prog 93 ⟨[], Concat_ct⟩ := by
  refine fits_fn (Γ := gam Concat_G) (gok_cons sGrow_fits gok_nil) Try.func93 (by kernel_rfl) (by kernel_rfl) (by kernel_rfl) fun ds p h hp => ?_
  unfold Concat_ct at h
  split at h
  · cases h
    exact ⟨noWr, Concat_ann _ , by rw [Concat_vc]; exact Concat_ok _  hp⟩
  · cases h

def timB (s : Int) (w : List Int) (s2 : Int) (w2 : List Int) : Bool := braidB s w && braidB s2 w2 && decide (s = s2)

def l16Two_p (s : Int) (w : List Int) (s2 : Int) (w2 : List Int) : Post := ⟨w.length ≤ 1099511627776 ∧ w2.length ≤ 1099511627776, .c (.int .i64 (if timB s w s2 w2 = true then 0 else 1)), []⟩
def l16Two_ct : List AD → Option Post
  | [.agg [.int .i64 (s), .ints .i64 (w)], .agg [.int .i64 (s2), .ints .i64 (w2)]] => some (l16Two_p s w s2 w2)
  | _ => none
def l16Two_G : List (Nat × Ctr) := [(122, ⟨[], l16Is_ct⟩)]
def l16Two_V (s : Int) (w : List Int) (s2 : Int) (w2 : List Int) : Prop :=
  (((Go.Sx.room (List.length w)) ∧
  (True)) ∧
  (BrP (!Go.Sx.braidB s w)
    (((1 : Int) = if Go.Sx.timB s w s2 w2 = Bool.true then (0 : Int) else (1 : Int)) ∧
    (True))
    (((Go.Sx.room (List.length w2)) ∧
    (True)) ∧
    (BrP (!Go.Sx.braidB s2 w2)
      (((1 : Int) = if Go.Sx.timB s w s2 w2 = Bool.true then (0 : Int) else (1 : Int)) ∧
      (True))
      (BrP (s != s2)
        (((1 : Int) = if Go.Sx.timB s w s2 w2 = Bool.true then (0 : Int) else (1 : Int)) ∧
        (True))
        (((0 : Int) = if Go.Sx.timB s w s2 w2 = Bool.true then (0 : Int) else (1 : Int)) ∧
        (True)))))))
theorem l16Two_vc (s : Int) (w : List Int) (s2 : Int) (w2 : List Int) : runF Try.prog (gam l16Two_G) noWr noAnn Try.f90 (bodyOf Try.f90) [] [.agg [.int .i64 (s), .ints .i64 (w)], .agg [.int .i64 (s2), .ints .i64 (w2)]] (l16Two_p s w s2 w2) = l16Two_V s w s2 w2 := by kernel_rfl
theorem l16Two_ok (s : Int) (w : List Int) (s2 : Int) (w2 : List Int) (hpre : (l16Two_p s w s2 w2).pre) : l16Two_V s w s2 w2 := by
  simp only [l16Two_p, l16Two_V, BrP_iff, true_and, and_true, decide_eq_true_eq, decide_eq_false_iff_not, bne_iff_ne, beq_iff_eq, bne_eq_false_iff_eq, beq_eq_false_iff_ne, Bool.not_eq_true, Bool.not_eq_false, Bool.not_true, Bool.not_false, Bool.not_eq_eq_eq_not, Int.toNat_natCast, List.length_append, List.length_take, List.length_replicate, List.length_set, List.length_map, List.length_drop, List.length_nil, List.length_cons, markL_length, inB, InR, room, bdsOk] at hpre ⊢
  refine ⟨hpre.1, fun h => by simp [timB, h], fun h => ⟨hpre.2, fun h2 => by simp [timB, h2], fun h2 => ⟨fun h3 => by simp [timB, h3], fun h3 => ?_⟩⟩⟩
  have : timB s w s2 w2 = true := by rw [timB, h, h2, decide_eq_true h3]; rfl
  rw [if_pos this]
theorem l16Two_fits : Fits Try.prog 90 ⟨[], l16Two_ct⟩ := by
  refine fits_fn (Γ := gam l16Two_G) (gok_cons l16Is_fits gok_nil) Try.func90 (by kernel_rfl) (by kernel_rfl) (by kernel_rfl) fun ds p h hp => ?_
  unfold l16Two_ct at h
  split at h
  · cases h
    exact ⟨noWr, noAnn, by rw [l16Two_vc]; exact l16Two_ok _ _ _ _  hp⟩
  · cases h

def timC (s : Int) (w : List Int) (s2 : Int) (w2 : List Int) : (Int × List Int) × Int :=
  if timB s w s2 w2 = true then (if w.length + w2.length ≤ 30 then ((s, w ++ w2), 0) else ((0, []), 3)) else ((0, []), 1)

def sTimes_p (s : Int) (w : List Int) (s2 : Int) (w2 : List Int) : Post := ⟨w.length ≤ 1099511627776 ∧ w2.length ≤ 1099511627776, .tup [.inr [.int .i64 ((timC s w s2 w2).1.1), .ints 2 .i64 ((timC s w s2 w2).1.2)], .inl (.int .i64 ((timC s w s2 w2).2))], []⟩
def sTimes_ct : List AD → Option Post
  | [.agg [.int .i64 (s), .ints .i64 (w)], .agg [.int .i64 (s2), .ints .i64 (w2)]] => some (sTimes_p s w s2 w2)
  | _ => none
def sTimes_G : List (Nat × Ctr) := [(90, ⟨[], l16Two_ct⟩), (91, ⟨[], l01Own_ct⟩)]
def sTimes_V (s : Int) (w : List Int) (s2 : Int) (w2 : List Int) : Prop :=
  ((((List.length w ≤ (1099511627776 : Nat)) ∧
  (List.length w2 ≤ (1099511627776 : Nat))) ∧
  (True)) ∧
  (BrP ((if Go.Sx.timB s w s2 w2 = Bool.true then (0 : Int) else (1 : Int)) != (0 : Int))
    (((((0 : Int) = Prod.fst (Prod.fst (Go.Sx.timC s w s2 w2))) ∧
    (([] = Prod.snd (Prod.fst (Go.Sx.timC s w s2 w2))) ∧
    (True))) ∧
    (((if Go.Sx.timB s w s2 w2 = Bool.true then (0 : Int) else (1 : Int)) = Prod.snd (Go.Sx.timC s w s2 w2)) ∧
    (True))) ∧
    (True))
    ((Go.Sx.InR ((↑(List.length w) : Int) + (↑(List.length w2) : Int))) ∧
    (BrP (Decidable.decide ((30 : Int) < (↑(List.length w) : Int) + (↑(List.length w2) : Int)))
      (((((0 : Int) = Prod.fst (Prod.fst (Go.Sx.timC s w s2 w2))) ∧
      (([] = Prod.snd (Prod.fst (Go.Sx.timC s w s2 w2))) ∧
      (True))) ∧
      (((3 : Int) = Prod.snd (Go.Sx.timC s w s2 w2)) ∧
      (True))) ∧
      (True))
      (((Go.Sx.room (List.length w)) ∧
      (True)) ∧
      ((Go.Sx.room (List.length w + List.length w2)) ∧
      ((((s = Prod.fst (Prod.fst (Go.Sx.timC s w s2 w2))) ∧
      ((w ++ w2 = Prod.snd (Prod.fst (Go.Sx.timC s w s2 w2))) ∧
      (True))) ∧
      (((0 : Int) = Prod.snd (Go.Sx.timC s w s2 w2)) ∧
      (True))) ∧
      (True))))))))
theorem sTimes_vc (s : Int) (w : List Int) (s2 : Int) (w2 : List Int) : runF Try.prog (gam sTimes_G) noWr noAnn Try.f48 (bodyOf Try.f48) [] [.agg [.int .i64 (s), .ints .i64 (w)], .agg [.int .i64 (s2), .ints .i64 (w2)]] (sTimes_p s w s2 w2) = sTimes_V s w s2 w2 := by kernel_rfl
theorem sTimes_ok (s : Int) (w : List Int) (s2 : Int) (w2 : List Int) (hpre : (sTimes_p s w s2 w2).pre) : sTimes_V s w s2 w2 := by
  simp only [sTimes_p, sTimes_V, BrP_iff, true_and, and_true, decide_eq_true_eq, decide_eq_false_iff_not, bne_iff_ne, beq_iff_eq, bne_eq_false_iff_eq, beq_eq_false_iff_ne, Bool.not_eq_true, Bool.not_eq_false, Bool.not_true, Bool.not_false, Bool.not_eq_eq_eq_not, Int.toNat_natCast, List.length_append, List.length_take, List.length_replicate, List.length_set, List.length_map, List.length_drop, List.length_nil, List.length_cons, markL_length, inB, InR, room, bdsOk] at hpre ⊢
  refine ⟨hpre, fun h => ?_, fun h => ?_⟩
  · have : ¬ timB s w s2 w2 = true := fun e => h (if_pos e)
    rw [timC, if_neg this, if_neg this]
    exact ⟨⟨rfl, rfl⟩, rfl⟩
  · have : timB s w s2 w2 = true := by
      by_cases e : timB s w s2 w2 = true
      · exact e
      · rw [if_neg e] at h; omega
    rw [timC, if_pos this]
    refine ⟨by omega, fun h2 => by rw [if_neg (by omega)]; exact ⟨⟨rfl, rfl⟩, rfl⟩, fun h2 => ⟨hpre.1, by omega, ?_⟩⟩
    rw [if_pos (by omega)]
    exact ⟨⟨rfl, rfl⟩, rfl⟩
theorem sTimes_fits : Fits Try.prog 48 ⟨[], sTimes_ct⟩ := by
  refine fits_fn (Γ := gam sTimes_G) (gok_cons l16Two_fits (gok_cons l01Own_fits gok_nil)) Try.func48 (by kernel_rfl) (by kernel_rfl) (by kernel_rfl) fun ds p h hp => ?_
  unfold sTimes_ct at h
  split at h
  · cases h
    exact ⟨noWr, noAnn, by rw [sTimes_vc]; exact sTimes_ok _ _ _ _  hp⟩
  · cases h

def iTimes_p (s : Int) (w : List Int) (s2 : Int) (w2 : List Int) : Post := ⟨w.length ≤ 1099511627776 ∧ w2.length ≤ 1099511627776, .tup [.inr [.int .i64 ((timC s w s2 w2).1.1), .ints 2 .i64 ((timC s w s2 w2).1.2)], .inl (.int .i64 ((timC s w s2 w2).2))], []⟩
def iTimes_ct : List AD → Option Post
  | [.agg [.int .i64 (s), .ints .i64 (w)], .agg [.int .i64 (s2), .ints .i64 (w2)]] => some (iTimes_p s w s2 w2)
  | _ => none
def iTimes_G : List (Nat × Ctr) := [(92, ⟨[], iIsBraid_ct⟩), (93, ⟨[], Concat_ct⟩)]
def iTimes_V (s : Int) (w : List Int) (s2 : Int) (w2 : List Int) : Prop :=
  (((Go.Sx.room (List.length w)) ∧
  (True)) ∧
  (BrP (!Go.Sx.braidB s w)
    (((((0 : Int) = Prod.fst (Prod.fst (Go.Sx.timC s w s2 w2))) ∧
    (([] = Prod.snd (Prod.fst (Go.Sx.timC s w s2 w2))) ∧
    (True))) ∧
    (((1 : Int) = Prod.snd (Go.Sx.timC s w s2 w2)) ∧
    (True))) ∧
    (True))
    (((Go.Sx.room (List.length w2)) ∧
    (True)) ∧
    (BrP (!Go.Sx.braidB s2 w2)
      (((((0 : Int) = Prod.fst (Prod.fst (Go.Sx.timC s w s2 w2))) ∧
      (([] = Prod.snd (Prod.fst (Go.Sx.timC s w s2 w2))) ∧
      (True))) ∧
      (((1 : Int) = Prod.snd (Go.Sx.timC s w s2 w2)) ∧
      (True))) ∧
      (True))
      (BrP (s != s2)
        (((((0 : Int) = Prod.fst (Prod.fst (Go.Sx.timC s w s2 w2))) ∧
        (([] = Prod.snd (Prod.fst (Go.Sx.timC s w s2 w2))) ∧
        (True))) ∧
        (((1 : Int) = Prod.snd (Go.Sx.timC s w s2 w2)) ∧
        (True))) ∧
        (True))
        ((Go.Sx.InR ((↑(List.length w) : Int) + (↑(List.length w2) : Int))) ∧
        (BrP (Decidable.decide ((30 : Int) < (↑(List.length w) : Int) + (↑(List.length w2) : Int)))
          (((((0 : Int) = Prod.fst (Prod.fst (Go.Sx.timC s w s2 w2))) ∧
          (([] = Prod.snd (Prod.fst (Go.Sx.timC s w s2 w2))) ∧
          (True))) ∧
          (((3 : Int) = Prod.snd (Go.Sx.timC s w s2 w2)) ∧
          (True))) ∧
          (True))
          ((((List.length [w, w2] ≤ (1000 : Nat)) ∧
          (∀ (r : List Int), r ∈ [w, w2] → List.length r ≤ (1000 : Nat))) ∧
          (True)) ∧
          ((((s = Prod.fst (Prod.fst (Go.Sx.timC s w s2 w2))) ∧
          ((List.flatten [w, w2] = Prod.snd (Prod.fst (Go.Sx.timC s w s2 w2))) ∧
          (True))) ∧
          (((0 : Int) = Prod.snd (Go.Sx.timC s w s2 w2)) ∧
          (True))) ∧
          (True))))))))))
theorem iTimes_vc (s : Int) (w : List Int) (s2 : Int) (w2 : List Int) : runF Try.prog (gam iTimes_G) noWr noAnn Try.f49 (bodyOf Try.f49) [] [.agg [.int .i64 (s), .ints .i64 (w)], .agg [.int .i64 (s2), .ints .i64 (w2)]] (iTimes_p s w s2 w2) = iTimes_V s w s2 w2 := by kernel_rfl
theorem iTimes_ok (s : Int) (w : List Int) (s2 : Int) (w2 : List Int) (hpre : (iTimes_p s w s2 w2).pre) : iTimes_V s w s2 w2 := by
  simp only [iTimes_p, iTimes_V, BrP_iff, true_and, and_true, decide_eq_true_eq, decide_eq_false_iff_not, bne_iff_ne, beq_iff_eq, bne_eq_false_iff_eq, beq_eq_false_iff_ne, Bool.not_eq_true, Bool.not_eq_false, Bool.not_true, Bool.not_false, Bool.not_eq_eq_eq_not, Int.toNat_natCast, List.length_append, List.length_take, List.length_replicate, List.length_set, List.length_map, List.length_drop, List.length_nil, List.length_cons, markL_length, inB, InR, room, bdsOk] at hpre ⊢
  have no : timB s w s2 w2 = false → (0 = (timC s w s2 w2).1.1 ∧ [] = (timC s w s2 w2).1.2) ∧ 1 = (timC s w s2 w2).2 := fun e => by
    rw [timC, if_neg (by rw [e]; decide)]
    exact ⟨⟨rfl, rfl⟩, rfl⟩
  refine ⟨hpre.1, fun h => no (by simp [timB, h]), fun h => ⟨hpre.2, fun h2 => no (by simp [timB, h2]), fun h2 => ⟨fun h3 => no (by simp [timB, h3]), fun h3 => ?_⟩⟩⟩
  have : timB s w s2 w2 = true := by rw [timB, h, h2, decide_eq_true h3]; rfl
  rw [timC, if_pos this]
  refine ⟨by omega, fun h2 => by rw [if_neg (by omega)]; exact ⟨⟨rfl, rfl⟩, rfl⟩, fun h2 => ⟨⟨by omega, fun r hr => ?_⟩, ?_⟩⟩
  · simp at hr
    rcases hr with rfl | rfl <;> omega
  · rw [if_pos (by omega)]
    exact ⟨⟨rfl, by simp⟩, rfl⟩
theorem iTimes_fits : Fits Try.prog 49 ⟨[], iTimes_ct⟩ := by
  refine fits_fn (Γ := gam iTimes_G) (gok_cons iIsBraid_fits (gok_cons Concat_fits gok_nil)) Try.func49 (by kernel_rfl) (by kernel_rfl) (by kernel_rfl) fun ds p h hp => ?_
  unfold iTimes_ct at h
  split at h
  · cases h
    exact ⟨noWr, noAnn, by rw [iTimes_vc]; exact iTimes_ok _ _ _ _  hp⟩
  · cases h

def lTimes_p (s : Int) (w : List Int) (s2 : Int) (w2 : List Int) : Post := ⟨(w.length : Int) ≤ 9223372036854775807 ∧ (w2.length : Int) ≤ 9223372036854775807, .c (.bool (true)), []⟩
def lTimes_ct : List AD → Option Post
  | [.agg [.int .i64 (s), .ints .i64 (w)], .agg [.int .i64 (s2), .ints .i64 (w2)]] => some (lTimes_p s w s2 w2)
  | _ => none
def lTimes_G : List (Nat × Ctr) := [(34, ⟨[], szBraid_ct⟩), (37, ⟨[], toBraid_ct⟩), (40, ⟨[], eqBraid_ct⟩), (42, ⟨[(0, 1)], markBraid_ct⟩), (50, ⟨[], heldBraid_ct⟩), (48, ⟨[], sTimes_ct⟩), (49, ⟨[], iTimes_ct⟩)]
def lTimes_V (s : Int) (w : List Int) (s2 : Int) (w2 : List Int) : Prop :=
  (((((↑(List.length w) : Int) ≤ (9223372036854775807 : Int)) ∧
  (((0 : Int) ≤ (1048576 : Int)) ∧
  ((1048576 : Int) ≤ (1099511627776 : Int)))) ∧
  (True)) ∧
  (BrP (Decidable.decide ((if (1048576 : Int) < (↑(List.length w) : Int) then (-1 : Int) else (1048576 : Int) - (↑(List.length w) : Int)) < (0 : Int)))
    ((Bool.true = Bool.true) ∧
    (True))
    (((((↑(List.length w2) : Int) ≤ (9223372036854775807 : Int)) ∧
    (((0 : Int) ≤ if (1048576 : Int) < (↑(List.length w) : Int) then (-1 : Int) else (1048576 : Int) - (↑(List.length w) : Int)) ∧
    ((if (1048576 : Int) < (↑(List.length w) : Int) then (-1 : Int) else (1048576 : Int) - (↑(List.length w) : Int)) ≤ (1099511627776 : Int)))) ∧
    (True)) ∧
    (BrP (Decidable.decide ((if (if (1048576 : Int) < (↑(List.length w) : Int) then (-1 : Int) else (1048576 : Int) - (↑(List.length w) : Int)) < (↑(List.length w2) : Int) then (-1 : Int) else (if (1048576 : Int) < (↑(List.length w) : Int) then (-1 : Int) else (1048576 : Int) - (↑(List.length w) : Int)) - (↑(List.length w2) : Int)) < (0 : Int)))
      ((Bool.true = Bool.true) ∧
      (True))
      (((Go.Sx.room (List.length w)) ∧
      (True)) ∧
      (((Go.Sx.room (List.length w2)) ∧
      (True)) ∧
      ((((List.length w ≤ (1099511627776 : Nat)) ∧
      (List.length w2 ≤ (1099511627776 : Nat))) ∧
      (True)) ∧
      (((Go.Sx.room (List.length w)) ∧
      (True)) ∧
      (((Go.Sx.room (List.length w2)) ∧
      (True)) ∧
      ((((List.length w ≤ (1099511627776 : Nat)) ∧
      (List.length w2 ≤ (1099511627776 : Nat))) ∧
      (True)) ∧
      (((Go.Sx.room (List.length (Prod.snd (Prod.fst (Go.Sx.timC s w s2 w2))))) ∧
      (True)) ∧
      (BrP (!Decidable.decide (Prod.fst (Prod.fst (Go.Sx.timC s w s2 w2)) = Prod.fst (Prod.fst (Go.Sx.timC s w s2 w2)) ∧ Prod.snd (Prod.fst (Go.Sx.timC s w s2 w2)) = Prod.snd (Prod.fst (Go.Sx.timC s w s2 w2))))
        ((Bool.false = Bool.true) ∧
        (True))
        (BrP (Prod.snd (Go.Sx.timC s w s2 w2) != Prod.snd (Go.Sx.timC s w s2 w2))
          ((Bool.false = Bool.true) ∧
          (True))
          (((Go.Sx.room (List.length w)) ∧
          (True)) ∧
          (((Go.Sx.room (List.length w)) ∧
          (True)) ∧
          (BrP (!Decidable.decide (s = s ∧ w = w))
            ((Bool.false = Bool.true) ∧
            (True))
            (((Go.Sx.room (List.length w2)) ∧
            (True)) ∧
            (((Go.Sx.room (List.length w2)) ∧
            (True)) ∧
            (BrP (!Decidable.decide (s2 = s2 ∧ w2 = w2))
              ((Bool.false = Bool.true) ∧
              (True))
              ((((Go.Sx.room (List.length w)) ∧
              (((0 : Int) ≤ (1 : Int)) ∧
              ((1 : Int) ≤ (1099511627776 : Int)))) ∧
              ((List.length (Go.Sx.markL (1 : Int) (List.length w)) = List.length w) ∧
              (True))) ∧
              ((((Go.Sx.room (List.length w2)) ∧
              (((0 : Int) ≤ (1 : Int) + (↑(List.length w) : Int)) ∧
              ((1 : Int) + (↑(List.length w) : Int) ≤ (1099511627776 : Int)))) ∧
              ((List.length (Go.Sx.markL ((1 : Int) + (↑(List.length w) : Int)) (List.length w2)) = List.length w2) ∧
              (True))) ∧
              (BrP (Decidable.decide ((1 : Int) + (↑(List.length w) : Int) + (↑(List.length w2) : Int) < (0 : Int)))
                ((Bool.false = Bool.true) ∧
                (True))
                (((Go.Sx.room (List.length (Prod.snd (Prod.fst (Go.Sx.timC s w s2 w2))))) ∧
                (True)) ∧
                (BrP (!Decidable.decide (Prod.fst (Prod.fst (Go.Sx.timC s w s2 w2)) = Prod.fst (Prod.fst (Go.Sx.timC s w s2 w2)) ∧ Prod.snd (Prod.fst (Go.Sx.timC s w s2 w2)) = Prod.snd (Prod.fst (Go.Sx.timC s w s2 w2))))
                  ((Bool.false = Bool.true) ∧
                  (True))
                  (BrP (Prod.snd (Go.Sx.timC s w s2 w2) != Prod.snd (Go.Sx.timC s w s2 w2))
                    ((Bool.false = Bool.true) ∧
                    (True))
                    ((((Go.Sx.room (List.length (Prod.snd (Prod.fst (Go.Sx.timC s w s2 w2))))) ∧
                    (((0 : Int) ≤ (1 : Int)) ∧
                    ((1 : Int) ≤ (1099511627776 : Int)))) ∧
                    ((List.length (Go.Sx.markL (1 : Int) (List.length (Prod.snd (Prod.fst (Go.Sx.timC s w s2 w2))))) = List.length (Prod.snd (Prod.fst (Go.Sx.timC s w s2 w2)))) ∧
                    (True))) ∧
                    ((((Go.Sx.room (List.length (Go.Sx.markL (1 : Int) (List.length (Prod.snd (Prod.fst (Go.Sx.timC s w s2 w2))))))) ∧
                    (((0 : Int) ≤ (1 : Int)) ∧
                    ((1 : Int) ≤ (1099511627776 : Int)))) ∧
                    (True)) ∧
                    (BrP (Decidable.decide ((if Go.Sx.markL (1 : Int) (List.length (Prod.snd (Prod.fst (Go.Sx.timC s w s2 w2)))) = Go.Sx.markL (1 : Int) (List.length (Go.Sx.markL (1 : Int) (List.length (Prod.snd (Prod.fst (Go.Sx.timC s w s2 w2)))))) then (1 : Int) + (↑(List.length (Go.Sx.markL (1 : Int) (List.length (Prod.snd (Prod.fst (Go.Sx.timC s w s2 w2)))))) : Int) else (-1 : Int)) < (0 : Int)))
                      ((Bool.false = Bool.true) ∧
                      (True))
                      (BrP ((if Go.Sx.markL (1 : Int) (List.length (Prod.snd (Prod.fst (Go.Sx.timC s w s2 w2)))) = Go.Sx.markL (1 : Int) (List.length (Go.Sx.markL (1 : Int) (List.length (Prod.snd (Prod.fst (Go.Sx.timC s w s2 w2)))))) then (1 : Int) + (↑(List.length (Go.Sx.markL (1 : Int) (List.length (Prod.snd (Prod.fst (Go.Sx.timC s w s2 w2)))))) : Int) else (-1 : Int)) != (1 : Int) + (↑(List.length (Prod.snd (Prod.fst (Go.Sx.timC s w s2 w2)))) : Int))
                        ((Bool.false = Bool.true) ∧
                        (True))
                        (((Go.Sx.room (List.length w)) ∧
                        (True)) ∧
                        (((Go.Sx.room (List.length w2)) ∧
                        (True)) ∧
                        ((((List.length w ≤ (1099511627776 : Nat)) ∧
                        (List.length w2 ≤ (1099511627776 : Nat))) ∧
                        (True)) ∧
                        (((Go.Sx.room (List.length (Prod.snd (Prod.fst (Go.Sx.timC s w s2 w2))))) ∧
                        (True)) ∧
                        (BrP (!Decidable.decide (Prod.fst (Prod.fst (Go.Sx.timC s w s2 w2)) = Prod.fst (Prod.fst (Go.Sx.timC s w s2 w2)) ∧ Prod.snd (Prod.fst (Go.Sx.timC s w s2 w2)) = Prod.snd (Prod.fst (Go.Sx.timC s w s2 w2))))
                          ((Bool.false = Bool.true) ∧
                          (True))
                          (BrP (Prod.snd (Go.Sx.timC s w s2 w2) != Prod.snd (Go.Sx.timC s w s2 w2))
                            ((Bool.false = Bool.true) ∧
                            (True))
                            ((((Go.Sx.room (List.length (Go.Sx.markL (1 : Int) (List.length (Prod.snd (Prod.fst (Go.Sx.timC s w s2 w2))))))) ∧
                            (((0 : Int) ≤ (1 : Int)) ∧
                            ((1 : Int) ≤ (1099511627776 : Int)))) ∧
                            (True)) ∧
                            (BrP (Decidable.decide ((if Go.Sx.markL (1 : Int) (List.length (Prod.snd (Prod.fst (Go.Sx.timC s w s2 w2)))) = Go.Sx.markL (1 : Int) (List.length (Go.Sx.markL (1 : Int) (List.length (Prod.snd (Prod.fst (Go.Sx.timC s w s2 w2)))))) then (1 : Int) + (↑(List.length (Go.Sx.markL (1 : Int) (List.length (Prod.snd (Prod.fst (Go.Sx.timC s w s2 w2)))))) : Int) else (-1 : Int)) < (0 : Int)))
                              ((Bool.false = Bool.true) ∧
                              (True))
                              (BrP ((if Go.Sx.markL (1 : Int) (List.length (Prod.snd (Prod.fst (Go.Sx.timC s w s2 w2)))) = Go.Sx.markL (1 : Int) (List.length (Go.Sx.markL (1 : Int) (List.length (Prod.snd (Prod.fst (Go.Sx.timC s w s2 w2)))))) then (1 : Int) + (↑(List.length (Go.Sx.markL (1 : Int) (List.length (Prod.snd (Prod.fst (Go.Sx.timC s w s2 w2)))))) : Int) else (-1 : Int)) != (1 : Int) + (↑(List.length (Prod.snd (Prod.fst (Go.Sx.timC s w s2 w2)))) : Int))
                                ((Bool.false = Bool.true) ∧
                                (True))
                                ((Bool.true = Bool.true) ∧
                                (True))))))))))))))))))))))))))))))))))))))))
theorem lTimes_vc (s : Int) (w : List Int) (s2 : Int) (w2 : List Int) : runF Try.prog (gam lTimes_G) noWr noAnn Try.f8 (bodyOf Try.f8) [] [.agg [.int .i64 (s), .ints .i64 (w)], .agg [.int .i64 (s2), .ints .i64 (w2)]] (lTimes_p s w s2 w2) = lTimes_V s w s2 w2 := by kernel_rfl
theorem lTimes_ok (s : Int) (w : List Int) (s2 : Int) (w2 : List Int) (hpre : (lTimes_p s w s2 w2).pre) : lTimes_V s w s2 w2 := by
  simp only [lTimes_p, lTimes_V, BrP_iff, true_and, and_true, decide_eq_true_eq, decide_eq_false_iff_not, bne_iff_ne, beq_iff_eq, bne_eq_false_iff_eq, beq_eq_false_iff_ne, Bool.not_eq_true, Bool.not_eq_false, Bool.not_true, Bool.not_false, Bool.not_eq_eq_eq_not, Int.toNat_natCast, List.length_append, List.length_take, List.length_replicate, List.length_set, List.length_map, List.length_drop, List.length_nil, List.length_cons, markL_length, inB, InR, room, bdsOk] at hpre ⊢
  have hl : (timC s w s2 w2).1.2.length ≤ 30 := by
    unfold timC
    split
    · split
      · rw [List.length_append]; omega
      · simp
    · simp
  have h1 : (timC s w s2 w2).1.2.length ≤ 1099511627776 := by omega
  have h2 : ¬ (1 + ((timC s w s2 w2).1.2.length : Int) < 0) := by omega
  refine ⟨⟨hpre.1, by omega, by omega⟩, fun _ => trivial, fun h => ?_⟩
  have hw : w.length ≤ 1048576 := by split at h <;> omega
  rw [if_neg (by omega)] at h ⊢
  refine ⟨⟨hpre.2, by omega, by omega⟩, fun _ => trivial, fun h3 => ?_⟩
  have hw2 : w2.length ≤ 1048576 := by split at h3 <;> omega
  have h4 : w.length ≤ 1099511627776 := by omega
  have h5 : w2.length ≤ 1099511627776 := by omega
  have h6 : ¬ (1 + (w.length : Int) + (w2.length : Int) < 0) := by omega
  have h7 : 0 ≤ 1 + (w.length : Int) ∧ 1 + (w.length : Int) ≤ 1099511627776 := by omega
  have h8 : ¬ (1 + (w.length : Int) < 0) := by omega
  simp [h1, h2, h4, h5, h6, h7, h8]
theorem lTimes_fits : Fits Try.prog 8 ⟨[], lTimes_ct⟩ := by
  refine fits_fn (Γ := gam lTimes_G) (gok_cons szBraid_fits (gok_cons toBraid_fits (gok_cons eqBraid_fits (gok_cons markBraid_fits (gok_cons heldBraid_fits (gok_cons sTimes_fits (gok_cons iTimes_fits gok_nil))))))) Try.func8 (by kernel_rfl) (by kernel_rfl) (by kernel_rfl) fun ds p h hp => ?_
  unfold lTimes_ct at h
  split at h
  · cases h
    exact ⟨noWr, noAnn, by rw [lTimes_vc]; exact lTimes_ok _ _ _ _  hp⟩
  · cases h

end Go.Sx

