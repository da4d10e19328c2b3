/- Contracts of groups by tables. -/
import Derived.Test.YtaipacgkkjkjdaaGrp
open Go Go.Proofs
namespace Go.Sx
set_option linter.unusedSimpArgs false
set_option linter.unusedVariables false

def Index_p (l : List Int) (x : Int) : Post := ⟨l.length ≤ 1099511627776, .c (.int .i64 (idxL x l 0)), []⟩
def Index_ct : List AD → Option Post
  | [.c (.ints .i64 (l)), .c (.int .i64 (x))] => some (Index_p l x)
  | _ => none
def Index_ann (l : List Int) (x : Int) : Nat → Option Ann
  | 0 => some (Ann.mk ((Nat)) (fun i => ⟨[(0, .c (.ro (.ints .i64 (l)))), (1, .c (.int .i64 (x))), (6, .c (.ro (.ints .i64 (l)))), (7, .c (.int .i64 ((l.length : Int)))), (8, .c (.int .i64 ((i : Int))))], []⟩) (fun i => i ≤ l.length ∧ idxL x l 0 = idxL x (l.drop i) (i : Int)) (fun i => l.length - i) (fun _ => noAnn))
  | _ => none
def Index_G : List (Nat × Ctr) := []
def Index_V (l : List Int) (x : Int) : Prop :=
  ((∃ x0 : Nat, (((x0 ≤ List.length l) ∧
  (Go.Sx.idxL x l (0 : Int) = Go.Sx.idxL x (List.drop x0 l) (↑x0 : Int))) ∧
  ((l = l) ∧
  ((x = x) ∧
  ((l = l) ∧
  (((↑(List.length l) : Int) = (↑(List.length l) : Int)) ∧
  ((0 : Int) = (↑x0 : Int)))))))) ∧
  (∀ x1 : Nat, (((x1 ≤ List.length l) ∧
  (Go.Sx.idxL x l (0 : Int) = Go.Sx.idxL x (List.drop x1 l) (↑x1 : Int))) →
  (BrP (Decidable.decide ((↑x1 : Int) < (↑(List.length l) : Int)))
    ((Go.Sx.inB (↑x1 : Int) (List.length l)) ∧
    (BrP (x == List.getD l (Int.toNat (↑x1 : Int)) (0 : Int))
      (((↑x1 : Int) = Go.Sx.idxL x l (0 : Int)) ∧
      (True))
      ((Go.Sx.InR ((↑x1 : Int) + (1 : Int))) ∧
      (∃ x2 : Nat, (((x2 ≤ List.length l) ∧
      (Go.Sx.idxL x l (0 : Int) = Go.Sx.idxL x (List.drop x2 l) (↑x2 : Int))) ∧
      ((List.length l - x2 < List.length l - x1) ∧
      ((l = l) ∧
      ((x = x) ∧
      ((l = l) ∧
      (((↑(List.length l) : Int) = (↑(List.length l) : Int)) ∧
      ((↑x1 : Int) + (1 : Int) = (↑x2 : Int))))))))))))
    (((-1 : Int) = Go.Sx.idxL x l (0 : Int)) ∧
    (True))))))
theorem Index_vc (l : List Int) (x : Int) : runF Try.prog (gam Index_G) noWr (Index_ann l x) Try.f132 (bodyOf Try.f132) [] [.c (.ints .i64 (l)), .c (.int .i64 (x))] (Index_p l x) = Index_V l x := by kernel_rfl
theorem Index_ok (l : List Int) (x : Int) (hpre : (Index_p l x).pre) : Index_V l x := by
  simp only [Index_p, Index_V, BrP_iff, true_and, and_true, decide_eq_true_eq, decide_eq_false_iff_not, bne_iff_ne, beq_iff_eq, bne_eq_false_iff_eq, beq_eq_false_iff_ne, Bool.not_eq_true, Bool.not_eq_false, Bool.not_true, Bool.not_false, Bool.not_eq_eq_eq_not, Int.toNat_natCast, List.length_append, List.length_take, List.length_replicate, List.length_set, List.length_map, List.length_drop, List.length_nil, List.length_cons, markL_length, inB, InR, room, bdsOk] at hpre ⊢
  refine ⟨⟨0, ⟨by omega, rfl⟩, rfl⟩, fun i ⟨hi, he⟩ => ⟨fun h => ?_, fun h => ?_⟩⟩
  · rw [drop_cons' l 0 i (by omega)] at he
    simp only [idxL] at he
    refine ⟨by omega, fun h2 => ?_, fun h2 => ⟨by omega, i + 1, ⟨by omega, ?_⟩, by omega, by omega⟩⟩
    · rw [he, if_pos h2.symm]
    · rw [he, if_neg fun e => h2 e.symm]; simp
  · rw [he, List.drop_of_length_le (by omega)]; rfl
theorem Index_fits : Fits Try.prog 132 ⟨[], Index_ct⟩ := by
  refine fits_fn (Γ := gam Index_G) gok_nil Try.func132 (by kernel_rfl) (by kernel_rfl) (by kernel_rfl) fun ds p h hp => ?_
  unfold Index_ct at h
  split at h
  · cases h
    exact ⟨noWr, Index_ann _ _ , by rw [Index_vc]; exact Index_ok _ _  hp⟩
  · cases h

def indexIn_p (l : List Int) (x : Int) : Post := ⟨l.length ≤ 1099511627776, .c (.int .i64 (idxL x l 0)), []⟩
def indexIn_ct : List AD → Option Post
  | [.c (.ints .i64 (l)), .c (.int .i64 (x))] => some (indexIn_p l x)
  | _ => none
def indexIn_G : List (Nat × Ctr) := [(132, ⟨[], Index_ct⟩)]
def indexIn_V (l : List Int) (x : Int) : Prop :=
  (((List.length l ≤ (1099511627776 : Nat)) ∧
  (True)) ∧
  ((Go.Sx.idxL x l (0 : Int) = Go.Sx.idxL x l (0 : Int)) ∧
  (True)))
theorem indexIn_vc (l : List Int) (x : Int) : runF Try.prog (gam indexIn_G) noWr noAnn Try.f123 (bodyOf Try.f123) [] [.c (.ints .i64 (l)), .c (.int .i64 (x))] (indexIn_p l x) = indexIn_V l x := by kernel_rfl
theorem indexIn_ok (l : List Int) (x : Int) (hpre : (indexIn_p l x).pre) : indexIn_V l x := by
  simp only [indexIn_p, indexIn_V, BrP_iff, true_and, and_true, decide_eq_true_eq, decide_eq_false_iff_not, bne_iff_ne, beq_iff_eq, bne_eq_false_iff_eq, beq_eq_false_iff_ne, Bool.not_eq_true, Bool.not_eq_false, Bool.not_true, Bool.not_false, Bool.not_eq_eq_eq_not, Int.toNat_natCast, List.length_append, List.length_take, List.length_replicate, List.length_set, List.length_map, List.length_drop, List.length_nil, List.length_cons, markL_length, inB, InR, room, bdsOk] at hpre ⊢
  exact hpre
theorem indexIn_fits : Fits Try.prog 123 ⟨[], indexIn_ct⟩ := by
  refine fits_fn (Γ := gam indexIn_G) (gok_cons Index_fits gok_nil) Try.func123 (by kernel_rfl) (by kernel_rfl) (by kernel_rfl) fun ds p h hp => ?_
  unfold indexIn_ct at h
  split at h
  · cases h
    exact ⟨noWr, noAnn, by rw [indexIn_vc]; exact indexIn_ok _ _  hp⟩
  · cases h

def groupInverses_p (t : List (List Int)) : Post := ⟨tabB t = true, .c (.ints 2 .i64 (bkL t)), []⟩
def groupInverses_ct : List AD → Option Post
  | [.c (.rows .i64 (t))] => some (groupInverses_p t)
  | _ => none
def groupInverses_ann (t : List (List Int)) : Nat → Option Ann
  | 0 => some (Ann.mk ((Nat)) (fun i => ⟨[(0, .c (.ro (.rows .i64 (t)))), (3, .c (.own (8))), (9, .c (.ro (.rows .i64 (t)))), (10, .c (.int .i64 ((t.length : Int)))), (11, .c (.int .i64 ((i : Int))))], [(8, some (.ints 2 .i64 ((bkL t).take i ++ List.replicate ((bkL t).length - i) 0)))]⟩) (fun i => i ≤ t.length) (fun i => t.length - i) (fun _ => noAnn))
  | _ => none
def groupInverses_G : List (Nat × Ctr) := [(123, ⟨[], indexIn_ct⟩)]
def groupInverses_V (t : List (List Int)) : Prop :=
  ((((0 : Int) ≤ (↑(List.length t) : Int)) ∧
  (((↑(List.length t) : Int) ≤ (↑(List.length t) : Int)) ∧
  (Go.Sx.room (Int.toNat (↑(List.length t) : Int))))) ∧
  ((∃ x0 : Nat, ((x0 ≤ List.length t) ∧
  ((t = t) ∧
  ((t = t) ∧
  (((↑(List.length t) : Int) = (↑(List.length t) : Int)) ∧
  (((0 : Int) = (↑x0 : Int)) ∧
  (List.replicate (Int.toNat (↑(List.length t) : Int)) (0 : Int) = List.take x0 (Go.Sx.bkL t) ++ List.replicate (List.length (Go.Sx.bkL t) - x0) (0 : Int)))))))) ∧
  (∀ x1 : Nat, ((x1 ≤ List.length t) →
  (BrP (Decidable.decide ((↑x1 : Int) < (↑(List.length t) : Int)))
    ((Go.Sx.inB (↑x1 : Int) (List.length t)) ∧
    (((List.length (List.getD t (Int.toNat (↑x1 : Int)) []) ≤ (1099511627776 : Nat)) ∧
    (True)) ∧
    ((Go.Sx.inB (↑x1 : Int) (List.length (List.take x1 (Go.Sx.bkL t) ++ List.replicate (List.length (Go.Sx.bkL t) - x1) (0 : Int)))) ∧
    ((Go.Sx.InR ((↑x1 : Int) + (1 : Int))) ∧
    (∃ x2 : Nat, ((x2 ≤ List.length t) ∧
    ((List.length t - x2 < List.length t - x1) ∧
    ((t = t) ∧
    ((t = t) ∧
    (((↑(List.length t) : Int) = (↑(List.length t) : Int)) ∧
    (((↑x1 : Int) + (1 : Int) = (↑x2 : Int)) ∧
    (List.set (List.take x1 (Go.Sx.bkL t) ++ List.replicate (List.length (Go.Sx.bkL t) - x1) (0 : Int)) (Int.toNat (↑x1 : Int)) (Go.Sx.idxL (0 : Int) (List.getD t (Int.toNat (↑x1 : Int)) []) (0 : Int)) = List.take x2 (Go.Sx.bkL t) ++ List.replicate (List.length (Go.Sx.bkL t) - x2) (0 : Int)))))))))))))
    ((List.take x1 (Go.Sx.bkL t) ++ List.replicate (List.length (Go.Sx.bkL t) - x1) (0 : Int) = Go.Sx.bkL t) ∧
    (True)))))))
theorem groupInverses_vc (t : List (List Int)) : runF Try.prog (gam groupInverses_G) noWr (groupInverses_ann t) Try.f95 (bodyOf Try.f95) [] [.c (.rows .i64 (t))] (groupInverses_p t) = groupInverses_V t := by kernel_rfl
theorem groupInverses_ok (t : List (List Int)) (hpre : (groupInverses_p t).pre) : groupInverses_V t := by
  simp only [groupInverses_p, groupInverses_V, BrP_iff, true_and, and_true, decide_eq_true_eq, decide_eq_false_iff_not, bne_iff_ne, beq_iff_eq, bne_eq_false_iff_eq, beq_eq_false_iff_ne, Bool.not_eq_true, Bool.not_eq_false, Bool.not_true, Bool.not_false, Bool.not_eq_eq_eq_not, Int.toNat_natCast, List.length_append, List.length_take, List.length_replicate, List.length_set, List.length_map, List.length_drop, List.length_nil, List.length_cons, markL_length, inB, InR, room, bdsOk] at hpre ⊢
  obtain ⟨n1, n2, ht⟩ := tabB_of hpre
  have hl := bkL_length t
  rw [hl]
  refine ⟨by omega, ⟨0, by omega, rfl, by simp⟩, fun i hi => ⟨fun h => ?_, fun h => ?_⟩⟩
  · have r := ht i (by omega)
    have e := bkL_getD t i (by omega)
    refine ⟨by omega, by omega, by omega, by omega, i + 1, by omega, by omega, by omega, ?_⟩
    have := fill_step (bkL t) 0 0 i (by omega)
    rw [hl, e] at this
    exact this
  · rw [List.take_of_length_le (by omega), show t.length - i = 0 by omega]; simp
theorem groupInverses_fits : Fits Try.prog 95 ⟨[], groupInverses_ct⟩ := by
  refine fits_fn (Γ := gam groupInverses_G) (gok_cons indexIn_fits gok_nil) Try.func95 (by kernel_rfl) (by kernel_rfl) (by kernel_rfl) fun ds p h hp => ?_
  unfold groupInverses_ct at h
  split at h
  · cases h
    exact ⟨noWr, groupInverses_ann _ , by rw [groupInverses_vc]; exact groupInverses_ok _  hp⟩
  · cases h

def l10Back_p (t : List (List Int)) (x : Int) : Post := ⟨tabB t = true ∧ 0 ≤ x ∧ x ≤ (t.length : Int) - 1, .c (.int .i64 (bk t x.toNat)), []⟩
def l10Back_ct : List AD → Option Post
  | [.c (.rows .i64 (t)), .c (.int .i64 (x))] => some (l10Back_p t x)
  | _ => none
def l10Back_G : List (Nat × Ctr) := [(122, ⟨[], l01Index_ct⟩)]
def l10Back_V (t : List (List Int)) (x : Int) : Prop :=
  ((Go.Sx.inB x (List.length t)) ∧
  (((List.length (List.getD t (Int.toNat x) []) ≤ (1099511627776 : Nat)) ∧
  (True)) ∧
  ((Go.Sx.idxL (0 : Int) (List.getD t (Int.toNat x) []) (0 : Int) = Go.Sx.bk t (Int.toNat x)) ∧
  (True))))
theorem l10Back_vc (t : List (List Int)) (x : Int) : runF Try.prog (gam l10Back_G) noWr noAnn Try.f94 (bodyOf Try.f94) [] [.c (.rows .i64 (t)), .c (.int .i64 (x))] (l10Back_p t x) = l10Back_V t x := by kernel_rfl
theorem l10Back_ok (t : List (List Int)) (x : Int) (hpre : (l10Back_p t x).pre) : l10Back_V t x := by
  simp only [l10Back_p, l10Back_V, BrP_iff, true_and, and_true, decide_eq_true_eq, decide_eq_false_iff_not, bne_iff_ne, beq_iff_eq, bne_eq_false_iff_eq, beq_eq_false_iff_ne, Bool.not_eq_true, Bool.not_eq_false, Bool.not_true, Bool.not_false, Bool.not_eq_eq_eq_not, Int.toNat_natCast, List.length_append, List.length_take, List.length_replicate, List.length_set, List.length_map, List.length_drop, List.length_nil, List.length_cons, markL_length, inB, InR, room, bdsOk] at hpre ⊢
  obtain ⟨h1, h2, h3⟩ := hpre
  have r := (tabB_of h1).2.2 x.toNat (by omega)
  have := (tabB_of h1).2.1
  exact ⟨by omega, by omega, rfl⟩
theorem l10Back_fits : Fits Try.prog 94 ⟨[], l10Back_ct⟩ := by
  refine fits_fn (Γ := gam l10Back_G) (gok_cons l01Index_fits gok_nil) Try.func94 (by kernel_rfl) (by kernel_rfl) (by kernel_rfl) fun ds p h hp => ?_
  unfold l10Back_ct at h
  split at h
  · cases h
    exact ⟨noWr, noAnn, by rw [l10Back_vc]; exact l10Back_ok _ _  hp⟩
  · cases h

def isGroupTable_p (t : List (List Int)) : Post := ⟨roomR t, .c (.bool (grpB t)), []⟩
def isGroupTable_ct : List AD → Option Post
  | [.c (.rows .i64 (t))] => some (isGroupTable_p t)
  | _ => none
def isGroupTable_ann (t : List (List Int)) : Nat → Option Ann
  | 0 => some (Ann.mk ((Nat)) (fun i => ⟨[(0, .c (.ro (.rows .i64 (t)))), (15, .c (.int .i64 ((t.length : Int)))), (16, .c (.int .i64 ((i : Int))))], []⟩) (fun i => i ≤ t.length ∧ tabB t = true ∧ grpB t = (List.range' i (t.length - i)).all (gpX t)) (fun i => t.length - i) (fun i => fun b_ => match b_ with | 2 => some (Ann.mk ((Nat)) (fun j => ⟨[(0, .c (.ro (.rows .i64 (t)))), (15, .c (.int .i64 ((t.length : Int)))), (16, .c (.int .i64 ((i : Int)))), (3, .c (.int .i64 ((i : Int)))), (38, .c (.int .i64 ((t.length : Int)))), (39, .c (.int .i64 ((j : Int))))], []⟩) (fun j => j ≤ t.length ∧ i < t.length ∧ grpB t = ((List.range' j (t.length - j)).all (asY t i) && (List.range' (i + 1) (t.length - (i + 1))).all (gpX t))) (fun j => t.length - j) (fun j => fun b_ => match b_ with | 4 => some (Ann.mk ((Nat)) (fun k => ⟨[(0, .c (.ro (.rows .i64 (t)))), (15, .c (.int .i64 ((t.length : Int)))), (16, .c (.int .i64 ((i : Int)))), (3, .c (.int .i64 ((i : Int)))), (38, .c (.int .i64 ((t.length : Int)))), (39, .c (.int .i64 ((j : Int)))), (4, .c (.int .i64 ((j : Int)))), (43, .c (.int .i64 ((t.length : Int)))), (44, .c (.int .i64 ((k : Int))))], []⟩) (fun k => k ≤ t.length ∧ j < t.length ∧ grpB t = ((List.range' k (t.length - k)).all (asZ t i j) && ((List.range' (j + 1) (t.length - (j + 1))).all (asY t i) && (List.range' (i + 1) (t.length - (i + 1))).all (gpX t)))) (fun k => t.length - k) (fun _ => noAnn)) | _ => none)) | _ => none))
  | _ => none
def isGroupTable_G : List (Nat × Ctr) := [(129, ⟨[], IsTable_ct⟩), (130, ⟨[], permutationRows_ct⟩)]
def isGroupTable_V (t : List (List Int)) : Prop :=
  (((Go.Sx.roomR t) ∧
  (True)) ∧
  (BrP (!Go.Sx.tabB t)
    ((Bool.false = Go.Sx.grpB t) ∧
    (True))
    (((Go.Sx.roomR t) ∧
    (True)) ∧
    (BrP (!List.all t Go.Sx.permB)
      ((Bool.false = Go.Sx.grpB t) ∧
      (True))
      ((∃ x0 : Nat, (((x0 ≤ List.length t) ∧
      ((Go.Sx.tabB t = Bool.true) ∧
      (Go.Sx.grpB t = List.all (List.range' x0 (List.length t - x0)) (Go.Sx.gpX t)))) ∧
      ((t = t) ∧
      (((↑(List.length t) : Int) = (↑(List.length t) : Int)) ∧
      ((0 : Int) = (↑x0 : Int)))))) ∧
      (∀ x1 : Nat, (((x1 ≤ List.length t) ∧
      ((Go.Sx.tabB t = Bool.true) ∧
      (Go.Sx.grpB t = List.all (List.range' x1 (List.length t - x1)) (Go.Sx.gpX t)))) →
      (BrP (Decidable.decide ((↑x1 : Int) < (↑(List.length t) : Int)))
        ((Go.Sx.inB (0 : Int) (List.length t)) ∧
        ((Go.Sx.inB (↑x1 : Int) (List.length (List.getD t (0 : Nat) []))) ∧
        (BrP (List.getD (List.getD t (0 : Nat) []) (Int.toNat (↑x1 : Int)) (0 : Int) != (↑x1 : Int))
          ((Bool.false = Go.Sx.grpB t) ∧
          (True))
          ((Go.Sx.inB (↑x1 : Int) (List.length t)) ∧
          ((Go.Sx.inB (0 : Int) (List.length (List.getD t (Int.toNat (↑x1 : Int)) []))) ∧
          (BrP (List.getD (List.getD t (Int.toNat (↑x1 : Int)) []) (0 : Nat) (0 : Int) != (↑x1 : Int))
            ((Bool.false = Go.Sx.grpB t) ∧
            (True))
            ((∃ x2 : Nat, (((x2 ≤ List.length t) ∧
            ((x1 < List.length t) ∧
            (Go.Sx.grpB t = (List.all (List.range' x2 (List.length t - x2)) (Go.Sx.asY t x1) && List.all (List.range' (x1 + (1 : Nat)) (List.length t - (x1 + (1 : Nat)))) (Go.Sx.gpX t))))) ∧
            ((t = t) ∧
            (((↑(List.length t) : Int) = (↑(List.length t) : Int)) ∧
            (((↑x1 : Int) = (↑x1 : Int)) ∧
            (((↑x1 : Int) = (↑x1 : Int)) ∧
            (((↑(List.length t) : Int) = (↑(List.length t) : Int)) ∧
            ((0 : Int) = (↑x2 : Int))))))))) ∧
            (∀ x3 : Nat, (((x3 ≤ List.length t) ∧
            ((x1 < List.length t) ∧
            (Go.Sx.grpB t = (List.all (List.range' x3 (List.length t - x3)) (Go.Sx.asY t x1) && List.all (List.range' (x1 + (1 : Nat)) (List.length t - (x1 + (1 : Nat)))) (Go.Sx.gpX t))))) →
            (BrP (Decidable.decide ((↑x3 : Int) < (↑(List.length t) : Int)))
              ((∃ x4 : Nat, (((x4 ≤ List.length t) ∧
              ((x3 < List.length t) ∧
              (Go.Sx.grpB t = (List.all (List.range' x4 (List.length t - x4)) (Go.Sx.asZ t x1 x3) && (List.all (List.range' (x3 + (1 : Nat)) (List.length t - (x3 + (1 : Nat)))) (Go.Sx.asY t x1) && List.all (List.range' (x1 + (1 : Nat)) (List.length t - (x1 + (1 : Nat)))) (Go.Sx.gpX t)))))) ∧
              ((t = t) ∧
              (((↑(List.length t) : Int) = (↑(List.length t) : Int)) ∧
              (((↑x1 : Int) = (↑x1 : Int)) ∧
              (((↑x1 : Int) = (↑x1 : Int)) ∧
              (((↑(List.length t) : Int) = (↑(List.length t) : Int)) ∧
              (((↑x3 : Int) = (↑x3 : Int)) ∧
              (((↑x3 : Int) = (↑x3 : Int)) ∧
              (((↑(List.length t) : Int) = (↑(List.length t) : Int)) ∧
              ((0 : Int) = (↑x4 : Int)))))))))))) ∧
              (∀ x5 : Nat, (((x5 ≤ List.length t) ∧
              ((x3 < List.length t) ∧
              (Go.Sx.grpB t = (List.all (List.range' x5 (List.length t - x5)) (Go.Sx.asZ t x1 x3) && (List.all (List.range' (x3 + (1 : Nat)) (List.length t - (x3 + (1 : Nat)))) (Go.Sx.asY t x1) && List.all (List.range' (x1 + (1 : Nat)) (List.length t - (x1 + (1 : Nat)))) (Go.Sx.gpX t)))))) →
              (BrP (Decidable.decide ((↑x5 : Int) < (↑(List.length t) : Int)))
                ((Go.Sx.inB (↑x1 : Int) (List.length t)) ∧
                ((Go.Sx.inB (↑x3 : Int) (List.length (List.getD t (Int.toNat (↑x1 : Int)) []))) ∧
                ((Go.Sx.inB (List.getD (List.getD t (Int.toNat (↑x1 : Int)) []) (Int.toNat (↑x3 : Int)) (0 : Int)) (List.length t)) ∧
                ((Go.Sx.inB (↑x5 : Int) (List.length (List.getD t (Int.toNat (List.getD (List.getD t (Int.toNat (↑x1 : Int)) []) (Int.toNat (↑x3 : Int)) (0 : Int))) []))) ∧
                ((Go.Sx.inB (↑x1 : Int) (List.length t)) ∧
                ((Go.Sx.inB (↑x3 : Int) (List.length t)) ∧
                ((Go.Sx.inB (↑x5 : Int) (List.length (List.getD t (Int.toNat (↑x3 : Int)) []))) ∧
                ((Go.Sx.inB (List.getD (List.getD t (Int.toNat (↑x3 : Int)) []) (Int.toNat (↑x5 : Int)) (0 : Int)) (List.length (List.getD t (Int.toNat (↑x1 : Int)) []))) ∧
                (BrP (List.getD (List.getD t (Int.toNat (List.getD (List.getD t (Int.toNat (↑x1 : Int)) []) (Int.toNat (↑x3 : Int)) (0 : Int))) []) (Int.toNat (↑x5 : Int)) (0 : Int) != List.getD (List.getD t (Int.toNat (↑x1 : Int)) []) (Int.toNat (List.getD (List.getD t (Int.toNat (↑x3 : Int)) []) (Int.toNat (↑x5 : Int)) (0 : Int))) (0 : Int))
                  ((Bool.false = Go.Sx.grpB t) ∧
                  (True))
                  ((Go.Sx.InR ((↑x5 : Int) + (1 : Int))) ∧
                  (∃ x6 : Nat, (((x6 ≤ List.length t) ∧
                  ((x3 < List.length t) ∧
                  (Go.Sx.grpB t = (List.all (List.range' x6 (List.length t - x6)) (Go.Sx.asZ t x1 x3) && (List.all (List.range' (x3 + (1 : Nat)) (List.length t - (x3 + (1 : Nat)))) (Go.Sx.asY t x1) && List.all (List.range' (x1 + (1 : Nat)) (List.length t - (x1 + (1 : Nat)))) (Go.Sx.gpX t)))))) ∧
                  ((List.length t - x6 < List.length t - x5) ∧
                  ((t = t) ∧
                  (((↑(List.length t) : Int) = (↑(List.length t) : Int)) ∧
                  (((↑x1 : Int) = (↑x1 : Int)) ∧
                  (((↑x1 : Int) = (↑x1 : Int)) ∧
                  (((↑(List.length t) : Int) = (↑(List.length t) : Int)) ∧
                  (((↑x3 : Int) = (↑x3 : Int)) ∧
                  (((↑x3 : Int) = (↑x3 : Int)) ∧
                  (((↑(List.length t) : Int) = (↑(List.length t) : Int)) ∧
                  ((↑x5 : Int) + (1 : Int) = (↑x6 : Int)))))))))))))))))))))))
                ((Go.Sx.InR ((↑x3 : Int) + (1 : Int))) ∧
                (∃ x7 : Nat, (((x7 ≤ List.length t) ∧
                ((x1 < List.length t) ∧
                (Go.Sx.grpB t = (List.all (List.range' x7 (List.length t - x7)) (Go.Sx.asY t x1) && List.all (List.range' (x1 + (1 : Nat)) (List.length t - (x1 + (1 : Nat)))) (Go.Sx.gpX t))))) ∧
                ((List.length t - x7 < List.length t - x3) ∧
                ((t = t) ∧
                (((↑(List.length t) : Int) = (↑(List.length t) : Int)) ∧
                (((↑x1 : Int) = (↑x1 : Int)) ∧
                (((↑x1 : Int) = (↑x1 : Int)) ∧
                (((↑(List.length t) : Int) = (↑(List.length t) : Int)) ∧
                ((↑x3 : Int) + (1 : Int) = (↑x7 : Int)))))))))))))))
              ((Go.Sx.InR ((↑x1 : Int) + (1 : Int))) ∧
              (∃ x8 : Nat, (((x8 ≤ List.length t) ∧
              ((Go.Sx.tabB t = Bool.true) ∧
              (Go.Sx.grpB t = List.all (List.range' x8 (List.length t - x8)) (Go.Sx.gpX t)))) ∧
              ((List.length t - x8 < List.length t - x1) ∧
              ((t = t) ∧
              (((↑(List.length t) : Int) = (↑(List.length t) : Int)) ∧
              ((↑x1 : Int) + (1 : Int) = (↑x8 : Int))))))))))))))))))
        ((Bool.true = Go.Sx.grpB t) ∧
        (True))))))))))
theorem isGroupTable_vc (t : List (List Int)) : runF Try.prog (gam isGroupTable_G) noWr (isGroupTable_ann t) Try.f116 (bodyOf Try.f116) [] [.c (.rows .i64 (t))] (isGroupTable_p t) = isGroupTable_V t := by kernel_rfl
theorem isGroupTable_ok (t : List (List Int)) (hpre : (isGroupTable_p t).pre) : isGroupTable_V t := by
  simp only [isGroupTable_p, isGroupTable_V, BrP_iff, true_and, and_true, decide_eq_true_eq, decide_eq_false_iff_not, bne_iff_ne, beq_iff_eq, bne_eq_false_iff_eq, beq_eq_false_iff_ne, Bool.not_eq_true, Bool.not_eq_false, Bool.not_true, Bool.not_false, Bool.not_eq_eq_eq_not, Int.toNat_natCast, List.length_append, List.length_take, List.length_replicate, List.length_set, List.length_map, List.length_drop, List.length_nil, List.length_cons, markL_length, inB, InR, room, bdsOk] at hpre ⊢
  refine ⟨hpre, fun h => by simp [grpB, h], fun h1 => ⟨hpre, fun h2 => by simp [grpB, h2], fun h2 => ⟨⟨0, ⟨by omega, h1, by rw [grpB, h1, h2, Bool.true_and, Bool.true_and, rg_start]⟩, rfl⟩, fun i ⟨hi, _, he⟩ => ?_⟩⟩⟩
  obtain ⟨n1, n2, ht⟩ := tabB_of h1
  refine ⟨fun h3 => ?_, fun h3 => by rw [he, rg_end _ (by omega)]⟩
  · have r0 := ht 0 (by omega)
    have ri := ht i (by omega)
    rw [rg_step _ (by omega)] at he
    refine ⟨by omega, by omega, fun h4 => ?_, fun h4 => ⟨by omega, by omega, fun h5 => ?_, fun h5 => ⟨⟨0, ⟨by omega, by omega, ?_⟩, rfl⟩, fun j ⟨hj, _, hy⟩ => ⟨fun h6 => ⟨⟨0, ⟨by omega, by omega, ?_⟩, rfl⟩, fun k ⟨hk, _, hz⟩ => ⟨fun h7 => ?_, fun h7 => ?_⟩⟩, fun h6 => ?_⟩⟩⟩⟩
    · rw [he, gpX, zrX, show decide (en t 0 i = (i : Int)) = false from decide_eq_false h4]; rfl
    · rw [he, gpX, zrX, show decide (en t i 0 = (i : Int)) = false from decide_eq_false h5]; simp
    · rw [he, gpX, zrX, show decide (en t 0 i = (i : Int)) = true from decide_eq_true h4, show decide (en t i 0 = (i : Int)) = true from decide_eq_true h5, asX, rg_start]; rfl
    · rw [hy, rg_step _ (by omega), asY, rg_start, Bool.and_assoc]
    · have rj := ht j (by omega)
      have a := ri.2 j (by omega)
      have b := rj.2 k (by omega)
      have rr := ht ((t.getD i []).getD j 0).toNat (by omega)
      rw [rg_step _ (by omega)] at hz
      refine ⟨by omega, by omega, by omega, by omega, by omega, by omega, by omega, by omega, fun h8 => ?_, fun h8 => ⟨by omega, k + 1, ⟨by omega, by omega, ?_⟩, by omega, by omega⟩⟩
      · rw [hz, show asZ t i j k = false from decide_eq_false h8]; rfl
      · rw [hz, show asZ t i j k = true from decide_eq_true h8]; rfl
    · refine ⟨by omega, j + 1, ⟨by omega, by omega, ?_⟩, by omega, by omega⟩
      rw [hz, rg_end _ (by omega), Bool.true_and]
    · refine ⟨by omega, i + 1, ⟨by omega, h1, ?_⟩, by omega, by omega⟩
      rw [hy, rg_end _ (by omega), Bool.true_and]
theorem isGroupTable_fits : Fits Try.prog 116 ⟨[], isGroupTable_ct⟩ := by
  refine fits_fn (Γ := gam isGroupTable_G) (gok_cons IsTable_fits (gok_cons permutationRows_fits gok_nil)) Try.func116 (by kernel_rfl) (by kernel_rfl) (by kernel_rfl) fun ds p h hp => ?_
  unfold isGroupTable_ct at h
  split at h
  · cases h
    exact ⟨noWr, isGroupTable_ann _ , by rw [isGroupTable_vc]; exact isGroupTable_ok _  hp⟩
  · cases h

def l10Is_p (t : List (List Int)) : Post := ⟨roomR t, .c (.bool (grpB t)), []⟩
def l10Is_ct : List AD → Option Post
  | [.c (.rows .i64 (t))] => some (l10Is_p t)
  | _ => none
def l10Is_ann (t : List (List Int)) : Nat → Option Ann
  | 0 => some (Ann.mk ((Nat)) (fun i => ⟨[(0, .c (.ro (.rows .i64 (t)))), (3, .c (.int .i64 ((i : Int))))], []⟩) (fun i => i ≤ t.length ∧ tabB t = true ∧ grpB t = (List.range' i (t.length - i)).all (hpX t)) (fun i => t.length - i) (fun i => fun b_ => match b_ with | 2 => some (Ann.mk ((Nat)) (fun j => ⟨[(0, .c (.ro (.rows .i64 (t)))), (3, .c (.int .i64 ((i : Int)))), (4, .c (.int .i64 ((j : Int))))], []⟩) (fun j => j ≤ t.length ∧ i < t.length ∧ grpB t = ((List.range' j (t.length - j)).all (asY t i) && (List.range' (i + 1) (t.length - (i + 1))).all (hpX t))) (fun j => t.length - j) (fun j => fun b_ => match b_ with | 4 => some (Ann.mk ((Nat)) (fun k => ⟨[(0, .c (.ro (.rows .i64 (t)))), (3, .c (.int .i64 ((i : Int)))), (4, .c (.int .i64 ((j : Int)))), (5, .c (.int .i64 ((k : Int))))], []⟩) (fun k => k ≤ t.length ∧ j < t.length ∧ grpB t = ((List.range' k (t.length - k)).all (asZ t i j) && ((List.range' (j + 1) (t.length - (j + 1))).all (asY t i) && (List.range' (i + 1) (t.length - (i + 1))).all (hpX t)))) (fun k => t.length - k) (fun _ => noAnn)) | _ => none)) | _ => none))
  | _ => none
def l10Is_G : List (Nat × Ctr) := [(105, ⟨[], l01Table_ct⟩), (106, ⟨[], l01Perm_ct⟩)]
def l10Is_V (t : List (List Int)) : Prop :=
  (((Go.Sx.roomR t) ∧
  (True)) ∧
  (BrP (!Go.Sx.tabB t)
    ((Bool.false = Go.Sx.grpB t) ∧
    (True))
    ((∃ x0 : Nat, (((x0 ≤ List.length t) ∧
    ((Go.Sx.tabB t = Bool.true) ∧
    (Go.Sx.grpB t = List.all (List.range' x0 (List.length t - x0)) (Go.Sx.hpX t)))) ∧
    ((t = t) ∧
    ((0 : Int) = (↑x0 : Int))))) ∧
    (∀ x1 : Nat, (((x1 ≤ List.length t) ∧
    ((Go.Sx.tabB t = Bool.true) ∧
    (Go.Sx.grpB t = List.all (List.range' x1 (List.length t - x1)) (Go.Sx.hpX t)))) →
    (BrP (Decidable.decide ((↑x1 : Int) < (↑(List.length t) : Int)))
      ((Go.Sx.inB (0 : Int) (List.length t)) ∧
      ((Go.Sx.inB (↑x1 : Int) (List.length (List.getD t (0 : Nat) []))) ∧
      (BrP (List.getD (List.getD t (0 : Nat) []) (Int.toNat (↑x1 : Int)) (0 : Int) != (↑x1 : Int))
        ((Bool.false = Go.Sx.grpB t) ∧
        (True))
        ((Go.Sx.inB (↑x1 : Int) (List.length t)) ∧
        ((Go.Sx.inB (0 : Int) (List.length (List.getD t (Int.toNat (↑x1 : Int)) []))) ∧
        (BrP (List.getD (List.getD t (Int.toNat (↑x1 : Int)) []) (0 : Nat) (0 : Int) != (↑x1 : Int))
          ((Bool.false = Go.Sx.grpB t) ∧
          (True))
          ((Go.Sx.inB (↑x1 : Int) (List.length t)) ∧
          (((List.length (List.getD t (Int.toNat (↑x1 : Int)) []) ≤ (1099511627776 : Nat)) ∧
          (True)) ∧
          (BrP (!(Decidable.decide ((1 : Int) ≤ (↑(List.length (List.getD t (Int.toNat (↑x1 : Int)) [])) : Int) ∧ (↑(List.length (List.getD t (Int.toNat (↑x1 : Int)) [])) : Int) ≤ (12 : Int)) && Go.Sx.permB (List.getD t (Int.toNat (↑x1 : Int)) [])))
            ((Bool.false = Go.Sx.grpB t) ∧
            (True))
            ((∃ x2 : Nat, (((x2 ≤ List.length t) ∧
            ((x1 < List.length t) ∧
            (Go.Sx.grpB t = (List.all (List.range' x2 (List.length t - x2)) (Go.Sx.asY t x1) && List.all (List.range' (x1 + (1 : Nat)) (List.length t - (x1 + (1 : Nat)))) (Go.Sx.hpX t))))) ∧
            ((t = t) ∧
            (((↑x1 : Int) = (↑x1 : Int)) ∧
            ((0 : Int) = (↑x2 : Int)))))) ∧
            (∀ x3 : Nat, (((x3 ≤ List.length t) ∧
            ((x1 < List.length t) ∧
            (Go.Sx.grpB t = (List.all (List.range' x3 (List.length t - x3)) (Go.Sx.asY t x1) && List.all (List.range' (x1 + (1 : Nat)) (List.length t - (x1 + (1 : Nat)))) (Go.Sx.hpX t))))) →
            (BrP (Decidable.decide ((↑x3 : Int) < (↑(List.length t) : Int)))
              ((∃ x4 : Nat, (((x4 ≤ List.length t) ∧
              ((x3 < List.length t) ∧
              (Go.Sx.grpB t = (List.all (List.range' x4 (List.length t - x4)) (Go.Sx.asZ t x1 x3) && (List.all (List.range' (x3 + (1 : Nat)) (List.length t - (x3 + (1 : Nat)))) (Go.Sx.asY t x1) && List.all (List.range' (x1 + (1 : Nat)) (List.length t - (x1 + (1 : Nat)))) (Go.Sx.hpX t)))))) ∧
              ((t = t) ∧
              (((↑x1 : Int) = (↑x1 : Int)) ∧
              (((↑x3 : Int) = (↑x3 : Int)) ∧
              ((0 : Int) = (↑x4 : Int))))))) ∧
              (∀ x5 : Nat, (((x5 ≤ List.length t) ∧
              ((x3 < List.length t) ∧
              (Go.Sx.grpB t = (List.all (List.range' x5 (List.length t - x5)) (Go.Sx.asZ t x1 x3) && (List.all (List.range' (x3 + (1 : Nat)) (List.length t - (x3 + (1 : Nat)))) (Go.Sx.asY t x1) && List.all (List.range' (x1 + (1 : Nat)) (List.length t - (x1 + (1 : Nat)))) (Go.Sx.hpX t)))))) →
              (BrP (Decidable.decide ((↑x5 : Int) < (↑(List.length t) : Int)))
                ((Go.Sx.inB (↑x1 : Int) (List.length t)) ∧
                ((Go.Sx.inB (↑x3 : Int) (List.length (List.getD t (Int.toNat (↑x1 : Int)) []))) ∧
                ((Go.Sx.inB (List.getD (List.getD t (Int.toNat (↑x1 : Int)) []) (Int.toNat (↑x3 : Int)) (0 : Int)) (List.length t)) ∧
                ((Go.Sx.inB (↑x5 : Int) (List.length (List.getD t (Int.toNat (List.getD (List.getD t (Int.toNat (↑x1 : Int)) []) (Int.toNat (↑x3 : Int)) (0 : Int))) []))) ∧
                ((Go.Sx.inB (↑x1 : Int) (List.length t)) ∧
                ((Go.Sx.inB (↑x3 : Int) (List.length t)) ∧
                ((Go.Sx.inB (↑x5 : Int) (List.length (List.getD t (Int.toNat (↑x3 : Int)) []))) ∧
                ((Go.Sx.inB (List.getD (List.getD t (Int.toNat (↑x3 : Int)) []) (Int.toNat (↑x5 : Int)) (0 : Int)) (List.length (List.getD t (Int.toNat (↑x1 : Int)) []))) ∧
                (BrP (List.getD (List.getD t (Int.toNat (List.getD (List.getD t (Int.toNat (↑x1 : Int)) []) (Int.toNat (↑x3 : Int)) (0 : Int))) []) (Int.toNat (↑x5 : Int)) (0 : Int) != List.getD (List.getD t (Int.toNat (↑x1 : Int)) []) (Int.toNat (List.getD (List.getD t (Int.toNat (↑x3 : Int)) []) (Int.toNat (↑x5 : Int)) (0 : Int))) (0 : Int))
                  ((Bool.false = Go.Sx.grpB t) ∧
                  (True))
                  ((Go.Sx.InR ((↑x5 : Int) + (1 : Int))) ∧
                  (∃ x6 : Nat, (((x6 ≤ List.length t) ∧
                  ((x3 < List.length t) ∧
                  (Go.Sx.grpB t = (List.all (List.range' x6 (List.length t - x6)) (Go.Sx.asZ t x1 x3) && (List.all (List.range' (x3 + (1 : Nat)) (List.length t - (x3 + (1 : Nat)))) (Go.Sx.asY t x1) && List.all (List.range' (x1 + (1 : Nat)) (List.length t - (x1 + (1 : Nat)))) (Go.Sx.hpX t)))))) ∧
                  ((List.length t - x6 < List.length t - x5) ∧
                  ((t = t) ∧
                  (((↑x1 : Int) = (↑x1 : Int)) ∧
                  (((↑x3 : Int) = (↑x3 : Int)) ∧
                  ((↑x5 : Int) + (1 : Int) = (↑x6 : Int))))))))))))))))))
                ((Go.Sx.InR ((↑x3 : Int) + (1 : Int))) ∧
                (∃ x7 : Nat, (((x7 ≤ List.length t) ∧
                ((x1 < List.length t) ∧
                (Go.Sx.grpB t = (List.all (List.range' x7 (List.length t - x7)) (Go.Sx.asY t x1) && List.all (List.range' (x1 + (1 : Nat)) (List.length t - (x1 + (1 : Nat)))) (Go.Sx.hpX t))))) ∧
                ((List.length t - x7 < List.length t - x3) ∧
                ((t = t) ∧
                (((↑x1 : Int) = (↑x1 : Int)) ∧
                ((↑x3 : Int) + (1 : Int) = (↑x7 : Int))))))))))))
              ((Go.Sx.InR ((↑x1 : Int) + (1 : Int))) ∧
              (∃ x8 : Nat, (((x8 ≤ List.length t) ∧
              ((Go.Sx.tabB t = Bool.true) ∧
              (Go.Sx.grpB t = List.all (List.range' x8 (List.length t - x8)) (Go.Sx.hpX t)))) ∧
              ((List.length t - x8 < List.length t - x1) ∧
              ((t = t) ∧
              ((↑x1 : Int) + (1 : Int) = (↑x8 : Int))))))))))))))))))))
      ((Bool.true = Go.Sx.grpB t) ∧
      (True))))))))
theorem l10Is_vc (t : List (List Int)) : runF Try.prog (gam l10Is_G) noWr (l10Is_ann t) Try.f81 (bodyOf Try.f81) [] [.c (.rows .i64 (t))] (l10Is_p t) = l10Is_V t := by kernel_rfl
theorem l10Is_ok (t : List (List Int)) (hpre : (l10Is_p t).pre) : l10Is_V t := by
  simp only [l10Is_p, l10Is_V, BrP_iff, true_and, and_true, decide_eq_true_eq, decide_eq_false_iff_not, bne_iff_ne, beq_iff_eq, bne_eq_false_iff_eq, beq_eq_false_iff_ne, Bool.not_eq_true, Bool.not_eq_false, Bool.not_true, Bool.not_false, Bool.not_eq_eq_eq_not, Int.toNat_natCast, List.length_append, List.length_take, List.length_replicate, List.length_set, List.length_map, List.length_drop, List.length_nil, List.length_cons, markL_length, inB, InR, room, bdsOk] at hpre ⊢
  refine ⟨hpre, fun h => by simp [grpB, h], fun h1 => ⟨⟨0, ⟨by omega, h1, by rw [grp_eq, h1, Bool.true_and, rg_start]⟩, rfl⟩, fun i ⟨hi, _, he⟩ => ?_⟩⟩
  obtain ⟨n1, n2, ht⟩ := tabB_of h1
  refine ⟨fun h3 => ?_, fun h3 => by rw [he, rg_end _ (by omega)]⟩
  have hr := (ht i (by omega)).1
  have hd : decide (1 ≤ ((t.getD i []).length : Int) ∧ ((t.getD i []).length : Int) ≤ 12) = true := decide_eq_true (by omega)
  have np : (decide (1 ≤ ((t.getD i []).length : Int) ∧ ((t.getD i []).length : Int) ≤ 12) && permB (t.getD i [])) = false → permB (t.getD i []) = false := fun h => by rwa [hd, Bool.true_and] at h
  have yp : (decide (1 ≤ ((t.getD i []).length : Int) ∧ ((t.getD i []).length : Int) ≤ 12) && permB (t.getD i [])) = true → permB (t.getD i []) = true := fun h => by rwa [hd, Bool.true_and] at h
  · have r0 := ht 0 (by omega)
    have ri := ht i (by omega)
    rw [rg_step _ (by omega)] at he
    refine ⟨by omega, by omega, fun h4 => ?_, fun h4 => ⟨by omega, by omega, fun h5 => ?_, fun h5 => ⟨by omega, by omega, fun hp => ?_, fun hp => ⟨⟨0, ⟨by omega, by omega, ?_⟩, rfl⟩, fun j ⟨hj, _, hy⟩ => ⟨fun h6 => ⟨⟨0, ⟨by omega, by omega, ?_⟩, rfl⟩, fun k ⟨hk, _, hz⟩ => ⟨fun h7 => ?_, fun h7 => ?_⟩⟩, fun h6 => ?_⟩⟩⟩⟩⟩
    · rw [he, hpX, zrX, show decide (en t 0 i = (i : Int)) = false from decide_eq_false h4]; rfl
    · rw [he, hpX, zrX, show decide (en t i 0 = (i : Int)) = false from decide_eq_false h5]; simp
    · rw [he, hpX, show permB (t.getD i []) = false from np hp]; simp
    · rw [he, hpX, zrX, show decide (en t 0 i = (i : Int)) = true from decide_eq_true h4, show decide (en t i 0 = (i : Int)) = true from decide_eq_true h5, show permB (t.getD i []) = true from yp hp, asX, rg_start]; rfl
    · rw [hy, rg_step _ (by omega), asY, rg_start, Bool.and_assoc]
    · have rj := ht j (by omega)
      have a := ri.2 j (by omega)
      have b := rj.2 k (by omega)
      have rr := ht ((t.getD i []).getD j 0).toNat (by omega)
      rw [rg_step _ (by omega)] at hz
      refine ⟨by omega, by omega, by omega, by omega, by omega, by omega, by omega, by omega, fun h8 => ?_, fun h8 => ⟨by omega, k + 1, ⟨by omega, by omega, ?_⟩, by omega, by omega⟩⟩
      · rw [hz, show asZ t i j k = false from decide_eq_false h8]; rfl
      · rw [hz, show asZ t i j k = true from decide_eq_true h8]; rfl
    · refine ⟨by omega, j + 1, ⟨by omega, by omega, ?_⟩, by omega, by omega⟩
      rw [hz, rg_end _ (by omega), Bool.true_and]
    · refine ⟨by omega, i + 1, ⟨by omega, h1, ?_⟩, by omega, by omega⟩
      rw [hy, rg_end _ (by omega), Bool.true_and]
theorem l10Is_fits : Fits Try.prog 81 ⟨[], l10Is_ct⟩ := by
  refine fits_fn (Γ := gam l10Is_G) (gok_cons l01Table_fits (gok_cons l01Perm_fits gok_nil)) Try.func81 (by kernel_rfl) (by kernel_rfl) (by kernel_rfl) fun ds p h hp => ?_
  unfold l10Is_ct at h
  split at h
  · cases h
    exact ⟨noWr, l10Is_ann _ , by rw [l10Is_vc]; exact l10Is_ok _  hp⟩
  · cases h

end Go.Sx

