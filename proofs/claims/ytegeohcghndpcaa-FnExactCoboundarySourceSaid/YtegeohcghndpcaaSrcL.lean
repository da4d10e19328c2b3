/- Contracts on the way of CoboundarySource. -/
import Derived.Test.YtegeohcghndpcaaSrcS
import Derived.Test.YtegeohcghndpcaaCob
open Go Go.Proofs
namespace Go.Sx
set_option linter.unusedSimpArgs false
set_option linter.unusedVariables false

def csC (t : List (List Int)) (m : Int) (f : List (List Int)) : List Int × Int :=
  if tabB t = true then (if matB (t.length : Int) m f = true then (if tabR t.length (cbF t m (srcN t m f t.length)) = f then (srcN t m f t.length, 0) else ([], 4)) else ([], 2)) else ([], 1)

theorem csC_nt {t : List (List Int)} {m : Int} {f : List (List Int)} (h : tabB t = false) : [] = (csC t m f).1 ∧ 1 = (csC t m f).2 := by simp [csC, h]
theorem csC_nm {t : List (List Int)} {m : Int} {f : List (List Int)} (h : tabB t = true) (k : ¬ matB (t.length : Int) m f = true) : [] = (csC t m f).1 ∧ 2 = (csC t m f).2 := by simp [csC, h, k]
theorem csC_no {t : List (List Int)} {m : Int} {f : List (List Int)} (h : tabB t = true) (k : matB (t.length : Int) m f = true) (e : tabR t.length (cbF t m (srcN t m f t.length)) ≠ f) : [] = (csC t m f).1 ∧ 4 = (csC t m f).2 := by simp [csC, h, k, e]
theorem csC_yes {t : List (List Int)} {m : Int} {f : List (List Int)} (h : tabB t = true) (k : matB (t.length : Int) m f = true) (e : tabR t.length (cbF t m (srcN t m f t.length)) = f) : srcN t m f t.length = (csC t m f).1 ∧ 0 = (csC t m f).2 := by
  unfold csC
  rw [if_pos h, if_pos k, if_pos e]
  exact ⟨rfl, rfl⟩

theorem csC_len (t : List (List Int)) (m : Int) (f : List (List Int)) : (csC t m f).1.length ≤ 12 := by
  unfold csC
  split
  · rename_i h
    split
    · rename_i k
      split
      · have := (srcN_good h k t.length).len
        have := tabB_of h
        simp only; omega
      · simp
    · simp
  · simp

def iCS_p (t : List (List Int)) (m : Int) (f : List (List Int)) : Post := ⟨roomR t ∧ roomR f, .tup [.inl (.ints 2 .i64 ((csC t m f).1)), .inl (.int .i64 ((csC t m f).2))], []⟩
def iCS_ct : List AD → Option Post
  | [.c (.rows .i64 (t)), .c (.int .i64 (m)), .c (.rows .i64 (f))] => some (iCS_p t m f)
  | _ => none
def iCS_G : List (Nat × Ctr) := [(57, ⟨[], IsTable_ct⟩), (58, ⟨[], isMatrix_ct⟩), (59, ⟨[], iSource_ct⟩), (61, ⟨[], coboundary_ct⟩), (60, ⟨[], equalTables_ct⟩)]
def iCS_V (t : List (List Int)) (m : Int) (f : List (List Int)) : Prop :=
  (((Go.Sx.roomR t) ∧
  (True)) ∧
  (BrP (!Go.Sx.tabB t)
    ((([] = Prod.fst (Go.Sx.csC t m f)) ∧
    (((1 : Int) = Prod.snd (Go.Sx.csC t m f)) ∧
    (True))) ∧
    (True))
    (((Go.Sx.roomR f) ∧
    (True)) ∧
    (BrP (!Go.Sx.matB (↑(List.length t) : Int) m f)
      ((([] = Prod.fst (Go.Sx.csC t m f)) ∧
      (((2 : Int) = Prod.snd (Go.Sx.csC t m f)) ∧
      (True))) ∧
      (True))
      ((((Go.Sx.tabB t = Bool.true) ∧
      (Go.Sx.matB (↑(List.length t) : Int) m f = Bool.true)) ∧
      (True)) ∧
      ((((Go.Sx.tabB t = Bool.true) ∧
      (Go.Sx.shiftB (↑(List.length t) : Int) m (Go.Sx.srcN t m f (List.length t)) = Bool.true)) ∧
      (True)) ∧
      ((((Go.Sx.roomR (Go.Sx.tabR (List.length t) (Go.Sx.cbF t m (Go.Sx.srcN t m f (List.length t))))) ∧
      (Go.Sx.roomR f)) ∧
      (True)) ∧
      (BrP (!Decidable.decide (Go.Sx.tabR (List.length t) (Go.Sx.cbF t m (Go.Sx.srcN t m f (List.length t))) = f))
        ((([] = Prod.fst (Go.Sx.csC t m f)) ∧
        (((4 : Int) = Prod.snd (Go.Sx.csC t m f)) ∧
        (True))) ∧
        (True))
        (((Go.Sx.srcN t m f (List.length t) = Prod.fst (Go.Sx.csC t m f)) ∧
        (((0 : Int) = Prod.snd (Go.Sx.csC t m f)) ∧
        (True))) ∧
        (True))))))))))
theorem iCS_vc (t : List (List Int)) (m : Int) (f : List (List Int)) : runF Try.prog (gam iCS_G) noWr noAnn Try.f12 (bodyOf Try.f12) [] [.c (.rows .i64 (t)), .c (.int .i64 (m)), .c (.rows .i64 (f))] (iCS_p t m f) = iCS_V t m f := by kernel_rfl
theorem iCS_ok (t : List (List Int)) (m : Int) (f : List (List Int)) (hpre : (iCS_p t m f).pre) : iCS_V t m f := by
  simp only [iCS_p, iCS_V, BrP_iff, true_and, and_true, decide_eq_true_eq, decide_eq_false_iff_not, bne_iff_ne, beq_iff_eq, bne_eq_false_iff_eq, beq_eq_false_iff_ne, Bool.not_eq_true, Bool.not_eq_false, Bool.not_true, Bool.not_false, Bool.not_eq_eq_eq_not, Int.toNat_natCast, List.length_append, List.length_take, List.length_replicate, List.length_set, List.length_map, List.length_drop, List.length_nil, List.length_cons, markL_length, inB, InR, room, bdsOk] at hpre ⊢
  refine ⟨hpre.1, fun h => csC_nt h, fun h1 => ⟨hpre.2, fun h => csC_nm h1 (by rw [h]; decide), fun h2 => ?_⟩⟩
  have hn := tabB_of h1
  exact ⟨⟨h1, h2⟩, ⟨h1, srcN_shift h1 h2⟩, ⟨tabR_room _ _ (by omega), hpre.2⟩, fun h => csC_no h1 h2 h, fun h => csC_yes h1 h2 h⟩
theorem iCS_fits : Fits Try.prog 12 ⟨[], iCS_ct⟩ := by
  refine fits_fn (Γ := gam iCS_G) (gok_cons IsTable_fits (gok_cons isMatrix_fits (gok_cons iSource_fits (gok_cons coboundary_fits (gok_cons equalTables_fits gok_nil))))) Try.func12 (by kernel_rfl) (by kernel_rfl) (by kernel_rfl) fun ds p h hp => ?_
  unfold iCS_ct at h
  split at h
  · cases h
    exact ⟨noWr, noAnn, by rw [iCS_vc]; exact iCS_ok _ _ _  hp⟩
  · cases h

def sCS_p (t : List (List Int)) (m : Int) (f : List (List Int)) : Post := ⟨roomR t ∧ roomR f, .tup [.inl (.ints 2 .i64 ((csC t m f).1)), .inl (.int .i64 ((csC t m f).2))], []⟩
def sCS_ct : List AD → Option Post
  | [.c (.rows .i64 (t)), .c (.int .i64 (m)), .c (.rows .i64 (f))] => some (sCS_p t m f)
  | _ => none
def sCS_ann (t : List (List Int)) (m : Int) (f : List (List Int)) : Nat → Option Ann
  | 0 => some (Ann.mk ((Nat)) (fun i => ⟨[(0, .c (.ro (.rows .i64 (t)))), (1, .c (.int .i64 (m))), (2, .c (.ro (.rows .i64 (f)))), (9, .c (.own (25))), (10, .c (.int .i64 ((i : Int))))], [(25, some (.ints 2 .i64 (List.replicate i (-1))))]⟩) (fun i => i ≤ t.length ∧ tabB t = true ∧ matB (t.length : Int) m f = true) (fun i => t.length - i) (fun _ => noAnn))
  | 2 => some (Ann.mk ((Nat)) (fun s => ⟨[(0, .c (.ro (.rows .i64 (t)))), (1, .c (.int .i64 (m))), (2, .c (.ro (.rows .i64 (f)))), (9, .c (.own (25))), (11, .c (.int .i64 ((s : Int))))], [(25, some (.ints 2 .i64 (srcN t m f s)))]⟩) (fun s => s ≤ t.length ∧ srcK t m f s = true) (fun s => t.length - s) (fun _ => noAnn))
  | _ => none
def sCS_G : List (Nat × Ctr) := [(52, ⟨[], l01Table_ct⟩), (53, ⟨[], l14Code_ct⟩), (54, ⟨[], l14Source_ct⟩), (56, ⟨[], l14Bound_ct⟩), (55, ⟨[], l01Same2_ct⟩)]
def sCS_V (t : List (List Int)) (m : Int) (f : List (List Int)) : Prop :=
  (((Go.Sx.roomR t) ∧
  (True)) ∧
  (BrP (!Go.Sx.tabB t)
    ((([] = Prod.fst (Go.Sx.csC t m f)) ∧
    (((1 : Int) = Prod.snd (Go.Sx.csC t m f)) ∧
    (True))) ∧
    (True))
    (((Go.Sx.roomR f) ∧
    (True)) ∧
    (BrP ((if Go.Sx.matB (↑(List.length t) : Int) m f = Bool.true then (0 : Int) else (2 : Int)) != (0 : Int))
      ((([] = Prod.fst (Go.Sx.csC t m f)) ∧
      (((if Go.Sx.matB (↑(List.length t) : Int) m f = Bool.true then (0 : Int) else (2 : Int)) = Prod.snd (Go.Sx.csC t m f)) ∧
      (True))) ∧
      (True))
      ((∃ x0 : Nat, (((x0 ≤ List.length t) ∧
      ((Go.Sx.tabB t = Bool.true) ∧
      (Go.Sx.matB (↑(List.length t) : Int) m f = Bool.true))) ∧
      ((t = t) ∧
      ((m = m) ∧
      ((f = f) ∧
      (((0 : Int) = (↑x0 : Int)) ∧
      ([] = List.replicate x0 (-1 : Int)))))))) ∧
      (∀ x1 : Nat, (((x1 ≤ List.length t) ∧
      ((Go.Sx.tabB t = Bool.true) ∧
      (Go.Sx.matB (↑(List.length t) : Int) m f = Bool.true))) →
      (BrP (Decidable.decide ((↑x1 : Int) < (↑(List.length t) : Int)))
        ((Go.Sx.room (List.length (List.replicate x1 (-1 : Int)) + List.length [(-1 : Int)])) ∧
        ((Go.Sx.InR ((↑x1 : Int) + (1 : Int))) ∧
        (∃ x2 : Nat, (((x2 ≤ List.length t) ∧
        ((Go.Sx.tabB t = Bool.true) ∧
        (Go.Sx.matB (↑(List.length t) : Int) m f = Bool.true))) ∧
        ((List.length t - x2 < List.length t - x1) ∧
        ((t = t) ∧
        ((m = m) ∧
        ((f = f) ∧
        (((↑x1 : Int) + (1 : Int) = (↑x2 : Int)) ∧
        (List.replicate x1 (-1 : Int) ++ [(-1 : Int)] = List.replicate x2 (-1 : Int)))))))))))
        ((∃ x3 : Nat, (((x3 ≤ List.length t) ∧
        (Go.Sx.srcK t m f x3 = Bool.true)) ∧
        ((t = t) ∧
        ((m = m) ∧
        ((f = f) ∧
        (((0 : Int) = (↑x3 : Int)) ∧
        (List.replicate x1 (-1 : Int) = Go.Sx.srcN t m f x3))))))) ∧
        (∀ x4 : Nat, (((x4 ≤ List.length t) ∧
        (Go.Sx.srcK t m f x4 = Bool.true)) →
        (BrP (Decidable.decide ((↑x4 : Int) < (↑(List.length t) : Int)))
          ((Go.Sx.inB (↑x4 : Int) (List.length (Go.Sx.srcN t m f x4))) ∧
          (BrP (Decidable.decide ((0 : Int) ≤ List.getD (Go.Sx.srcN t m f x4) (Int.toNat (↑x4 : Int)) (0 : Int)))
            ((Go.Sx.InR ((↑x4 : Int) + (1 : Int))) ∧
            (∃ x5 : Nat, (((x5 ≤ List.length t) ∧
            (Go.Sx.srcK t m f x5 = Bool.true)) ∧
            ((List.length t - x5 < List.length t - x4) ∧
            ((t = t) ∧
            ((m = m) ∧
            ((f = f) ∧
            (((↑x4 : Int) + (1 : Int) = (↑x5 : Int)) ∧
            (Go.Sx.srcN t m f x4 = Go.Sx.srcN t m f x5)))))))))
            ((Go.Sx.inB (↑x4 : Int) (List.length (Go.Sx.srcN t m f x4))) ∧
            (((Go.Sx.Good t m f (List.set (Go.Sx.srcN t m f x4) (Int.toNat (↑x4 : Int)) (0 : Int))) ∧
            (True)) ∧
            (BrP (!Prod.snd (Go.Sx.lsC t m f (List.set (Go.Sx.srcN t m f x4) (Int.toNat (↑x4 : Int)) (0 : Int))))
              ((([] = Prod.fst (Go.Sx.csC t m f)) ∧
              (((4 : Int) = Prod.snd (Go.Sx.csC t m f)) ∧
              (True))) ∧
              (True))
              ((Go.Sx.InR ((↑x4 : Int) + (1 : Int))) ∧
              (∃ x6 : Nat, (((x6 ≤ List.length t) ∧
              (Go.Sx.srcK t m f x6 = Bool.true)) ∧
              ((List.length t - x6 < List.length t - x4) ∧
              ((t = t) ∧
              ((m = m) ∧
              ((f = f) ∧
              (((↑x4 : Int) + (1 : Int) = (↑x6 : Int)) ∧
              (Prod.fst (Go.Sx.lsC t m f (List.set (Go.Sx.srcN t m f x4) (Int.toNat (↑x4 : Int)) (0 : Int))) = Go.Sx.srcN t m f x6))))))))))))))
          ((((Go.Sx.tabB t = Bool.true) ∧
          (Go.Sx.shiftB (↑(List.length t) : Int) m (Go.Sx.srcN t m f x4) = Bool.true)) ∧
          (True)) ∧
          (((Go.Sx.roomR (Go.Sx.tabR (List.length t) (Go.Sx.cbF t m (Go.Sx.srcN t m f x4)))) ∧
          (True)) ∧
          (BrP (!Decidable.decide (Go.Sx.tabR (List.length t) (Go.Sx.cbF t m (Go.Sx.srcN t m f x4)) = f))
            ((([] = Prod.fst (Go.Sx.csC t m f)) ∧
            (((4 : Int) = Prod.snd (Go.Sx.csC t m f)) ∧
            (True))) ∧
            (True))
            (((Go.Sx.srcN t m f x4 = Prod.fst (Go.Sx.csC t m f)) ∧
            (((0 : Int) = Prod.snd (Go.Sx.csC t m f)) ∧
            (True))) ∧
            (True)))))))))))))))))
theorem sCS_vc (t : List (List Int)) (m : Int) (f : List (List Int)) : runF Try.prog (gam sCS_G) noWr (sCS_ann t m f) Try.f10 (bodyOf Try.f10) [] [.c (.rows .i64 (t)), .c (.int .i64 (m)), .c (.rows .i64 (f))] (sCS_p t m f) = sCS_V t m f := by kernel_rfl
theorem sCS_ok (t : List (List Int)) (m : Int) (f : List (List Int)) (hpre : (sCS_p t m f).pre) : sCS_V t m f := by
  simp only [sCS_p, sCS_V, BrP_iff, true_and, and_true, decide_eq_true_eq, decide_eq_false_iff_not, bne_iff_ne, beq_iff_eq, bne_eq_false_iff_eq, beq_eq_false_iff_ne, Bool.not_eq_true, Bool.not_eq_false, Bool.not_true, Bool.not_false, Bool.not_eq_eq_eq_not, Int.toNat_natCast, List.length_append, List.length_take, List.length_replicate, List.length_set, List.length_map, List.length_drop, List.length_nil, List.length_cons, markL_length, inB, InR, room, bdsOk] at hpre ⊢
  refine ⟨hpre.1, fun h => csC_nt h, fun h1 => ⟨hpre.2, fun h => ?_, fun h => ?_⟩⟩
  · have k : ¬ matB (t.length : Int) m f = true := fun k => h (if_pos k)
    rw [if_neg k]
    exact csC_nm h1 k
  have h2 : matB (t.length : Int) m f = true := by
    by_cases k : matB (t.length : Int) m f = true
    · exact k
    · rw [if_neg k] at h; omega
  clear h
  have hn := tabB_of h1
  refine ⟨⟨0, ⟨by omega, h1, h2⟩, rfl, rfl⟩, fun i ⟨hi, _, _⟩ => ⟨fun h => ⟨by omega, by omega, i + 1, ⟨by omega, h1, h2⟩, by omega, by omega, List.replicate_succ'.symm⟩, fun h => ⟨⟨0, ⟨by omega, rfl⟩, rfl, by rw [show i = t.length by omega]; rfl⟩, fun s ⟨hs, hk⟩ => ⟨fun h3 => ?_, fun h3 => ?_⟩⟩⟩⟩
  · have hg := srcN_good h1 h2 s
    have hl := hg.len
    have e1 : srcN t m f (s + 1) = if 0 ≤ (srcN t m f s).getD s 0 then srcN t m f s else growF t m f ((srcN t m f s).set s 0) := rfl
    have e2 : srcK t m f (s + 1) = (srcK t m f s && (if 0 ≤ (srcN t m f s).getD s 0 then true else growKF t m f ((srcN t m f s).set s 0))) := rfl
    refine ⟨by omega, fun h4 => ⟨by omega, s + 1, ⟨by omega, by rw [e2, if_pos h4, hk]; rfl⟩, by omega, by omega, by rw [e1, if_pos h4]⟩, fun h4 => ?_⟩
    rw [if_neg h4] at e1 e2
    rw [hk, Bool.true_and] at e2
    refine ⟨by omega, set0_good hg s, fun h5 => ?_, fun h5 => ?_⟩
    · refine csC_no h1 h2 (srcK_not h1 h2 (i := s + 1) (by omega) ?_)
      rw [e2]
      unfold lsC at h5
      split at h5
      · cases h5
      · rename_i h6; simpa using h6
    · unfold lsC at h5 ⊢
      split at h5
      · rename_i h6
        rw [if_pos h6]
        exact ⟨by omega, s + 1, ⟨by omega, by rw [e2, h6]⟩, by omega, by omega, e1.symm⟩
      · cases h5
  · have e : s = t.length := by omega
    rw [e]
    exact ⟨⟨h1, srcN_shift h1 h2⟩, tabR_room _ _ (by omega), fun h => csC_no h1 h2 h, fun h => csC_yes h1 h2 h⟩
theorem sCS_fits : Fits Try.prog 10 ⟨[], sCS_ct⟩ := by
  refine fits_fn (Γ := gam sCS_G) (gok_cons l01Table_fits (gok_cons l14Code_fits (gok_cons l14Source_fits (gok_cons l14Bound_fits (gok_cons l01Same2_fits gok_nil))))) Try.func10 (by kernel_rfl) (by kernel_rfl) (by kernel_rfl) fun ds p h hp => ?_
  unfold sCS_ct at h
  split at h
  · cases h
    exact ⟨noWr, sCS_ann _ _ _ , by rw [sCS_vc]; exact sCS_ok _ _ _  hp⟩
  · cases h

def lCS_p (t : List (List Int)) (m : Int) (f : List (List Int)) : Post := ⟨((t.length : Int) ≤ 9223372036854775807 ∧ (∀ r ∈ t, (r.length : Int) ≤ 9223372036854775807)) ∧ (f.length : Int) ≤ 9223372036854775807 ∧ (∀ r ∈ f, (r.length : Int) ≤ 9223372036854775807), .c (.bool (true)), []⟩
def lCS_ct : List AD → Option Post
  | [.c (.rows .i64 (t)), .c (.int .i64 (m)), .c (.rows .i64 (f))] => some (lCS_p t m f)
  | _ => none
def lCS_G : List (Nat × Ctr) := [(9, ⟨[], szInt64SS_ct⟩), (11, ⟨[], toInt64SS_ct⟩), (14, ⟨[], eqInt64SS_ct⟩), (13, ⟨[], eqInt64S_ct⟩), (15, ⟨[(0, 0)], markInt64SS_ct⟩), (16, ⟨[(0, 0)], markInt64S_ct⟩), (17, ⟨[], heldInt64S_ct⟩), (10, ⟨[], sCS_ct⟩), (12, ⟨[], iCS_ct⟩)]
def lCS_V (t : List (List Int)) (m : Int) (f : List (List Int)) : Prop :=
  (((((↑(List.length t) : Int) ≤ (9223372036854775807 : Int)) ∧
  ((∀ (r : List Int), r ∈ t → (↑(List.length r) : Int) ≤ (9223372036854775807 : Int)) ∧
  (((0 : Int) ≤ (1048576 : Int)) ∧
  ((1048576 : Int) ≤ (1099511627776 : Int))))) ∧
  (True)) ∧
  (BrP (Decidable.decide ((if (1048576 : Int) < (↑(List.length t) : Int) + (↑(Go.Sx.sumL t) : Int) then (-1 : Int) else (1048576 : Int) - (↑(List.length t) : Int) - (↑(Go.Sx.sumL t) : Int)) < (0 : Int)))
    ((Bool.true = Bool.true) ∧
    (True))
    (((((↑(List.length f) : Int) ≤ (9223372036854775807 : Int)) ∧
    ((∀ (r : List Int), r ∈ f → (↑(List.length r) : Int) ≤ (9223372036854775807 : Int)) ∧
    (((0 : Int) ≤ if (1048576 : Int) < (↑(List.length t) : Int) + (↑(Go.Sx.sumL t) : Int) then (-1 : Int) else (1048576 : Int) - (↑(List.length t) : Int) - (↑(Go.Sx.sumL t) : Int)) ∧
    ((if (1048576 : Int) < (↑(List.length t) : Int) + (↑(Go.Sx.sumL t) : Int) then (-1 : Int) else (1048576 : Int) - (↑(List.length t) : Int) - (↑(Go.Sx.sumL t) : Int)) ≤ (1099511627776 : Int))))) ∧
    (True)) ∧
    (BrP (Decidable.decide ((if (if (1048576 : Int) < (↑(List.length t) : Int) + (↑(Go.Sx.sumL t) : Int) then (-1 : Int) else (1048576 : Int) - (↑(List.length t) : Int) - (↑(Go.Sx.sumL t) : Int)) < (↑(List.length f) : Int) + (↑(Go.Sx.sumL f) : Int) then (-1 : Int) else (if (1048576 : Int) < (↑(List.length t) : Int) + (↑(Go.Sx.sumL t) : Int) then (-1 : Int) else (1048576 : Int) - (↑(List.length t) : Int) - (↑(Go.Sx.sumL t) : Int)) - (↑(List.length f) : Int) - (↑(Go.Sx.sumL f) : Int)) < (0 : Int)))
      ((Bool.true = Bool.true) ∧
      (True))
      (((Go.Sx.roomR t) ∧
      (True)) ∧
      (((Go.Sx.roomR f) ∧
      (True)) ∧
      ((((Go.Sx.roomR t) ∧
      (Go.Sx.roomR f)) ∧
      (True)) ∧
      (((Go.Sx.roomR t) ∧
      (True)) ∧
      (((Go.Sx.roomR f) ∧
      (True)) ∧
      ((((Go.Sx.roomR t) ∧
      (Go.Sx.roomR f)) ∧
      (True)) ∧
      (((Go.Sx.room (List.length (Prod.fst (Go.Sx.csC t m f)))) ∧
      (True)) ∧
      (BrP (!Decidable.decide (Prod.fst (Go.Sx.csC t m f) = Prod.fst (Go.Sx.csC t m f)))
        ((Bool.false = Bool.true) ∧
        (True))
        (BrP (Prod.snd (Go.Sx.csC t m f) != Prod.snd (Go.Sx.csC t m f))
          ((Bool.false = Bool.true) ∧
          (True))
          (((Go.Sx.roomR t) ∧
          (True)) ∧
          (((Go.Sx.roomR t) ∧
          (True)) ∧
          (BrP (!Decidable.decide (t = t))
            ((Bool.false = Bool.true) ∧
            (True))
            (((Go.Sx.roomR f) ∧
            (True)) ∧
            (((Go.Sx.roomR f) ∧
            (True)) ∧
            (BrP (!Decidable.decide (f = f))
              ((Bool.false = Bool.true) ∧
              (True))
              ((((List.length t ≤ (1048576 : Nat)) ∧
              ((Go.Sx.sumL t ≤ (1048576 : Nat)) ∧
              (((0 : Int) ≤ (1 : Int)) ∧
              ((1 : Int) ≤ (1073741824 : Int))))) ∧
              ((List.map List.length (Go.Sx.markR t (1 : Int)) = List.map List.length t) ∧
              (True))) ∧
              ((((List.length f ≤ (1048576 : Nat)) ∧
              ((Go.Sx.sumL f ≤ (1048576 : Nat)) ∧
              (((0 : Int) ≤ (1 : Int) + (↑(Go.Sx.sumL t) : Int)) ∧
              ((1 : Int) + (↑(Go.Sx.sumL t) : Int) ≤ (1073741824 : Int))))) ∧
              ((List.map List.length (Go.Sx.markR f ((1 : Int) + (↑(Go.Sx.sumL t) : Int))) = List.map List.length f) ∧
              (True))) ∧
              (BrP (Decidable.decide ((1 : Int) + (↑(Go.Sx.sumL t) : Int) + (↑(Go.Sx.sumL f) : Int) < (0 : Int)))
                ((Bool.false = Bool.true) ∧
                (True))
                (((Go.Sx.room (List.length (Prod.fst (Go.Sx.csC t m f)))) ∧
                (True)) ∧
                (BrP (!Decidable.decide (Prod.fst (Go.Sx.csC t m f) = Prod.fst (Go.Sx.csC t m f)))
                  ((Bool.false = Bool.true) ∧
                  (True))
                  (BrP (Prod.snd (Go.Sx.csC t m f) != Prod.snd (Go.Sx.csC t m f))
                    ((Bool.false = Bool.true) ∧
                    (True))
                    ((((Go.Sx.room (List.length (Prod.fst (Go.Sx.csC t m f)))) ∧
                    (((0 : Int) ≤ (1 : Int)) ∧
                    ((1 : Int) ≤ (1099511627776 : Int)))) ∧
                    ((List.length (Go.Sx.markL (1 : Int) (List.length (Prod.fst (Go.Sx.csC t m f)))) = List.length (Prod.fst (Go.Sx.csC t m f))) ∧
                    (True))) ∧
                    ((((Go.Sx.room (List.length (Go.Sx.markL (1 : Int) (List.length (Prod.fst (Go.Sx.csC t m f)))))) ∧
                    (((0 : Int) ≤ (1 : Int)) ∧
                    ((1 : Int) ≤ (1099511627776 : Int)))) ∧
                    (True)) ∧
                    (BrP (Decidable.decide ((if Go.Sx.markL (1 : Int) (List.length (Prod.fst (Go.Sx.csC t m f))) = Go.Sx.markL (1 : Int) (List.length (Go.Sx.markL (1 : Int) (List.length (Prod.fst (Go.Sx.csC t m f))))) then (1 : Int) + (↑(List.length (Go.Sx.markL (1 : Int) (List.length (Prod.fst (Go.Sx.csC t m f))))) : Int) else (-1 : Int)) < (0 : Int)))
                      ((Bool.false = Bool.true) ∧
                      (True))
                      (BrP ((if Go.Sx.markL (1 : Int) (List.length (Prod.fst (Go.Sx.csC t m f))) = Go.Sx.markL (1 : Int) (List.length (Go.Sx.markL (1 : Int) (List.length (Prod.fst (Go.Sx.csC t m f))))) then (1 : Int) + (↑(List.length (Go.Sx.markL (1 : Int) (List.length (Prod.fst (Go.Sx.csC t m f))))) : Int) else (-1 : Int)) != (1 : Int) + (↑(List.length (Prod.fst (Go.Sx.csC t m f))) : Int))
                        ((Bool.false = Bool.true) ∧
                        (True))
                        (((Go.Sx.roomR t) ∧
                        (True)) ∧
                        (((Go.Sx.roomR f) ∧
                        (True)) ∧
                        ((((Go.Sx.roomR t) ∧
                        (Go.Sx.roomR f)) ∧
                        (True)) ∧
                        (((Go.Sx.room (List.length (Prod.fst (Go.Sx.csC t m f)))) ∧
                        (True)) ∧
                        (BrP (!Decidable.decide (Prod.fst (Go.Sx.csC t m f) = Prod.fst (Go.Sx.csC t m f)))
                          ((Bool.false = Bool.true) ∧
                          (True))
                          (BrP (Prod.snd (Go.Sx.csC t m f) != Prod.snd (Go.Sx.csC t m f))
                            ((Bool.false = Bool.true) ∧
                            (True))
                            ((((Go.Sx.room (List.length (Go.Sx.markL (1 : Int) (List.length (Prod.fst (Go.Sx.csC t m f)))))) ∧
                            (((0 : Int) ≤ (1 : Int)) ∧
                            ((1 : Int) ≤ (1099511627776 : Int)))) ∧
                            (True)) ∧
                            (BrP (Decidable.decide ((if Go.Sx.markL (1 : Int) (List.length (Prod.fst (Go.Sx.csC t m f))) = Go.Sx.markL (1 : Int) (List.length (Go.Sx.markL (1 : Int) (List.length (Prod.fst (Go.Sx.csC t m f))))) then (1 : Int) + (↑(List.length (Go.Sx.markL (1 : Int) (List.length (Prod.fst (Go.Sx.csC t m f))))) : Int) else (-1 : Int)) < (0 : Int)))
                              ((Bool.false = Bool.true) ∧
                              (True))
                              (BrP ((if Go.Sx.markL (1 : Int) (List.length (Prod.fst (Go.Sx.csC t m f))) = Go.Sx.markL (1 : Int) (List.length (Go.Sx.markL (1 : Int) (List.length (Prod.fst (Go.Sx.csC t m f))))) then (1 : Int) + (↑(List.length (Go.Sx.markL (1 : Int) (List.length (Prod.fst (Go.Sx.csC t m f))))) : Int) else (-1 : Int)) != (1 : Int) + (↑(List.length (Prod.fst (Go.Sx.csC t m f))) : Int))
                                ((Bool.false = Bool.true) ∧
                                (True))
                                ((Bool.true = Bool.true) ∧
                                (True))))))))))))))))))))))))))))))))))))))))
theorem lCS_vc (t : List (List Int)) (m : Int) (f : List (List Int)) : runF Try.prog (gam lCS_G) noWr noAnn Try.f3 (bodyOf Try.f3) [] [.c (.rows .i64 (t)), .c (.int .i64 (m)), .c (.rows .i64 (f))] (lCS_p t m f) = lCS_V t m f := by kernel_rfl
theorem lCS_ok (t : List (List Int)) (m : Int) (f : List (List Int)) (hpre : (lCS_p t m f).pre) : lCS_V t m f := by
  simp only [lCS_p, lCS_V, BrP_iff, true_and, and_true, decide_eq_true_eq, decide_eq_false_iff_not, bne_iff_ne, beq_iff_eq, bne_eq_false_iff_eq, beq_eq_false_iff_ne, Bool.not_eq_true, Bool.not_eq_false, Bool.not_true, Bool.not_false, Bool.not_eq_eq_eq_not, Int.toNat_natCast, List.length_append, List.length_take, List.length_replicate, List.length_set, List.length_map, List.length_drop, List.length_nil, List.length_cons, markL_length, inB, InR, room, bdsOk] at hpre ⊢
  obtain ⟨⟨a1, a2⟩, a3, a4⟩ := hpre
  refine ⟨⟨a1, a2, by omega, by omega⟩, fun _ => trivial, fun h => ?_⟩
  obtain ⟨e1, e2, e3⟩ := size_of h
  refine ⟨⟨a3, a4, by omega, by split <;> omega⟩, fun _ => trivial, fun h2 => ?_⟩
  obtain ⟨d1, d2, d3⟩ := size_of h2 (by split <;> omega)
  have c1 := csC_len t m f
  have c5 : ¬ (1 + (sumL t : Int) + (sumL f : Int) < 0) := by omega
  have c6 : ¬ (1 + ((csC t m f).1.length : Int) < 0) := by omega
  have c7 : 1 + (sumL t : Int) + (sumL f : Int) ≤ 1099511627776 := by omega
  have c8 : 0 ≤ 1 + (sumL t : Int) + (sumL f : Int) := by omega
  have c9 : 1 + (sumL t : Int) ≤ 1073741824 := by omega
  have c0 : 0 ≤ 1 + (sumL t : Int) := by omega
  have c2 : (csC t m f).1.length ≤ 1099511627776 := by omega
  simp [e1, e2, e3, d1, d2, d3, c0, c2, c5, c6, c7, c8, c9, markR_length, markR_lens, markR_sum, markR_mark]
theorem lCS_fits : Fits Try.prog 3 ⟨[], lCS_ct⟩ := by
  refine fits_fn (Γ := gam lCS_G) (gok_cons szInt64SS_fits (gok_cons toInt64SS_fits (gok_cons eqInt64SS_fits (gok_cons eqInt64S_fits (gok_cons markInt64SS_fits (gok_cons markInt64S_fits (gok_cons heldInt64S_fits (gok_cons sCS_fits (gok_cons iCS_fits gok_nil))))))))) Try.func3 (by kernel_rfl) (by kernel_rfl) (by kernel_rfl) fun ds p h hp => ?_
  unfold lCS_ct at h
  split at h
  · cases h
    exact ⟨noWr, noAnn, by rw [lCS_vc]; exact lCS_ok _ _ _  hp⟩
  · cases h

end Go.Sx

