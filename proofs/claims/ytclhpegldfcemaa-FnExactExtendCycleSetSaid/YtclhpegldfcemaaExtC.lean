/- Contracts on the way of ExtendCycleSet. -/
import Derived.Test.YtclhpegldfcemaaExt
import Derived.Test.YtclhpegldfcemaaCyc
open Go Go.Proofs
namespace Go.Sx
set_option linter.unusedSimpArgs false
set_option linter.unusedVariables false

def markCycleSet_p (l : List (List Int)) (k : Int) : Post := ⟨l.length ≤ 1048576 ∧ sumL l ≤ 1048576 ∧ 0 ≤ k ∧ k ≤ 1073741824, .c (.int .i64 (k + (sumL l : Int))), [.rows 23 2 .i64 (markR l k)]⟩
def markCycleSet_ct : List AD → Option Post
  | [.agg [.rows .i64 (l)], .c (.int .i64 (k))] => some (markCycleSet_p l k)
  | _ => none
def markCycleSet_G : List (Nat × Ctr) := [(28, ⟨[(0, 0)], markInt64SS_ct⟩)]
def markCycleSet_V (l : List (List Int)) (k : Int) : Prop :=
  ((((List.length l ≤ (1048576 : Nat)) ∧
  ((Go.Sx.sumL l ≤ (1048576 : Nat)) ∧
  (((0 : Int) ≤ k) ∧
  (k ≤ (1073741824 : Int))))) ∧
  ((List.map List.length (Go.Sx.markR l k) = List.map List.length l) ∧
  (True))) ∧
  ((k + (↑(Go.Sx.sumL l) : Int) = k + (↑(Go.Sx.sumL l) : Int)) ∧
  ((Go.Sx.markR l k = Go.Sx.markR l k) ∧
  (True))))
theorem markCycleSet_vc (l : List (List Int)) (k : Int) : runF Try.prog (gam markCycleSet_G) noWr noAnn Try.f54 (bodyOf Try.f54) [(0, 0)] [.agg [.rows .i64 (l)], .c (.int .i64 (k))] (markCycleSet_p l k) = markCycleSet_V l k := by kernel_rfl
theorem markCycleSet_ok (l : List (List Int)) (k : Int) (hpre : (markCycleSet_p l k).pre) : markCycleSet_V l k := by
  simp only [markCycleSet_p, markCycleSet_V, BrP_iff, true_and, and_true, decide_eq_true_eq, decide_eq_false_iff_not, bne_iff_ne, beq_iff_eq, bne_eq_false_iff_eq, beq_eq_false_iff_ne, Bool.not_eq_true, Bool.not_eq_false, Bool.not_true, Bool.not_false, Bool.not_eq_eq_eq_not, Int.toNat_natCast, List.length_append, List.length_take, List.length_replicate, List.length_set, List.length_map, List.length_drop, List.length_nil, List.length_cons, markL_length, inB, InR, room, bdsOk] at hpre ⊢
  exact ⟨hpre, markR_lens l k⟩
theorem markCycleSet_fits : Fits Try.prog 54 ⟨[(0, 0)], markCycleSet_ct⟩ := by
  refine fits_fn (Γ := gam markCycleSet_G) (gok_cons markInt64SS_fits gok_nil) Try.func54 (by kernel_rfl) (by kernel_rfl) (by kernel_rfl) fun ds p h hp => ?_
  unfold markCycleSet_ct at h
  split at h
  · cases h
    exact ⟨noWr, noAnn, by rw [markCycleSet_vc]; exact markCycleSet_ok _ _  hp⟩
  · cases h

def heldCycleSet_p (l : List (List Int)) (k : Int) : Post := ⟨l.length ≤ 1048576 ∧ sumL l ≤ 1048576 ∧ 0 ≤ k ∧ k ≤ 1073741824, .c (.int .i64 (if l = markR l k then k + (sumL l : Int) else -1)), []⟩
def heldCycleSet_ct : List AD → Option Post
  | [.agg [.rows .i64 (l)], .c (.int .i64 (k))] => some (heldCycleSet_p l k)
  | _ => none
def heldCycleSet_G : List (Nat × Ctr) := [(30, ⟨[], heldInt64SS_ct⟩)]
def heldCycleSet_V (l : List (List Int)) (k : Int) : Prop :=
  ((((List.length l ≤ (1048576 : Nat)) ∧
  ((Go.Sx.sumL l ≤ (1048576 : Nat)) ∧
  (((0 : Int) ≤ k) ∧
  (k ≤ (1073741824 : Int))))) ∧
  (True)) ∧
  (BrP (Decidable.decide ((if l = Go.Sx.markR l k then k + (↑(Go.Sx.sumL l) : Int) else (-1 : Int)) < (0 : Int)))
    (((-1 : Int) = if l = Go.Sx.markR l k then k + (↑(Go.Sx.sumL l) : Int) else (-1 : Int)) ∧
    (True))
    (((if l = Go.Sx.markR l k then k + (↑(Go.Sx.sumL l) : Int) else (-1 : Int)) = if l = Go.Sx.markR l k then k + (↑(Go.Sx.sumL l) : Int) else (-1 : Int)) ∧
    (True))))
theorem heldCycleSet_vc (l : List (List Int)) (k : Int) : runF Try.prog (gam heldCycleSet_G) noWr noAnn Try.f55 (bodyOf Try.f55) [] [.agg [.rows .i64 (l)], .c (.int .i64 (k))] (heldCycleSet_p l k) = heldCycleSet_V l k := by kernel_rfl
theorem heldCycleSet_ok (l : List (List Int)) (k : Int) (hpre : (heldCycleSet_p l k).pre) : heldCycleSet_V l k := by
  simp only [heldCycleSet_p, heldCycleSet_V, BrP_iff, true_and, and_true, decide_eq_true_eq, decide_eq_false_iff_not, bne_iff_ne, beq_iff_eq, bne_eq_false_iff_eq, beq_eq_false_iff_ne, Bool.not_eq_true, Bool.not_eq_false, Bool.not_true, Bool.not_false, Bool.not_eq_eq_eq_not, Int.toNat_natCast, List.length_append, List.length_take, List.length_replicate, List.length_set, List.length_map, List.length_drop, List.length_nil, List.length_cons, markL_length, inB, InR, room, bdsOk] at hpre ⊢
  refine ⟨hpre, fun h => ?_, fun h => trivial⟩
  split at h
  · omega
  · rename_i h1; rw [if_neg h1]
theorem heldCycleSet_fits : Fits Try.prog 55 ⟨[], heldCycleSet_ct⟩ := by
  refine fits_fn (Γ := gam heldCycleSet_G) (gok_cons heldInt64SS_fits gok_nil) Try.func55 (by kernel_rfl) (by kernel_rfl) (by kernel_rfl) fun ds p h hp => ?_
  unfold heldCycleSet_ct at h
  split at h
  · cases h
    exact ⟨noWr, noAnn, by rw [heldCycleSet_vc]; exact heldCycleSet_ok _ _  hp⟩
  · cases h

def eyC (t : List (List Int)) (m : Int) (f : List (List Int)) : List (List Int) × Int :=
  if cycB t = true then (if matB (t.length : Int) m f = true then (if 12 < (t.length : Int) * m then ([], 3) else if (ccF t m f).isNone = true then (exR t m f, 0) else ([], 5)) else ([], 2)) else ([], 1)


theorem eyC_room (t : List (List Int)) (m : Int) (f : List (List Int)) : roomR (eyC t m f).1 ∧ (eyC t m f).1.length ≤ 1048576 ∧ sumL (eyC t m f).1 ≤ 1048576 := by
  have nil : roomR ([] : List (List Int)) ∧ ([] : List (List Int)).length ≤ 1048576 ∧ sumL ([] : List (List Int)) ≤ 1048576 := ⟨⟨by simp, by simp⟩, by simp, by simp [sumL]⟩
  unfold eyC
  split
  · split
    · rename_i hr hm
      have hn := nm_in (cycB_tab hr) hm
      split
      · exact nil
      · split
        · exact ⟨tabR_room _ _ (by omega), by simp only [exR, tabR_length]; omega, Nat.le_trans (tabR_sum _ _ (by omega)) (by omega)⟩
        · exact nil
    · exact nil
  · exact nil

def iExtC_p (t : List (List Int)) (m : Int) (f : List (List Int)) : Post := ⟨roomR t ∧ roomR f, .tup [.inr [.rows 23 2 .i64 ((eyC t m f).1)], .inl (.int .i64 ((eyC t m f).2))], []⟩
def iExtC_ct : List AD → Option Post
  | [.agg [.rows .i64 (t)], .c (.int .i64 (m)), .c (.rows .i64 (f))] => some (iExtC_p t m f)
  | _ => none
def iExtC_G : List (Nat × Ctr) := [(97, ⟨[], IsCycleSet_ct⟩), (107, ⟨[], isMatrix_ct⟩), (115, ⟨[], isCycleCocycle_ct⟩), (123, ⟨[], extension_ct⟩)]
def iExtC_V (t : List (List Int)) (m : Int) (f : List (List Int)) : Prop :=
  (((Go.Sx.roomR t) ∧
  (True)) ∧
  (BrP (!Go.Sx.cycB t)
    (((([] = Prod.fst (Go.Sx.eyC t m f)) ∧
    (True)) ∧
    (((1 : Int) = Prod.snd (Go.Sx.eyC t m f)) ∧
    (True))) ∧
    (True))
    (((Go.Sx.roomR f) ∧
    (True)) ∧
    (BrP (!Go.Sx.matB (↑(List.length t) : Int) m f)
      (((([] = Prod.fst (Go.Sx.eyC t m f)) ∧
      (True)) ∧
      (((2 : Int) = Prod.snd (Go.Sx.eyC t m f)) ∧
      (True))) ∧
      (True))
      ((Go.Sx.InR ((↑(List.length t) : Int) * m)) ∧
      (BrP (Decidable.decide ((12 : Int) < (↑(List.length t) : Int) * m))
        (((([] = Prod.fst (Go.Sx.eyC t m f)) ∧
        (True)) ∧
        (((3 : Int) = Prod.snd (Go.Sx.eyC t m f)) ∧
        (True))) ∧
        (True))
        ((((Go.Sx.tabB t = Bool.true) ∧
        (Go.Sx.matB (↑(List.length t) : Int) m f = Bool.true)) ∧
        (True)) ∧
        (BrP (!Option.isNone (Go.Sx.ccF t m f))
          (((([] = Prod.fst (Go.Sx.eyC t m f)) ∧
          (True)) ∧
          (((5 : Int) = Prod.snd (Go.Sx.eyC t m f)) ∧
          (True))) ∧
          (True))
          ((((Go.Sx.tabB t = Bool.true) ∧
          (Go.Sx.matB (↑(List.length t) : Int) m f = Bool.true)) ∧
          (True)) ∧
          ((((Go.Sx.exR t m f = Prod.fst (Go.Sx.eyC t m f)) ∧
          (True)) ∧
          (((0 : Int) = Prod.snd (Go.Sx.eyC t m f)) ∧
          (True))) ∧
          (True)))))))))))
theorem iExtC_vc (t : List (List Int)) (m : Int) (f : List (List Int)) : runF Try.prog (gam iExtC_G) noWr noAnn Try.f53 (bodyOf Try.f53) [] [.agg [.rows .i64 (t)], .c (.int .i64 (m)), .c (.rows .i64 (f))] (iExtC_p t m f) = iExtC_V t m f := by kernel_rfl
theorem iExtC_ok (t : List (List Int)) (m : Int) (f : List (List Int)) (hpre : (iExtC_p t m f).pre) : iExtC_V t m f := by
  simp only [iExtC_p, iExtC_V, BrP_iff, true_and, and_true, decide_eq_true_eq, decide_eq_false_iff_not, bne_iff_ne, beq_iff_eq, bne_eq_false_iff_eq, beq_eq_false_iff_ne, Bool.not_eq_true, Bool.not_eq_false, Bool.not_true, Bool.not_false, Bool.not_eq_eq_eq_not, Int.toNat_natCast, List.length_append, List.length_take, List.length_replicate, List.length_set, List.length_map, List.length_drop, List.length_nil, List.length_cons, markL_length, inB, InR, room, bdsOk] at hpre ⊢
  refine ⟨hpre.1, fun h => by simp [eyC, h], fun hr => ⟨hpre.2, fun h => by simp [eyC, hr, h], fun hm => ?_⟩⟩
  have hn := nm_in (cycB_tab hr) hm
  refine ⟨by omega, fun hb => ?_, fun hb => ⟨⟨cycB_tab hr, hm⟩, fun hf => ?_, fun hf => ⟨⟨cycB_tab hr, hm⟩, ?_⟩⟩⟩
  · rw [eyC, if_pos hr, if_pos hm, if_pos hb]; exact ⟨rfl, rfl⟩
  · rw [eyC, if_pos hr, if_pos hm, if_neg hb, hf]; exact ⟨rfl, rfl⟩
  · rw [eyC, if_pos hr, if_pos hm, if_neg hb, hf]; exact ⟨rfl, rfl⟩
theorem iExtC_fits : Fits Try.prog 53 ⟨[], iExtC_ct⟩ := by
  refine fits_fn (Γ := gam iExtC_G) (gok_cons IsCycleSet_fits (gok_cons isMatrix_fits (gok_cons isCycleCocycle_fits (gok_cons extension_fits gok_nil)))) Try.func53 (by kernel_rfl) (by kernel_rfl) (by kernel_rfl) fun ds p h hp => ?_
  unfold iExtC_ct at h
  split at h
  · cases h
    exact ⟨noWr, noAnn, by rw [iExtC_vc]; exact iExtC_ok _ _ _  hp⟩
  · cases h

def sExtC_p (t : List (List Int)) (m : Int) (f : List (List Int)) : Post := ⟨roomR t ∧ roomR f, .tup [.inr [.rows 23 2 .i64 ((eyC t m f).1)], .inl (.int .i64 ((eyC t m f).2))], []⟩
def sExtC_ct : List AD → Option Post
  | [.agg [.rows .i64 (t)], .c (.int .i64 (m)), .c (.rows .i64 (f))] => some (sExtC_p t m f)
  | _ => none
def sExtC_G : List (Nat × Ctr) := [(39, ⟨[], sIsCC_ct⟩), (122, ⟨[], l14Extend_ct⟩)]
def sExtC_V (t : List (List Int)) (m : Int) (f : List (List Int)) : Prop :=
  ((((Go.Sx.roomR t) ∧
  (Go.Sx.roomR f)) ∧
  (True)) ∧
  (BrP (Prod.snd (Go.Sx.ccC t m f) == (0 : Int))
    ((Go.Sx.InR ((↑(List.length t) : Int) * m)) ∧
    (BrP (Decidable.decide ((12 : Int) < (↑(List.length t) : Int) * m))
      (((([] = Prod.fst (Go.Sx.eyC t m f)) ∧
      (True)) ∧
      (((3 : Int) = Prod.snd (Go.Sx.eyC t m f)) ∧
      (True))) ∧
      (True))
      (BrP (Prod.snd (Go.Sx.ccC t m f) == (0 : Int))
        (BrP (!Prod.fst (Go.Sx.ccC t m f))
          (((([] = Prod.fst (Go.Sx.eyC t m f)) ∧
          (True)) ∧
          (((5 : Int) = Prod.snd (Go.Sx.eyC t m f)) ∧
          (True))) ∧
          (True))
          (BrP (Prod.snd (Go.Sx.ccC t m f) != (0 : Int))
            (((([] = Prod.fst (Go.Sx.eyC t m f)) ∧
            (True)) ∧
            ((Prod.snd (Go.Sx.ccC t m f) = Prod.snd (Go.Sx.eyC t m f)) ∧
            (True))) ∧
            (True))
            ((((Go.Sx.tabB t = Bool.true) ∧
            (Go.Sx.matB (↑(List.length t) : Int) m f = Bool.true)) ∧
            (True)) ∧
            ((((Go.Sx.exR t m f = Prod.fst (Go.Sx.eyC t m f)) ∧
            (True)) ∧
            (((0 : Int) = Prod.snd (Go.Sx.eyC t m f)) ∧
            (True))) ∧
            (True)))))
        (BrP (Prod.snd (Go.Sx.ccC t m f) != (0 : Int))
          (((([] = Prod.fst (Go.Sx.eyC t m f)) ∧
          (True)) ∧
          ((Prod.snd (Go.Sx.ccC t m f) = Prod.snd (Go.Sx.eyC t m f)) ∧
          (True))) ∧
          (True))
          ((((Go.Sx.tabB t = Bool.true) ∧
          (Go.Sx.matB (↑(List.length t) : Int) m f = Bool.true)) ∧
          (True)) ∧
          ((((Go.Sx.exR t m f = Prod.fst (Go.Sx.eyC t m f)) ∧
          (True)) ∧
          (((0 : Int) = Prod.snd (Go.Sx.eyC t m f)) ∧
          (True))) ∧
          (True)))))))
    (BrP (Prod.snd (Go.Sx.ccC t m f) == (0 : Int))
      (BrP (!Prod.fst (Go.Sx.ccC t m f))
        (((([] = Prod.fst (Go.Sx.eyC t m f)) ∧
        (True)) ∧
        (((5 : Int) = Prod.snd (Go.Sx.eyC t m f)) ∧
        (True))) ∧
        (True))
        (BrP (Prod.snd (Go.Sx.ccC t m f) != (0 : Int))
          (((([] = Prod.fst (Go.Sx.eyC t m f)) ∧
          (True)) ∧
          ((Prod.snd (Go.Sx.ccC t m f) = Prod.snd (Go.Sx.eyC t m f)) ∧
          (True))) ∧
          (True))
          ((((Go.Sx.tabB t = Bool.true) ∧
          (Go.Sx.matB (↑(List.length t) : Int) m f = Bool.true)) ∧
          (True)) ∧
          ((((Go.Sx.exR t m f = Prod.fst (Go.Sx.eyC t m f)) ∧
          (True)) ∧
          (((0 : Int) = Prod.snd (Go.Sx.eyC t m f)) ∧
          (True))) ∧
          (True)))))
      (BrP (Prod.snd (Go.Sx.ccC t m f) != (0 : Int))
        (((([] = Prod.fst (Go.Sx.eyC t m f)) ∧
        (True)) ∧
        ((Prod.snd (Go.Sx.ccC t m f) = Prod.snd (Go.Sx.eyC t m f)) ∧
        (True))) ∧
        (True))
        ((((Go.Sx.tabB t = Bool.true) ∧
        (Go.Sx.matB (↑(List.length t) : Int) m f = Bool.true)) ∧
        (True)) ∧
        ((((Go.Sx.exR t m f = Prod.fst (Go.Sx.eyC t m f)) ∧
        (True)) ∧
        (((0 : Int) = Prod.snd (Go.Sx.eyC t m f)) ∧
        (True))) ∧
        (True)))))))
theorem sExtC_vc (t : List (List Int)) (m : Int) (f : List (List Int)) : runF Try.prog (gam sExtC_G) noWr noAnn Try.f52 (bodyOf Try.f52) [] [.agg [.rows .i64 (t)], .c (.int .i64 (m)), .c (.rows .i64 (f))] (sExtC_p t m f) = sExtC_V t m f := by kernel_rfl
theorem sExtC_ok (t : List (List Int)) (m : Int) (f : List (List Int)) (hpre : (sExtC_p t m f).pre) : sExtC_V t m f := by
  simp only [sExtC_p, sExtC_V, BrP_iff, true_and, and_true, decide_eq_true_eq, decide_eq_false_iff_not, bne_iff_ne, beq_iff_eq, bne_eq_false_iff_eq, beq_eq_false_iff_ne, Bool.not_eq_true, Bool.not_eq_false, Bool.not_true, Bool.not_false, Bool.not_eq_eq_eq_not, Int.toNat_natCast, List.length_append, List.length_take, List.length_replicate, List.length_set, List.length_map, List.length_drop, List.length_nil, List.length_cons, markL_length, inB, InR, room, bdsOk] at hpre ⊢
  refine ⟨hpre, ?_⟩
  by_cases hr : cycB t = true
  · by_cases hm : matB (t.length : Int) m f = true
    · have e : ccC t m f = ((ccF t m f).isNone, 0) := by rw [ccC, if_pos hr, if_pos hm]
      have hn := nm_in (cycB_tab hr) hm
      rw [e]
      by_cases hb : 12 < (t.length : Int) * m
      · rw [eyC, if_pos hr, if_pos hm, if_pos hb]
        exact ⟨fun _ => ⟨by omega, fun _ => ⟨rfl, rfl⟩, fun h => absurd hb h⟩, fun h => absurd rfl h⟩
      · rw [eyC, if_pos hr, if_pos hm, if_neg hb]
        cases hf : (ccF t m f).isNone with
        | false => exact ⟨fun _ => ⟨by omega, fun h => absurd h hb, fun _ => ⟨fun _ => ⟨fun _ => ⟨rfl, rfl⟩, fun h => (by cases h)⟩, fun h => absurd rfl h⟩⟩, fun h => absurd rfl h⟩
        | true => exact ⟨fun _ => ⟨by omega, fun h => absurd h hb, fun _ => ⟨fun _ => ⟨fun h => (by cases h), fun _ => ⟨fun h => absurd rfl h, fun _ => ⟨⟨cycB_tab hr, hm⟩, rfl, rfl⟩⟩⟩, fun h => absurd rfl h⟩⟩, fun h => absurd rfl h⟩
    · have e : ccC t m f = (false, 2) := by rw [ccC, if_pos hr, if_neg hm]
      have x : eyC t m f = ([], 2) := by rw [eyC, if_pos hr, if_neg hm]
      rw [e, x]
      exact ⟨fun h => absurd h (by simp), fun _ => ⟨fun h => absurd h (by simp), fun _ => ⟨fun _ => ⟨rfl, rfl⟩, fun h => absurd h (by simp)⟩⟩⟩
  · have e : ccC t m f = (false, 1) := by rw [ccC, if_neg hr]
    have x : eyC t m f = ([], 1) := by rw [eyC, if_neg hr]
    rw [e, x]
    exact ⟨fun h => absurd h (by simp), fun _ => ⟨fun h => absurd h (by simp), fun _ => ⟨fun _ => ⟨rfl, rfl⟩, fun h => absurd h (by simp)⟩⟩⟩
theorem sExtC_fits : Fits Try.prog 52 ⟨[], sExtC_ct⟩ := by
  refine fits_fn (Γ := gam sExtC_G) (gok_cons sIsCC_fits (gok_cons l14Extend_fits gok_nil)) Try.func52 (by kernel_rfl) (by kernel_rfl) (by kernel_rfl) fun ds p h hp => ?_
  unfold sExtC_ct at h
  split at h
  · cases h
    exact ⟨noWr, noAnn, by rw [sExtC_vc]; exact sExtC_ok _ _ _  hp⟩
  · cases h

def lExtC_p (t : List (List Int)) (m : Int) (f : List (List Int)) : Post := ⟨((t.length : Int) ≤ 9223372036854775807 ∧ (∀ r ∈ t, (r.length : Int) ≤ 9223372036854775807)) ∧ (f.length : Int) ≤ 9223372036854775807 ∧ (∀ r ∈ f, (r.length : Int) ≤ 9223372036854775807), .c (.bool (true)), []⟩
def lExtC_ct : List AD → Option Post
  | [.agg [.rows .i64 (t)], .c (.int .i64 (m)), .c (.rows .i64 (f))] => some (lExtC_p t m f)
  | _ => none
def lExtC_G : List (Nat × Ctr) := [(38, ⟨[], szCycleSet_ct⟩), (21, ⟨[], szInt64SS_ct⟩), (40, ⟨[], toCycleSet_ct⟩), (23, ⟨[], toInt64SS_ct⟩), (42, ⟨[], eqCycleSet_ct⟩), (26, ⟨[], eqInt64SS_ct⟩), (54, ⟨[(0, 0)], markCycleSet_ct⟩), (28, ⟨[(0, 0)], markInt64SS_ct⟩), (55, ⟨[], heldCycleSet_ct⟩), (52, ⟨[], sExtC_ct⟩), (53, ⟨[], iExtC_ct⟩)]
def lExtC_V (t : List (List Int)) (m : Int) (f : List (List Int)) : Prop :=
  (((((↑(List.length t) : Int) ≤ (9223372036854775807 : Int)) ∧
  ((∀ (r : List Int), r ∈ t → (↑(List.length r) : Int) ≤ (9223372036854775807 : Int)) ∧
  (((0 : Int) ≤ (1048576 : Int)) ∧
  ((1048576 : Int) ≤ (1099511627776 : Int))))) ∧
  (True)) ∧
  (BrP (Decidable.decide ((if (1048576 : Int) < (↑(List.length t) : Int) + (↑(Go.Sx.sumL t) : Int) then (-1 : Int) else (1048576 : Int) - (↑(List.length t) : Int) - (↑(Go.Sx.sumL t) : Int)) < (0 : Int)))
    ((Bool.true = Bool.true) ∧
    (True))
    (((((↑(List.length f) : Int) ≤ (9223372036854775807 : Int)) ∧
    ((∀ (r : List Int), r ∈ f → (↑(List.length r) : Int) ≤ (9223372036854775807 : Int)) ∧
    (((0 : Int) ≤ if (1048576 : Int) < (↑(List.length t) : Int) + (↑(Go.Sx.sumL t) : Int) then (-1 : Int) else (1048576 : Int) - (↑(List.length t) : Int) - (↑(Go.Sx.sumL t) : Int)) ∧
    ((if (1048576 : Int) < (↑(List.length t) : Int) + (↑(Go.Sx.sumL t) : Int) then (-1 : Int) else (1048576 : Int) - (↑(List.length t) : Int) - (↑(Go.Sx.sumL t) : Int)) ≤ (1099511627776 : Int))))) ∧
    (True)) ∧
    (BrP (Decidable.decide ((if (if (1048576 : Int) < (↑(List.length t) : Int) + (↑(Go.Sx.sumL t) : Int) then (-1 : Int) else (1048576 : Int) - (↑(List.length t) : Int) - (↑(Go.Sx.sumL t) : Int)) < (↑(List.length f) : Int) + (↑(Go.Sx.sumL f) : Int) then (-1 : Int) else (if (1048576 : Int) < (↑(List.length t) : Int) + (↑(Go.Sx.sumL t) : Int) then (-1 : Int) else (1048576 : Int) - (↑(List.length t) : Int) - (↑(Go.Sx.sumL t) : Int)) - (↑(List.length f) : Int) - (↑(Go.Sx.sumL f) : Int)) < (0 : Int)))
      ((Bool.true = Bool.true) ∧
      (True))
      (((Go.Sx.roomR t) ∧
      (True)) ∧
      (((Go.Sx.roomR f) ∧
      (True)) ∧
      ((((Go.Sx.roomR t) ∧
      (Go.Sx.roomR f)) ∧
      (True)) ∧
      (((Go.Sx.roomR t) ∧
      (True)) ∧
      (((Go.Sx.roomR f) ∧
      (True)) ∧
      ((((Go.Sx.roomR t) ∧
      (Go.Sx.roomR f)) ∧
      (True)) ∧
      (((Go.Sx.roomR (Prod.fst (Go.Sx.eyC t m f))) ∧
      (True)) ∧
      (BrP (!Decidable.decide (Prod.fst (Go.Sx.eyC t m f) = Prod.fst (Go.Sx.eyC t m f)))
        ((Bool.false = Bool.true) ∧
        (True))
        (BrP (Prod.snd (Go.Sx.eyC t m f) != Prod.snd (Go.Sx.eyC t m f))
          ((Bool.false = Bool.true) ∧
          (True))
          (((Go.Sx.roomR t) ∧
          (True)) ∧
          (((Go.Sx.roomR t) ∧
          (True)) ∧
          (BrP (!Decidable.decide (t = t))
            ((Bool.false = Bool.true) ∧
            (True))
            (((Go.Sx.roomR f) ∧
            (True)) ∧
            (((Go.Sx.roomR f) ∧
            (True)) ∧
            (BrP (!Decidable.decide (f = f))
              ((Bool.false = Bool.true) ∧
              (True))
              ((((List.length t ≤ (1048576 : Nat)) ∧
              ((Go.Sx.sumL t ≤ (1048576 : Nat)) ∧
              (((0 : Int) ≤ (1 : Int)) ∧
              ((1 : Int) ≤ (1073741824 : Int))))) ∧
              ((List.map List.length (Go.Sx.markR t (1 : Int)) = List.map List.length t) ∧
              (True))) ∧
              ((((List.length f ≤ (1048576 : Nat)) ∧
              ((Go.Sx.sumL f ≤ (1048576 : Nat)) ∧
              (((0 : Int) ≤ (1 : Int) + (↑(Go.Sx.sumL t) : Int)) ∧
              ((1 : Int) + (↑(Go.Sx.sumL t) : Int) ≤ (1073741824 : Int))))) ∧
              ((List.map List.length (Go.Sx.markR f ((1 : Int) + (↑(Go.Sx.sumL t) : Int))) = List.map List.length f) ∧
              (True))) ∧
              (BrP (Decidable.decide ((1 : Int) + (↑(Go.Sx.sumL t) : Int) + (↑(Go.Sx.sumL f) : Int) < (0 : Int)))
                ((Bool.false = Bool.true) ∧
                (True))
                (((Go.Sx.roomR (Prod.fst (Go.Sx.eyC t m f))) ∧
                (True)) ∧
                (BrP (!Decidable.decide (Prod.fst (Go.Sx.eyC t m f) = Prod.fst (Go.Sx.eyC t m f)))
                  ((Bool.false = Bool.true) ∧
                  (True))
                  (BrP (Prod.snd (Go.Sx.eyC t m f) != Prod.snd (Go.Sx.eyC t m f))
                    ((Bool.false = Bool.true) ∧
                    (True))
                    ((((List.length (Prod.fst (Go.Sx.eyC t m f)) ≤ (1048576 : Nat)) ∧
                    ((Go.Sx.sumL (Prod.fst (Go.Sx.eyC t m f)) ≤ (1048576 : Nat)) ∧
                    (((0 : Int) ≤ (1 : Int)) ∧
                    ((1 : Int) ≤ (1073741824 : Int))))) ∧
                    ((List.map List.length (Go.Sx.markR (Prod.fst (Go.Sx.eyC t m f)) (1 : Int)) = List.map List.length (Prod.fst (Go.Sx.eyC t m f))) ∧
                    (True))) ∧
                    ((((List.length (Go.Sx.markR (Prod.fst (Go.Sx.eyC t m f)) (1 : Int)) ≤ (1048576 : Nat)) ∧
                    ((Go.Sx.sumL (Go.Sx.markR (Prod.fst (Go.Sx.eyC t m f)) (1 : Int)) ≤ (1048576 : Nat)) ∧
                    (((0 : Int) ≤ (1 : Int)) ∧
                    ((1 : Int) ≤ (1073741824 : Int))))) ∧
                    (True)) ∧
                    (BrP (Decidable.decide ((if Go.Sx.markR (Prod.fst (Go.Sx.eyC t m f)) (1 : Int) = Go.Sx.markR (Go.Sx.markR (Prod.fst (Go.Sx.eyC t m f)) (1 : Int)) (1 : Int) then (1 : Int) + (↑(Go.Sx.sumL (Go.Sx.markR (Prod.fst (Go.Sx.eyC t m f)) (1 : Int))) : Int) else (-1 : Int)) < (0 : Int)))
                      ((Bool.false = Bool.true) ∧
                      (True))
                      (BrP ((if Go.Sx.markR (Prod.fst (Go.Sx.eyC t m f)) (1 : Int) = Go.Sx.markR (Go.Sx.markR (Prod.fst (Go.Sx.eyC t m f)) (1 : Int)) (1 : Int) then (1 : Int) + (↑(Go.Sx.sumL (Go.Sx.markR (Prod.fst (Go.Sx.eyC t m f)) (1 : Int))) : Int) else (-1 : Int)) != (1 : Int) + (↑(Go.Sx.sumL (Prod.fst (Go.Sx.eyC t m f))) : Int))
                        ((Bool.false = Bool.true) ∧
                        (True))
                        (((Go.Sx.roomR t) ∧
                        (True)) ∧
                        (((Go.Sx.roomR f) ∧
                        (True)) ∧
                        ((((Go.Sx.roomR t) ∧
                        (Go.Sx.roomR f)) ∧
                        (True)) ∧
                        (((Go.Sx.roomR (Prod.fst (Go.Sx.eyC t m f))) ∧
                        (True)) ∧
                        (BrP (!Decidable.decide (Prod.fst (Go.Sx.eyC t m f) = Prod.fst (Go.Sx.eyC t m f)))
                          ((Bool.false = Bool.true) ∧
                          (True))
                          (BrP (Prod.snd (Go.Sx.eyC t m f) != Prod.snd (Go.Sx.eyC t m f))
                            ((Bool.false = Bool.true) ∧
                            (True))
                            ((((List.length (Go.Sx.markR (Prod.fst (Go.Sx.eyC t m f)) (1 : Int)) ≤ (1048576 : Nat)) ∧
                            ((Go.Sx.sumL (Go.Sx.markR (Prod.fst (Go.Sx.eyC t m f)) (1 : Int)) ≤ (1048576 : Nat)) ∧
                            (((0 : Int) ≤ (1 : Int)) ∧
                            ((1 : Int) ≤ (1073741824 : Int))))) ∧
                            (True)) ∧
                            (BrP (Decidable.decide ((if Go.Sx.markR (Prod.fst (Go.Sx.eyC t m f)) (1 : Int) = Go.Sx.markR (Go.Sx.markR (Prod.fst (Go.Sx.eyC t m f)) (1 : Int)) (1 : Int) then (1 : Int) + (↑(Go.Sx.sumL (Go.Sx.markR (Prod.fst (Go.Sx.eyC t m f)) (1 : Int))) : Int) else (-1 : Int)) < (0 : Int)))
                              ((Bool.false = Bool.true) ∧
                              (True))
                              (BrP ((if Go.Sx.markR (Prod.fst (Go.Sx.eyC t m f)) (1 : Int) = Go.Sx.markR (Go.Sx.markR (Prod.fst (Go.Sx.eyC t m f)) (1 : Int)) (1 : Int) then (1 : Int) + (↑(Go.Sx.sumL (Go.Sx.markR (Prod.fst (Go.Sx.eyC t m f)) (1 : Int))) : Int) else (-1 : Int)) != (1 : Int) + (↑(Go.Sx.sumL (Prod.fst (Go.Sx.eyC t m f))) : Int))
                                ((Bool.false = Bool.true) ∧
                                (True))
                                ((Bool.true = Bool.true) ∧
                                (True))))))))))))))))))))))))))))))))))))))))
theorem lExtC_vc (t : List (List Int)) (m : Int) (f : List (List Int)) : runF Try.prog (gam lExtC_G) noWr noAnn Try.f10 (bodyOf Try.f10) [] [.agg [.rows .i64 (t)], .c (.int .i64 (m)), .c (.rows .i64 (f))] (lExtC_p t m f) = lExtC_V t m f := by kernel_rfl
theorem lExtC_ok (t : List (List Int)) (m : Int) (f : List (List Int)) (hpre : (lExtC_p t m f).pre) : lExtC_V t m f := by
  simp only [lExtC_p, lExtC_V, BrP_iff, true_and, and_true, decide_eq_true_eq, decide_eq_false_iff_not, bne_iff_ne, beq_iff_eq, bne_eq_false_iff_eq, beq_eq_false_iff_ne, Bool.not_eq_true, Bool.not_eq_false, Bool.not_true, Bool.not_false, Bool.not_eq_eq_eq_not, Int.toNat_natCast, List.length_append, List.length_take, List.length_replicate, List.length_set, List.length_map, List.length_drop, List.length_nil, List.length_cons, markL_length, inB, InR, room, bdsOk] at hpre ⊢
  obtain ⟨⟨a1, a2⟩, a3, a4⟩ := hpre
  refine ⟨⟨a1, a2, by omega, by omega⟩, fun _ => trivial, fun h => ?_⟩
  obtain ⟨e1, e2, e3⟩ := size_of h
  refine ⟨⟨a3, a4, by omega, by split <;> omega⟩, fun _ => trivial, fun h2 => ?_⟩
  obtain ⟨d1, d2, d3⟩ := size_of h2 (by split <;> omega)
  obtain ⟨c1, c3, c4⟩ := eyC_room t m f
  have c5 : ¬ (1 + (sumL t : Int) + (sumL f : Int) < 0) := by omega
  have c6 : ¬ (1 + (sumL (eyC t m f).1 : Int) < 0) := by omega
  have c9 : 1 + (sumL t : Int) ≤ 1073741824 := by omega
  have c0 : 0 ≤ 1 + (sumL t : Int) := by omega
  simp [e1, e2, e3, d1, d2, d3, c0, c1, c3, c4, c5, c6, c9, markR_length, markR_lens, markR_sum, markR_mark]
theorem lExtC_fits : Fits Try.prog 10 ⟨[], lExtC_ct⟩ := by
  refine fits_fn (Γ := gam lExtC_G) (gok_cons szCycleSet_fits (gok_cons szInt64SS_fits (gok_cons toCycleSet_fits (gok_cons toInt64SS_fits (gok_cons eqCycleSet_fits (gok_cons eqInt64SS_fits (gok_cons markCycleSet_fits (gok_cons markInt64SS_fits (gok_cons heldCycleSet_fits (gok_cons sExtC_fits (gok_cons iExtC_fits gok_nil))))))))))) Try.func10 (by kernel_rfl) (by kernel_rfl) (by kernel_rfl) fun ds p h hp => ?_
  unfold lExtC_ct at h
  split at h
  · cases h
    exact ⟨noWr, noAnn, by rw [lExtC_vc]; exact lExtC_ok _ _ _  hp⟩
  · cases h

end Go.Sx

