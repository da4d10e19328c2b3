/- Contracts on the way of ExtendCycleSet. -/
import Derived.Test.YtjkbnanffneogaaExt
import Derived.Test.YtjkbnanffneogaaCyc
open Go Go.Proofs
namespace Go.Sx
set_option linter.unusedSimpArgs false
set_option linter.unusedVariables false

def markCycleSet_p (l : List (List Int)) (k : Int) : Post := ⟨l.length ≤ 1048576 ∧ sumL l ≤ 1048576 ∧ 0 ≤ k ∧ k ≤ 1073741824, .c (.int .i64 (k + (sumL l : Int))), [.rows 41 2 .i64 (markR l k)]⟩
def markCycleSet_ct : List AD → Option Post
  | [.agg [.rows .i64 (l)], .c (.int .i64 (k))] => some (markCycleSet_p l k)
  | _ => none
def markCycleSet_G : List (Nat × Ctr) := [(28, ⟨[(0, 0)], markInt64SS_ct⟩)]
def markCycleSet_V (l : List (List Int)) (k : Int) : Prop :=
  ((((List.length l ≤ (1048576 : Nat)) ∧
 ((sumL l ≤ (1048576 : Nat)) ∧
 (((0 : Int) ≤ k) ∧
 (k ≤ (1073741824 : Int))))) ∧
 ((List.map List.length (markR l k) = List.map List.length l) ∧
 (True))) ∧
 ((k + (↑(sumL l) : Int) = k + (↑(sumL l) : Int)) ∧
 ((markR l k = markR l k) ∧
 (True))))
theorem markCycleSet_vc (l : List (List Int)) (k : Int) : runF Try.prog (gam markCycleSet_G) noWr noAnn Try.f27 (bodyOf Try.f27) [(0, 0)] [.agg [.rows .i64 (l)], .c (.int .i64 (k))] (markCycleSet_p l k) = markCycleSet_V l k := by kernel_rfl
theorem markCycleSet_ok (l : List (List Int)) (k : Int) (hpre : (markCycleSet_p l k).pre) : markCycleSet_V l k := by
  simp only [markCycleSet_p, markCycleSet_V, BrP_iff, true_and, and_true, decide_eq_true_eq, decide_eq_false_iff_not, bne_iff_ne, beq_iff_eq, bne_eq_false_iff_eq, beq_eq_false_iff_ne, Bool.not_eq_true, Bool.not_eq_false, Bool.not_true, Bool.not_false, Bool.not_eq_eq_eq_not, Int.toNat_natCast, List.length_append, List.length_take, List.length_replicate, List.length_set, List.length_map, List.length_drop, List.length_nil, List.length_cons, markL_length, inB, InR, room, bdsOk] at hpre ⊢
  exact ⟨hpre, markR_lens l k⟩
theorem markCycleSet_fits : Fits Try.prog 27 ⟨[(0, 0)], markCycleSet_ct⟩ := by
  refine fits_fn (Γ := gam markCycleSet_G) (gok_cons markInt64SS_fits gok_nil) Try.func27 (by kernel_rfl) (by kernel_rfl) (by kernel_rfl) fun ds p h hp => ?_
  unfold markCycleSet_ct at h
  split at h
  · cases h
    exact ⟨noWr, noAnn, by rw [markCycleSet_vc]; exact markCycleSet_ok _ _  hp⟩
  · cases h

def heldCycleSet_p (l : List (List Int)) (k : Int) : Post := ⟨l.length ≤ 1048576 ∧ sumL l ≤ 1048576 ∧ 0 ≤ k ∧ k ≤ 1073741824, .c (.int .i64 (if l = markR l k then k + (sumL l : Int) else -1)), []⟩
def heldCycleSet_ct : List AD → Option Post
  | [.agg [.rows .i64 (l)], .c (.int .i64 (k))] => some (heldCycleSet_p l k)
  | _ => none
def heldCycleSet_G : List (Nat × Ctr) := [(70, ⟨[], heldInt64SS_ct⟩)]
def heldCycleSet_V (l : List (List Int)) (k : Int) : Prop :=
  ((((List.length l ≤ (1048576 : Nat)) ∧
 ((sumL l ≤ (1048576 : Nat)) ∧
 (((0 : Int) ≤ k) ∧
 (k ≤ (1073741824 : Int))))) ∧
 (True)) ∧
 (BrP (Decidable.decide ((if l = markR l k then k + (↑(sumL l) : Int) else (-1 : Int)) < (0 : Int)))
 (((-1 : Int) = if l = markR l k then k + (↑(sumL l) : Int) else (-1 : Int)) ∧
 (True))
 (((if l = markR l k then k + (↑(sumL l) : Int) else (-1 : Int)) = if l = markR l k then k + (↑(sumL l) : Int) else (-1 : Int)) ∧
 (True))))
theorem heldCycleSet_vc (l : List (List Int)) (k : Int) : runF Try.prog (gam heldCycleSet_G) noWr noAnn Try.f33 (bodyOf Try.f33) [] [.agg [.rows .i64 (l)], .c (.int .i64 (k))] (heldCycleSet_p l k) = heldCycleSet_V l k := by kernel_rfl
theorem heldCycleSet_ok (l : List (List Int)) (k : Int) (hpre : (heldCycleSet_p l k).pre) : heldCycleSet_V l k := by
  simp only [heldCycleSet_p, heldCycleSet_V, BrP_iff, true_and, and_true, decide_eq_true_eq, decide_eq_false_iff_not, bne_iff_ne, beq_iff_eq, bne_eq_false_iff_eq, beq_eq_false_iff_ne, Bool.not_eq_true, Bool.not_eq_false, Bool.not_true, Bool.not_false, Bool.not_eq_eq_eq_not, Int.toNat_natCast, List.length_append, List.length_take, List.length_replicate, List.length_set, List.length_map, List.length_drop, List.length_nil, List.length_cons, markL_length, inB, InR, room, bdsOk] at hpre ⊢
  refine ⟨hpre, fun h => ?_, fun h => trivial⟩
  split at h
  · omega
  · rename_i h1; rw [if_neg h1]
theorem heldCycleSet_fits : Fits Try.prog 33 ⟨[], heldCycleSet_ct⟩ := by
  refine fits_fn (Γ := gam heldCycleSet_G) (gok_cons heldInt64SS_fits gok_nil) Try.func33 (by kernel_rfl) (by kernel_rfl) (by kernel_rfl) fun ds p h hp => ?_
  unfold heldCycleSet_ct at h
  split at h
  · cases h
    exact ⟨noWr, noAnn, by rw [heldCycleSet_vc]; exact heldCycleSet_ok _ _  hp⟩
  · cases h

def eyC (t : List (List Int)) (m : Int) (f : List (List Int)) : List (List Int) × Int :=
  if cycB t = true then (if matB (t.length : Int) m f = true then (if 12 < (t.length : Int) * m then ([], 3) else if (ccF t m f).isNone = true then (exR t m f, 0) else ([], 5)) else ([], 2)) else ([], 1)


theorem eyC_room (t : List (List Int)) (m : Int) (f : List (List Int)) : roomR (eyC t m f).1 ∧ (eyC t m f).1.length ≤ 1048576 ∧ sumL (eyC t m f).1 ≤ 1048576 := by
  have nil : roomR ([] : List (List Int)) ∧ ([] : List (List Int)).length ≤ 1048576 ∧ sumL ([] : List (List Int)) ≤ 1048576 := ⟨⟨by simp, by simp⟩, by simp, by simp [sumL]⟩
  unfold eyC
  split
  · split
    · rename_i hr hm
      have hn := nm_in (cycB_tab hr) hm
      split
      · exact nil
      · split
        · exact ⟨tabR_room _ _ (by omega), by simp only [exR, tabR_length]; omega, Nat.le_trans (tabR_sum _ _ (by omega)) (by omega)⟩
        · exact nil
    · exact nil
  · exact nil

def iExtC_p (t : List (List Int)) (m : Int) (f : List (List Int)) : Post := ⟨roomR t ∧ roomR f, .tup [.inr [.rows 41 2 .i64 ((eyC t m f).1)], .inl (.int .i64 ((eyC t m f).2))], []⟩
def iExtC_ct : List AD → Option Post
  | [.agg [.rows .i64 (t)], .c (.int .i64 (m)), .c (.rows .i64 (f))] => some (iExtC_p t m f)
  | _ => none
def iExtC_G : List (Nat × Ctr) := [(16, ⟨[], IsCycleSet_ct⟩), (35, ⟨[], isMatrix_ct⟩), (36, ⟨[], isCycleCocycle_ct⟩), (37, ⟨[], extension_ct⟩)]
def iExtC_V (t : List (List Int)) (m : Int) (f : List (List Int)) : Prop :=
  (((roomR t) ∧
 (True)) ∧
 (BrP (!cycB t)
 ((((([] : List (List Int)) = Prod.fst (eyC t m f)) ∧
 (True)) ∧
 (((1 : Int) = Prod.snd (eyC t m f)) ∧
 (True))) ∧
 (True))
 (((roomR f) ∧
 (True)) ∧
 (BrP (!matB (↑(List.length t) : Int) m f)
 ((((([] : List (List Int)) = Prod.fst (eyC t m f)) ∧
 (True)) ∧
 (((2 : Int) = Prod.snd (eyC t m f)) ∧
 (True))) ∧
 (True))
 ((InR ((↑(List.length t) : Int) * m)) ∧
 (BrP (Decidable.decide ((12 : Int) < (↑(List.length t) : Int) * m))
 ((((([] : List (List Int)) = Prod.fst (eyC t m f)) ∧
 (True)) ∧
 (((3 : Int) = Prod.snd (eyC t m f)) ∧
 (True))) ∧
 (True))
 ((((tabB t = Bool.true) ∧
 (matB (↑(List.length t) : Int) m f = Bool.true)) ∧
 (True)) ∧
 (BrP (!Option.isNone (ccF t m f))
 ((((([] : List (List Int)) = Prod.fst (eyC t m f)) ∧
 (True)) ∧
 (((5 : Int) = Prod.snd (eyC t m f)) ∧
 (True))) ∧
 (True))
 ((((tabB t = Bool.true) ∧
 (matB (↑(List.length t) : Int) m f = Bool.true)) ∧
 (True)) ∧
 ((((exR t m f = Prod.fst (eyC t m f)) ∧
 (True)) ∧
 (((0 : Int) = Prod.snd (eyC t m f)) ∧
 (True))) ∧
 (True)))))))))))
theorem iExtC_vc (t : List (List Int)) (m : Int) (f : List (List Int)) : runF Try.prog (gam iExtC_G) noWr noAnn Try.f9 (bodyOf Try.f9) [] [.agg [.rows .i64 (t)], .c (.int .i64 (m)), .c (.rows .i64 (f))] (iExtC_p t m f) = iExtC_V t m f := by kernel_rfl
theorem iExtC_ok (t : List (List Int)) (m : Int) (f : List (List Int)) (hpre : (iExtC_p t m f).pre) : iExtC_V t m f := by
  simp only [iExtC_p, iExtC_V, BrP_iff, true_and, and_true, decide_eq_true_eq, decide_eq_false_iff_not, bne_iff_ne, beq_iff_eq, bne_eq_false_iff_eq, beq_eq_false_iff_ne, Bool.not_eq_true, Bool.not_eq_false, Bool.not_true, Bool.not_false, Bool.not_eq_eq_eq_not, Int.toNat_natCast, List.length_append, List.length_take, List.length_replicate, List.length_set, List.length_map, List.length_drop, List.length_nil, List.length_cons, markL_length, inB, InR, room, bdsOk] at hpre ⊢
  refine ⟨hpre.1, fun h => by simp [eyC, h], fun hr => ⟨hpre.2, fun h => by simp [eyC, hr, h], fun hm => ?_⟩⟩
  have hn := nm_in (cycB_tab hr) hm
  refine ⟨by omega, fun hb => ?_, fun hb => ⟨⟨cycB_tab hr, hm⟩, fun hf => ?_, fun hf => ⟨⟨cycB_tab hr, hm⟩, ?_⟩⟩⟩
  · rw [eyC, if_pos hr, if_pos hm, if_pos hb]; exact ⟨rfl, rfl⟩
  · rw [eyC, if_pos hr, if_pos hm, if_neg hb, hf]; exact ⟨rfl, rfl⟩
  · rw [eyC, if_pos hr, if_pos hm, if_neg hb, hf]; exact ⟨rfl, rfl⟩
theorem iExtC_fits : Fits Try.prog 9 ⟨[], iExtC_ct⟩ := by
  refine fits_fn (Γ := gam iExtC_G) (gok_cons IsCycleSet_fits (gok_cons isMatrix_fits (gok_cons isCycleCocycle_fits (gok_cons extension_fits gok_nil)))) Try.func9 (by kernel_rfl) (by kernel_rfl) (by kernel_rfl) fun ds p h hp => ?_
  unfold iExtC_ct at h
  split at h
  · cases h
    exact ⟨noWr, noAnn, by rw [iExtC_vc]; exact iExtC_ok _ _ _  hp⟩
  · cases h

def sExtC_p (t : List (List Int)) (m : Int) (f : List (List Int)) : Post := ⟨roomR t ∧ roomR f, .tup [.inr [.rows 41 2 .i64 ((eyC t m f).1)], .inl (.int .i64 ((eyC t m f).2))], []⟩
def sExtC_ct : List AD → Option Post
  | [.agg [.rows .i64 (t)], .c (.int .i64 (m)), .c (.rows .i64 (f))] => some (sExtC_p t m f)
  | _ => none
def sExtC_G : List (Nat × Ctr) := [(12, ⟨[], sIsCC_ct⟩), (38, ⟨[], l14Extend_ct⟩)]
def sExtC_V (t : List (List Int)) (m : Int) (f : List (List Int)) : Prop :=
  ((((roomR t) ∧
 (roomR f)) ∧
 (True)) ∧
 (BrP (Prod.snd (ccC t m f) == (0 : Int))
 ((InR ((↑(List.length t) : Int) * m)) ∧
 (BrP (Decidable.decide ((12 : Int) < (↑(List.length t) : Int) * m))
 ((((([] : List (List Int)) = Prod.fst (eyC t m f)) ∧
 (True)) ∧
 (((3 : Int) = Prod.snd (eyC t m f)) ∧
 (True))) ∧
 (True))
 (BrP (Prod.snd (ccC t m f) == (0 : Int))
 (BrP (!Prod.fst (ccC t m f))
 ((((([] : List (List Int)) = Prod.fst (eyC t m f)) ∧
 (True)) ∧
 (((5 : Int) = Prod.snd (eyC t m f)) ∧
 (True))) ∧
 (True))
 (BrP (Prod.snd (ccC t m f) != (0 : Int))
 ((((([] : List (List Int)) = Prod.fst (eyC t m f)) ∧
 (True)) ∧
 ((Prod.snd (ccC t m f) = Prod.snd (eyC t m f)) ∧
 (True))) ∧
 (True))
 ((((tabB t = Bool.true) ∧
 (matB (↑(List.length t) : Int) m f = Bool.true)) ∧
 (True)) ∧
 ((((exR t m f = Prod.fst (eyC t m f)) ∧
 (True)) ∧
 (((0 : Int) = Prod.snd (eyC t m f)) ∧
 (True))) ∧
 (True)))))
 (BrP (Prod.snd (ccC t m f) != (0 : Int))
 ((((([] : List (List Int)) = Prod.fst (eyC t m f)) ∧
 (True)) ∧
 ((Prod.snd (ccC t m f) = Prod.snd (eyC t m f)) ∧
 (True))) ∧
 (True))
 ((((tabB t = Bool.true) ∧
 (matB (↑(List.length t) : Int) m f = Bool.true)) ∧
 (True)) ∧
 ((((exR t m f = Prod.fst (eyC t m f)) ∧
 (True)) ∧
 (((0 : Int) = Prod.snd (eyC t m f)) ∧
 (True))) ∧
 (True)))))))
 (BrP (Prod.snd (ccC t m f) == (0 : Int))
 (BrP (!Prod.fst (ccC t m f))
 ((((([] : List (List Int)) = Prod.fst (eyC t m f)) ∧
 (True)) ∧
 (((5 : Int) = Prod.snd (eyC t m f)) ∧
 (True))) ∧
 (True))
 (BrP (Prod.snd (ccC t m f) != (0 : Int))
 ((((([] : List (List Int)) = Prod.fst (eyC t m f)) ∧
 (True)) ∧
 ((Prod.snd (ccC t m f) = Prod.snd (eyC t m f)) ∧
 (True))) ∧
 (True))
 ((((tabB t = Bool.true) ∧
 (matB (↑(List.length t) : Int) m f = Bool.true)) ∧
 (True)) ∧
 ((((exR t m f = Prod.fst (eyC t m f)) ∧
 (True)) ∧
 (((0 : Int) = Prod.snd (eyC t m f)) ∧
 (True))) ∧
 (True)))))
 (BrP (Prod.snd (ccC t m f) != (0 : Int))
 ((((([] : List (List Int)) = Prod.fst (eyC t m f)) ∧
 (True)) ∧
 ((Prod.snd (ccC t m f) = Prod.snd (eyC t m f)) ∧
 (True))) ∧
 (True))
 ((((tabB t = Bool.true) ∧
 (matB (↑(List.length t) : Int) m f = Bool.true)) ∧
 (True)) ∧
 ((((exR t m f = Prod.fst (eyC t m f)) ∧
 (True)) ∧
 (((0 : Int) = Prod.snd (eyC t m f)) ∧
 (True))) ∧
 (True)))))))
theorem sExtC_vc (t : List (List Int)) (m : Int) (f : List (List Int)) : runF Try.prog (gam sExtC_G) noWr noAnn Try.f10 (bodyOf Try.f10) [] [.agg [.rows .i64 (t)], .c (.int .i64 (m)), .c (.rows .i64 (f))] (sExtC_p t m f) = sExtC_V t m f := by kernel_rfl
theorem sExtC_ok (t : List (List Int)) (m : Int) (f : List (List Int)) (hpre : (sExtC_p t m f).pre) : sExtC_V t m f := by
  simp only [sExtC_p, sExtC_V, BrP_iff, true_and, and_true, decide_eq_true_eq, decide_eq_false_iff_not, bne_iff_ne, beq_iff_eq, bne_eq_false_iff_eq, beq_eq_false_iff_ne, Bool.not_eq_true, Bool.not_eq_false, Bool.not_true, Bool.not_false, Bool.not_eq_eq_eq_not, Int.toNat_natCast, List.length_append, List.length_take, List.length_replicate, List.length_set, List.length_map, List.length_drop, List.length_nil, List.length_cons, markL_length, inB, InR, room, bdsOk] at hpre ⊢
  refine ⟨hpre, ?_⟩
  by_cases hr : cycB t = true
  · by_cases hm : matB (t.length : Int) m f = true
    · have e : ccC t m f = ((ccF t m f).isNone, 0) := by rw [ccC, if_pos hr, if_pos hm]
      have hn := nm_in (cycB_tab hr) hm
      rw [e]
      by_cases hb : 12 < (t.length : Int) * m
      · rw [eyC, if_pos hr, if_pos hm, if_pos hb]
        exact ⟨fun _ => ⟨by omega, fun _ => ⟨rfl, rfl⟩, fun h => absurd hb h⟩, fun h => absurd rfl h⟩
      · rw [eyC, if_pos hr, if_pos hm, if_neg hb]
        cases hf : (ccF t m f).isNone with
        | false => exact ⟨fun _ => ⟨by omega, fun h => absurd h hb, fun _ => ⟨fun _ => ⟨fun _ => ⟨rfl, rfl⟩, fun h => (by cases h)⟩, fun h => absurd rfl h⟩⟩, fun h => absurd rfl h⟩
        | true => exact ⟨fun _ => ⟨by omega, fun h => absurd h hb, fun _ => ⟨fun _ => ⟨fun h => (by cases h), fun _ => ⟨fun h => absurd rfl h, fun _ => ⟨⟨cycB_tab hr, hm⟩, rfl, rfl⟩⟩⟩, fun h => absurd rfl h⟩⟩, fun h => absurd rfl h⟩
    · have e : ccC t m f = (false, 2) := by rw [ccC, if_pos hr, if_neg hm]
      have x : eyC t m f = ([], 2) := by rw [eyC, if_pos hr, if_neg hm]
      rw [e, x]
      exact ⟨fun h => absurd h (by simp), fun _ => ⟨fun h => absurd h (by simp), fun _ => ⟨fun _ => ⟨rfl, rfl⟩, fun h => absurd h (by simp)⟩⟩⟩
  · have e : ccC t m f = (false, 1) := by rw [ccC, if_neg hr]
    have x : eyC t m f = ([], 1) := by rw [eyC, if_neg hr]
    rw [e, x]
    exact ⟨fun h => absurd h (by simp), fun _ => ⟨fun h => absurd h (by simp), fun _ => ⟨fun _ => ⟨rfl, rfl⟩, fun h => absurd h (by simp)⟩⟩⟩
theorem sExtC_fits : Fits Try.prog 10 ⟨[], sExtC_ct⟩ := by
  refine fits_fn (Γ := gam sExtC_G) (gok_cons sIsCC_fits (gok_cons l14Extend_fits gok_nil)) Try.func10 (by kernel_rfl) (by kernel_rfl) (by kernel_rfl) fun ds p h hp => ?_
  unfold sExtC_ct at h
  split at h
  · cases h
    exact ⟨noWr, noAnn, by rw [sExtC_vc]; exact sExtC_ok _ _ _  hp⟩
  · cases h


end Go.Sx

