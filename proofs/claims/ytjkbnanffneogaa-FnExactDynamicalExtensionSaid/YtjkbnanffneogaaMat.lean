/- Contracts of the functions on matrices of numbers, and those on the way of ShiftMatrix. -/
import Derived.Test.YtjkbnanffneogaaCob
open Go Go.Proofs
namespace Go.Sx
set_option linter.unusedSimpArgs false
set_option linter.unusedVariables false

def matsB (n m : Int) (f : List (List Int)) : Bool := decide ((f.length : Int) = n) && f.all (numsB n m)
def matB (n m : Int) (f : List (List Int)) : Bool := decide (1 ≤ m ∧ m ≤ 12) && matsB n m f

theorem matB_of {n m : Int} {f : List (List Int)} (h : matB n m f = true) : 1 ≤ m ∧ m ≤ 12 ∧ (f.length : Int) = n ∧ ∀ x, x < f.length → ((f.getD x []).length : Int) = n ∧ ∀ y, y < (f.getD x []).length → 0 ≤ (f.getD x []).getD y 0 ∧ (f.getD x []).getD y 0 ≤ m - 1 := by
  simp only [matB, matsB, Bool.and_eq_true, decide_eq_true_eq] at h
  refine ⟨by omega, by omega, by omega, fun x hx => ?_⟩
  have h1 := allG_get [] h.2.2 x hx
  simp only [numsB, Bool.and_eq_true, decide_eq_true_eq] at h1
  exact ⟨h1.2, fun y hy => allW_get h1.1 y hy⟩

def l14Matrix_p (n : Int) (m : Int) (f : List (List Int)) : Post := ⟨1 ≤ m ∧ m ≤ 12 ∧ roomR f, .c (.bool (matsB n m f)), []⟩
def l14Matrix_ct : List AD → Option Post
  | [.c (.int .i64 (n)), .c (.int .i64 (m)), .c (.rows .i64 (f))] => some (l14Matrix_p n m f)
  | _ => none
def l14Matrix_ann (n : Int) (m : Int) (f : List (List Int)) : Nat → Option Ann
  | 0 => some (Ann.mk ((Nat)) (fun i => ⟨[(0, .c (.int .i64 (n))), (1, .c (.int .i64 (m))), (2, .c (.ro (.rows .i64 (f)))), (7, .c (.int .i64 ((i : Int))))], []⟩) (fun i => i ≤ f.length ∧ f.all (numsB n m) = (f.drop i).all (numsB n m)) (fun i => f.length - i) (fun _ => noAnn))
  | _ => none
def l14Matrix_G : List (Nat × Ctr) := [(96, ⟨[], l14Numbers_ct⟩)]
def l14Matrix_V (n : Int) (m : Int) (f : List (List Int)) : Prop :=
  (BrP ((↑(List.length f) : Int) != n)
 ((Bool.false = matsB n m f) ∧
 (True))
 ((∃ x0 : Nat, (((x0 ≤ List.length f) ∧
 (List.all f (numsB n m) = List.all (List.drop x0 f) (numsB n m))) ∧
 ((n = n) ∧
 ((m = m) ∧
 ((f = f) ∧
 ((0 : Int) = (↑x0 : Int))))))) ∧
 (∀ x1 : Nat, (((x1 ≤ List.length f) ∧
 (List.all f (numsB n m) = List.all (List.drop x1 f) (numsB n m))) →
 (BrP (Decidable.decide ((↑x1 : Int) < (↑(List.length f) : Int)))
 ((inB (↑x1 : Int) (List.length f)) ∧
 (((((1 : Int) ≤ m) ∧
 ((m ≤ (12 : Int)) ∧
 (room (List.length (List.getD f (Int.toNat (↑x1 : Int)) []))))) ∧
 (True)) ∧
 (BrP (!numsB n m (List.getD f (Int.toNat (↑x1 : Int)) []))
 ((Bool.false = matsB n m f) ∧
 (True))
 ((InR ((↑x1 : Int) + (1 : Int))) ∧
 (∃ x2 : Nat, (((x2 ≤ List.length f) ∧
 (List.all f (numsB n m) = List.all (List.drop x2 f) (numsB n m))) ∧
 ((List.length f - x2 < List.length f - x1) ∧
 ((n = n) ∧
 ((m = m) ∧
 ((f = f) ∧
 ((↑x1 : Int) + (1 : Int) = (↑x2 : Int))))))))))))
 ((Bool.true = matsB n m f) ∧
 (True)))))))
theorem l14Matrix_vc (n : Int) (m : Int) (f : List (List Int)) : runF Try.prog (gam l14Matrix_G) noWr (l14Matrix_ann n m f) Try.f81 (bodyOf Try.f81) [] [.c (.int .i64 (n)), .c (.int .i64 (m)), .c (.rows .i64 (f))] (l14Matrix_p n m f) = l14Matrix_V n m f := by kernel_rfl
theorem l14Matrix_ok (n : Int) (m : Int) (f : List (List Int)) (hpre : (l14Matrix_p n m f).pre) : l14Matrix_V n m f := by
  simp only [l14Matrix_p, l14Matrix_V, BrP_iff, true_and, and_true, decide_eq_true_eq, decide_eq_false_iff_not, bne_iff_ne, beq_iff_eq, bne_eq_false_iff_eq, beq_eq_false_iff_ne, Bool.not_eq_true, Bool.not_eq_false, Bool.not_true, Bool.not_false, Bool.not_eq_eq_eq_not, Int.toNat_natCast, List.length_append, List.length_take, List.length_replicate, List.length_set, List.length_map, List.length_drop, List.length_nil, List.length_cons, markL_length, inB, InR, room, bdsOk] at hpre ⊢
  obtain ⟨h1, h2, h3⟩ := hpre
  have h4 := h3.1
  refine ⟨fun h => by rw [matsB, decide_eq_false h]; rfl, fun h => ⟨⟨0, ⟨by omega, rfl⟩, rfl⟩, fun i ⟨hi, he⟩ => ⟨fun h5 => ?_, fun h5 => ?_⟩⟩⟩
  · have hd := allG_drop [] (numsB n m) (show i < f.length by omega)
    refine ⟨by omega, ⟨h1, h2, roomR_get h3 i (by omega)⟩, fun h6 => ?_, fun h6 => ⟨by omega, i + 1, ⟨by omega, ?_⟩, by omega, by omega⟩⟩
    · rw [matsB, he, hd, h6]; simp
    · rw [he, hd, h6]; rfl
  · rw [matsB, he, decide_eq_true h, List.drop_of_length_le (by omega)]; rfl
theorem l14Matrix_fits : Fits Try.prog 81 ⟨[], l14Matrix_ct⟩ := by
  refine fits_fn (Γ := gam l14Matrix_G) (gok_cons l14Numbers_fits gok_nil) Try.func81 (by kernel_rfl) (by kernel_rfl) (by kernel_rfl) fun ds p h hp => ?_
  unfold l14Matrix_ct at h
  split at h
  · cases h
    exact ⟨noWr, l14Matrix_ann _ _ _ , by rw [l14Matrix_vc]; exact l14Matrix_ok _ _ _  hp⟩
  · cases h

def l14Code_p (n : Int) (m : Int) (f : List (List Int)) : Post := ⟨roomR f, .c (.int .i64 (if matB n m f = true then 0 else 2)), []⟩
def l14Code_ct : List AD → Option Post
  | [.c (.int .i64 (n)), .c (.int .i64 (m)), .c (.rows .i64 (f))] => some (l14Code_p n m f)
  | _ => none
def l14Code_G : List (Nat × Ctr) := [(54, ⟨[], l01In_ct⟩), (81, ⟨[], l14Matrix_ct⟩)]
def l14Code_V (n : Int) (m : Int) (f : List (List Int)) : Prop :=
  (((True) ∧
 (True)) ∧
 (BrP (!Decidable.decide ((1 : Int) ≤ m ∧ m ≤ (12 : Int)))
 (((2 : Int) = if matB n m f = Bool.true then (0 : Int) else (2 : Int)) ∧
 (True))
 (((((1 : Int) ≤ m) ∧
 ((m ≤ (12 : Int)) ∧
 (roomR f))) ∧
 (True)) ∧
 (BrP (!matsB n m f)
 (((2 : Int) = if matB n m f = Bool.true then (0 : Int) else (2 : Int)) ∧
 (True))
 (((0 : Int) = if matB n m f = Bool.true then (0 : Int) else (2 : Int)) ∧
 (True))))))
theorem l14Code_vc (n : Int) (m : Int) (f : List (List Int)) : runF Try.prog (gam l14Code_G) noWr noAnn Try.f40 (bodyOf Try.f40) [] [.c (.int .i64 (n)), .c (.int .i64 (m)), .c (.rows .i64 (f))] (l14Code_p n m f) = l14Code_V n m f := by kernel_rfl
theorem l14Code_ok (n : Int) (m : Int) (f : List (List Int)) (hpre : (l14Code_p n m f).pre) : l14Code_V n m f := by
  simp only [l14Code_p, l14Code_V, BrP_iff, true_and, and_true, decide_eq_true_eq, decide_eq_false_iff_not, bne_iff_ne, beq_iff_eq, bne_eq_false_iff_eq, beq_eq_false_iff_ne, Bool.not_eq_true, Bool.not_eq_false, Bool.not_true, Bool.not_false, Bool.not_eq_eq_eq_not, Int.toNat_natCast, List.length_append, List.length_take, List.length_replicate, List.length_set, List.length_map, List.length_drop, List.length_nil, List.length_cons, markL_length, inB, InR, room, bdsOk] at hpre ⊢
  refine ⟨fun h => by rw [matB, decide_eq_false h]; rfl, fun h => ⟨⟨h.1, h.2, hpre⟩, fun h2 => by rw [matB, h2, Bool.and_false]; rfl, fun h2 => by rw [matB, h2, decide_eq_true h]; rfl⟩⟩
theorem l14Code_fits : Fits Try.prog 40 ⟨[], l14Code_ct⟩ := by
  refine fits_fn (Γ := gam l14Code_G) (gok_cons l01In_fits (gok_cons l14Matrix_fits gok_nil)) Try.func40 (by kernel_rfl) (by kernel_rfl) (by kernel_rfl) fun ds p h hp => ?_
  unfold l14Code_ct at h
  split at h
  · cases h
    exact ⟨noWr, noAnn, by rw [l14Code_vc]; exact l14Code_ok _ _ _  hp⟩
  · cases h

def isMatrix1_p (r : List Int) (n : Int) (m : Int) : Post := ⟨r.length ≤ 1099511627776, .c (.bool (!shiftB n m r)), []⟩
def isMatrix1_ct : List AD → Option Post
  | [.c (.ints .i64 (r)), .box [.int .i64 (n)], .box [.int .i64 (m)]] => some (isMatrix1_p r n m)
  | _ => none
def isMatrix1_G : List (Nat × Ctr) := [(74, ⟨[], isShift_ct⟩)]
def isMatrix1_V (r : List Int) (n : Int) (m : Int) : Prop :=
  (((room (List.length r)) ∧
 (True)) ∧
 (((!shiftB n m r) = !shiftB n m r) ∧
 (True)))
theorem isMatrix1_vc (r : List Int) (n : Int) (m : Int) : runF Try.prog (gam isMatrix1_G) noWr noAnn Try.f73 (bodyOf Try.f73) [] [.c (.ints .i64 (r)), .box [.int .i64 (n)], .box [.int .i64 (m)]] (isMatrix1_p r n m) = isMatrix1_V r n m := by kernel_rfl
theorem isMatrix1_ok (r : List Int) (n : Int) (m : Int) (hpre : (isMatrix1_p r n m).pre) : isMatrix1_V r n m := by
  simp only [isMatrix1_p, isMatrix1_V, BrP_iff, true_and, and_true, decide_eq_true_eq, decide_eq_false_iff_not, bne_iff_ne, beq_iff_eq, bne_eq_false_iff_eq, beq_eq_false_iff_ne, Bool.not_eq_true, Bool.not_eq_false, Bool.not_true, Bool.not_false, Bool.not_eq_eq_eq_not, Int.toNat_natCast, List.length_append, List.length_take, List.length_replicate, List.length_set, List.length_map, List.length_drop, List.length_nil, List.length_cons, markL_length, inB, InR, room, bdsOk] at hpre ⊢
  exact hpre
theorem isMatrix1_fits : Fits Try.prog 73 ⟨[], isMatrix1_ct⟩ := by
  refine fits_fn (Γ := gam isMatrix1_G) (gok_cons isShift_fits gok_nil) Try.func73 (by kernel_rfl) (by kernel_rfl) (by kernel_rfl) fun ds p h hp => ?_
  unfold isMatrix1_ct at h
  split at h
  · cases h
    exact ⟨noWr, noAnn, by rw [isMatrix1_vc]; exact isMatrix1_ok _ _ _  hp⟩
  · cases h

def isMatrix_p (n : Int) (m : Int) (f : List (List Int)) : Post := ⟨roomR f, .c (.bool (matB n m f)), []⟩
def isMatrix_ct : List AD → Option Post
  | [.c (.int .i64 (n)), .c (.int .i64 (m)), .c (.rows .i64 (f))] => some (isMatrix_p n m f)
  | _ => none
def isMatrix_G : List (Nat × Ctr) := [(71, ⟨[], within_ct⟩), (72, ⟨[], ContainsFuncR_ct⟩), (73, ⟨[], isMatrix1_ct⟩)]
def isMatrix_V (n : Int) (m : Int) (f : List (List Int)) : Prop :=
  (((True) ∧
 (True)) ∧
 (BrP (Decidable.decide ((1 : Int) ≤ m ∧ m ≤ (12 : Int)))
 (BrP ((↑(List.length f) : Int) == n)
 ((((List.length f ≤ (1099511627776 : Nat)) ∧
 (∀ (x : List Int), x ∈ f → List.length x ≤ (1099511627776 : Nat))) ∧
 (True)) ∧
 (((!List.any f fun (x : List Int) => !shiftB n m x) = matB n m f) ∧
 (True)))
 ((Bool.false = matB n m f) ∧
 (True)))
 ((Bool.false = matB n m f) ∧
 (True))))
theorem isMatrix_vc (n : Int) (m : Int) (f : List (List Int)) : runF Try.prog (gam isMatrix_G) noWr noAnn Try.f35 (bodyOf Try.f35) [] [.c (.int .i64 (n)), .c (.int .i64 (m)), .c (.rows .i64 (f))] (isMatrix_p n m f) = isMatrix_V n m f := by kernel_rfl
theorem isMatrix_ok (n : Int) (m : Int) (f : List (List Int)) (hpre : (isMatrix_p n m f).pre) : isMatrix_V n m f := by
  simp only [isMatrix_p, isMatrix_V, BrP_iff, true_and, and_true, decide_eq_true_eq, decide_eq_false_iff_not, bne_iff_ne, beq_iff_eq, bne_eq_false_iff_eq, beq_eq_false_iff_ne, Bool.not_eq_true, Bool.not_eq_false, Bool.not_true, Bool.not_false, Bool.not_eq_eq_eq_not, Int.toNat_natCast, List.length_append, List.length_take, List.length_replicate, List.length_set, List.length_map, List.length_drop, List.length_nil, List.length_cons, markL_length, inB, InR, room, bdsOk] at hpre ⊢
  refine ⟨fun h => ⟨fun h2 => ⟨hpre, ?_⟩, fun h2 => by rw [matB, matsB, decide_eq_false h2, Bool.false_and, Bool.and_false]⟩, fun h => by rw [matB, decide_eq_false h]; rfl⟩
  have e : shiftB n m = numsB n m := by funext r; rw [shiftB, decide_eq_true h, Bool.true_and]
  rw [matB, matsB, decide_eq_true h, decide_eq_true h2, Bool.true_and, Bool.true_and, List.all_eq_not_any_not, Bool.not_not, e]
theorem isMatrix_fits : Fits Try.prog 35 ⟨[], isMatrix_ct⟩ := by
  refine fits_fn (Γ := gam isMatrix_G) (gok_cons within_fits (gok_cons ContainsFuncR_fits (gok_cons isMatrix1_fits gok_nil))) Try.func35 (by kernel_rfl) (by kernel_rfl) (by kernel_rfl) fun ds p h hp => ?_
  unfold isMatrix_ct at h
  split at h
  · cases h
    exact ⟨noWr, noAnn, by rw [isMatrix_vc]; exact isMatrix_ok _ _ _  hp⟩
  · cases h

theorem cbF_in {t : List (List Int)} {m : Int} {g : List Int} (h1 : tabB t = true) (h2 : shiftB (t.length : Int) m g = true) (x y : Nat) (hx : x < t.length) (hy : y < t.length) : 0 ≤ cbF t m g x y ∧ cbF t m g x y ≤ m - 1 := by
  have q := cb_in h1 h2 x y hx hy
  exact tmod_in (by omega) (by omega)

def smF (t : List (List Int)) (m : Int) (f : List (List Int)) (g : List Int) (x y : Nat) : Int := ((f.getD x []).getD y 0 + cbF t m g x y).tmod m


def smC (t : List (List Int)) (m : Int) (f : List (List Int)) (g : List Int) : List (List Int) × Int :=
  if tabB t = true then (if matB (t.length : Int) m f = true ∧ numsB (t.length : Int) m g = true then (tabR t.length (smF t m f g), 0) else ([], 2)) else ([], 1)

theorem smC_nt {t : List (List Int)} {m : Int} {f : List (List Int)} {g : List Int} (h : tabB t = false) : [] = (smC t m f g).1 ∧ 1 = (smC t m f g).2 := by simp [smC, h]
theorem smC_ns {t : List (List Int)} {m : Int} {f : List (List Int)} {g : List Int} (h : tabB t = true) (h2 : ¬ (matB (t.length : Int) m f = true ∧ numsB (t.length : Int) m g = true)) : [] = (smC t m f g).1 ∧ 2 = (smC t m f g).2 := by simp only [smC, h, if_neg h2, if_true]; exact ⟨trivial, trivial⟩
theorem smC_yes {t : List (List Int)} {m : Int} {f : List (List Int)} {g : List Int} (h : tabB t = true) (h2 : matB (t.length : Int) m f = true ∧ numsB (t.length : Int) m g = true) : tabR t.length (smF t m f g) = (smC t m f g).1 ∧ 0 = (smC t m f g).2 := by simp only [smC, h, if_pos h2, if_true]; exact ⟨trivial, trivial⟩



theorem smC_room (t : List (List Int)) (m : Int) (f : List (List Int)) (g : List Int) : roomR (smC t m f g).1 ∧ (smC t m f g).1.length ≤ 1048576 ∧ sumL (smC t m f g).1 ≤ 1048576 := by
  unfold smC
  split
  · rename_i h
    have ht := tabB_of h
    split
    · exact ⟨tabR_room _ _ (by omega), by simp only [tabR_length]; omega, Nat.le_trans (tabR_sum _ _ (by omega)) (by omega)⟩
    · exact ⟨⟨by simp, by simp⟩, by simp, by simp [sumL]⟩
  · exact ⟨⟨by simp, by simp⟩, by simp, by simp [sumL]⟩


end Go.Sx

