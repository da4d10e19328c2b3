/- Contracts of the functions on matrices of numbers, and those on the way of ShiftMatrix. -/
import Derived.Test.YtclhpegldfcemaaCob
open Go Go.Proofs
namespace Go.Sx
set_option linter.unusedSimpArgs false
set_option linter.unusedVariables false

def matsB (n m : Int) (f : List (List Int)) : Bool := decide ((f.length : Int) = n) && f.all (numsB n m)
def matB (n m : Int) (f : List (List Int)) : Bool := decide (1 ≤ m ∧ m ≤ 12) && matsB n m f

theorem matB_of {n m : Int} {f : List (List Int)} (h : matB n m f = true) : 1 ≤ m ∧ m ≤ 12 ∧ (f.length : Int) = n ∧ ∀ x, x < f.length → ((f.getD x []).length : Int) = n ∧ ∀ y, y < (f.getD x []).length → 0 ≤ (f.getD x []).getD y 0 ∧ (f.getD x []).getD y 0 ≤ m - 1 := by
  simp only [matB, matsB, Bool.and_eq_true, decide_eq_true_eq] at h
  refine ⟨by omega, by omega, by omega, fun x hx => ?_⟩
  have h1 := allG_get [] h.2.2 x hx
  simp only [numsB, Bool.and_eq_true, decide_eq_true_eq] at h1
  exact ⟨h1.2, fun y hy => allW_get h1.1 y hy⟩

def l14Matrix_p (n : Int) (m : Int) (f : List (List Int)) : Post := ⟨1 ≤ m ∧ m ≤ 12 ∧ roomR f, .c (.bool (matsB n m f)), []⟩
def l14Matrix_ct : List AD → Option Post
  | [.c (.int .i64 (n)), .c (.int .i64 (m)), .c (.rows .i64 (f))] => some (l14Matrix_p n m f)
  | _ => none
def l14Matrix_ann (n : Int) (m : Int) (f : List (List Int)) : Nat → Option Ann
  | 0 => some (Ann.mk ((Nat)) (fun i => ⟨[(0, .c (.int .i64 (n))), (1, .c (.int .i64 (m))), (2, .c (.ro (.rows .i64 (f)))), (7, .c (.int .i64 ((i : Int))))], []⟩) (fun i => i ≤ f.length ∧ f.all (numsB n m) = (f.drop i).all (numsB n m)) (fun i => f.length - i) (fun _ => noAnn))
  | _ => none
def l14Matrix_G : List (Nat × Ctr) := [(101, ⟨[], l14Numbers_ct⟩)]
def l14Matrix_V (n : Int) (m : Int) (f : List (List Int)) : Prop :=
  (BrP ((↑(List.length f) : Int) != n)
    ((Bool.false = Go.Sx.matsB n m f) ∧
    (True))
    ((∃ x0 : Nat, (((x0 ≤ List.length f) ∧
    (List.all f (Go.Sx.numsB n m) = List.all (List.drop x0 f) (Go.Sx.numsB n m))) ∧
    ((n = n) ∧
    ((m = m) ∧
    ((f = f) ∧
    ((0 : Int) = (↑x0 : Int))))))) ∧
    (∀ x1 : Nat, (((x1 ≤ List.length f) ∧
    (List.all f (Go.Sx.numsB n m) = List.all (List.drop x1 f) (Go.Sx.numsB n m))) →
    (BrP (Decidable.decide ((↑x1 : Int) < (↑(List.length f) : Int)))
      ((Go.Sx.inB (↑x1 : Int) (List.length f)) ∧
      (((((1 : Int) ≤ m) ∧
      ((m ≤ (12 : Int)) ∧
      (Go.Sx.room (List.length (List.getD f (Int.toNat (↑x1 : Int)) []))))) ∧
      (True)) ∧
      (BrP (!Go.Sx.numsB n m (List.getD f (Int.toNat (↑x1 : Int)) []))
        ((Bool.false = Go.Sx.matsB n m f) ∧
        (True))
        ((Go.Sx.InR ((↑x1 : Int) + (1 : Int))) ∧
        (∃ x2 : Nat, (((x2 ≤ List.length f) ∧
        (List.all f (Go.Sx.numsB n m) = List.all (List.drop x2 f) (Go.Sx.numsB n m))) ∧
        ((List.length f - x2 < List.length f - x1) ∧
        ((n = n) ∧
        ((m = m) ∧
        ((f = f) ∧
        ((↑x1 : Int) + (1 : Int) = (↑x2 : Int))))))))))))
      ((Bool.true = Go.Sx.matsB n m f) ∧
      (True)))))))
theorem l14Matrix_vc (n : Int) (m : Int) (f : List (List Int)) : runF Try.prog (gam l14Matrix_G) noWr (l14Matrix_ann n m f) Try.f182 (bodyOf Try.f182) [] [.c (.int .i64 (n)), .c (.int .i64 (m)), .c (.rows .i64 (f))] (l14Matrix_p n m f) = l14Matrix_V n m f := by kernel_rfl
theorem l14Matrix_ok (n : Int) (m : Int) (f : List (List Int)) (hpre : (l14Matrix_p n m f).pre) : l14Matrix_V n m f := by
  simp only [l14Matrix_p, l14Matrix_V, BrP_iff, true_and, and_true, decide_eq_true_eq, decide_eq_false_iff_not, bne_iff_ne, beq_iff_eq, bne_eq_false_iff_eq, beq_eq_false_iff_ne, Bool.not_eq_true, Bool.not_eq_false, Bool.not_true, Bool.not_false, Bool.not_eq_eq_eq_not, Int.toNat_natCast, List.length_append, List.length_take, List.length_replicate, List.length_set, List.length_map, List.length_drop, List.length_nil, List.length_cons, markL_length, inB, InR, room, bdsOk] at hpre ⊢
  obtain ⟨h1, h2, h3⟩ := hpre
  have h4 := h3.1
  refine ⟨fun h => by rw [matsB, decide_eq_false h]; rfl, fun h => ⟨⟨0, ⟨by omega, rfl⟩, rfl⟩, fun i ⟨hi, he⟩ => ⟨fun h5 => ?_, fun h5 => ?_⟩⟩⟩
  · have hd := allG_drop [] (numsB n m) (show i < f.length by omega)
    refine ⟨by omega, ⟨h1, h2, roomR_get h3 i (by omega)⟩, fun h6 => ?_, fun h6 => ⟨by omega, i + 1, ⟨by omega, ?_⟩, by omega, by omega⟩⟩
    · rw [matsB, he, hd, h6]; simp
    · rw [he, hd, h6]; rfl
  · rw [matsB, he, decide_eq_true h, List.drop_of_length_le (by omega)]; rfl
theorem l14Matrix_fits : Fits Try.prog 182 ⟨[], l14Matrix_ct⟩ := by
  refine fits_fn (Γ := gam l14Matrix_G) (gok_cons l14Numbers_fits gok_nil) Try.func182 (by kernel_rfl) (by kernel_rfl) (by kernel_rfl) fun ds p h hp => ?_
  unfold l14Matrix_ct at h
  split at h
  · cases h
    exact ⟨noWr, l14Matrix_ann _ _ _ , by rw [l14Matrix_vc]; exact l14Matrix_ok _ _ _  hp⟩
  · cases h

def l14Code_p (n : Int) (m : Int) (f : List (List Int)) : Post := ⟨roomR f, .c (.int .i64 (if matB n m f = true then 0 else 2)), []⟩
def l14Code_ct : List AD → Option Post
  | [.c (.int .i64 (n)), .c (.int .i64 (m)), .c (.rows .i64 (f))] => some (l14Code_p n m f)
  | _ => none
def l14Code_G : List (Nat × Ctr) := [(100, ⟨[], l01In_ct⟩), (182, ⟨[], l14Matrix_ct⟩)]
def l14Code_V (n : Int) (m : Int) (f : List (List Int)) : Prop :=
  (((True) ∧
  (True)) ∧
  (BrP (!Decidable.decide ((1 : Int) ≤ m ∧ m ≤ (12 : Int)))
    (((2 : Int) = if Go.Sx.matB n m f = Bool.true then (0 : Int) else (2 : Int)) ∧
    (True))
    (((((1 : Int) ≤ m) ∧
    ((m ≤ (12 : Int)) ∧
    (Go.Sx.roomR f))) ∧
    (True)) ∧
    (BrP (!Go.Sx.matsB n m f)
      (((2 : Int) = if Go.Sx.matB n m f = Bool.true then (0 : Int) else (2 : Int)) ∧
      (True))
      (((0 : Int) = if Go.Sx.matB n m f = Bool.true then (0 : Int) else (2 : Int)) ∧
      (True))))))
theorem l14Code_vc (n : Int) (m : Int) (f : List (List Int)) : runF Try.prog (gam l14Code_G) noWr noAnn Try.f106 (bodyOf Try.f106) [] [.c (.int .i64 (n)), .c (.int .i64 (m)), .c (.rows .i64 (f))] (l14Code_p n m f) = l14Code_V n m f := by kernel_rfl
theorem l14Code_ok (n : Int) (m : Int) (f : List (List Int)) (hpre : (l14Code_p n m f).pre) : l14Code_V n m f := by
  simp only [l14Code_p, l14Code_V, BrP_iff, true_and, and_true, decide_eq_true_eq, decide_eq_false_iff_not, bne_iff_ne, beq_iff_eq, bne_eq_false_iff_eq, beq_eq_false_iff_ne, Bool.not_eq_true, Bool.not_eq_false, Bool.not_true, Bool.not_false, Bool.not_eq_eq_eq_not, Int.toNat_natCast, List.length_append, List.length_take, List.length_replicate, List.length_set, List.length_map, List.length_drop, List.length_nil, List.length_cons, markL_length, inB, InR, room, bdsOk] at hpre ⊢
  refine ⟨fun h => by rw [matB, decide_eq_false h]; rfl, fun h => ⟨⟨h.1, h.2, hpre⟩, fun h2 => by rw [matB, h2, Bool.and_false]; rfl, fun h2 => by rw [matB, h2, decide_eq_true h]; rfl⟩⟩
theorem l14Code_fits : Fits Try.prog 106 ⟨[], l14Code_ct⟩ := by
  refine fits_fn (Γ := gam l14Code_G) (gok_cons l01In_fits (gok_cons l14Matrix_fits gok_nil)) Try.func106 (by kernel_rfl) (by kernel_rfl) (by kernel_rfl) fun ds p h hp => ?_
  unfold l14Code_ct at h
  split at h
  · cases h
    exact ⟨noWr, noAnn, by rw [l14Code_vc]; exact l14Code_ok _ _ _  hp⟩
  · cases h

def isMatrix1_p (r : List Int) (n : Int) (m : Int) : Post := ⟨r.length ≤ 1099511627776, .c (.bool (!shiftB n m r)), []⟩
def isMatrix1_ct : List AD → Option Post
  | [.c (.ints .i64 (r)), .box [.int .i64 (n)], .box [.int .i64 (m)]] => some (isMatrix1_p r n m)
  | _ => none
def isMatrix1_G : List (Nat × Ctr) := [(104, ⟨[], isShift_ct⟩)]
def isMatrix1_V (r : List Int) (n : Int) (m : Int) : Prop :=
  (((Go.Sx.room (List.length r)) ∧
  (True)) ∧
  (((!Go.Sx.shiftB n m r) = !Go.Sx.shiftB n m r) ∧
  (True)))
theorem isMatrix1_vc (r : List Int) (n : Int) (m : Int) : runF Try.prog (gam isMatrix1_G) noWr noAnn Try.f183 (bodyOf Try.f183) [] [.c (.ints .i64 (r)), .box [.int .i64 (n)], .box [.int .i64 (m)]] (isMatrix1_p r n m) = isMatrix1_V r n m := by kernel_rfl
theorem isMatrix1_ok (r : List Int) (n : Int) (m : Int) (hpre : (isMatrix1_p r n m).pre) : isMatrix1_V r n m := by
  simp only [isMatrix1_p, isMatrix1_V, BrP_iff, true_and, and_true, decide_eq_true_eq, decide_eq_false_iff_not, bne_iff_ne, beq_iff_eq, bne_eq_false_iff_eq, beq_eq_false_iff_ne, Bool.not_eq_true, Bool.not_eq_false, Bool.not_true, Bool.not_false, Bool.not_eq_eq_eq_not, Int.toNat_natCast, List.length_append, List.length_take, List.length_replicate, List.length_set, List.length_map, List.length_drop, List.length_nil, List.length_cons, markL_length, inB, InR, room, bdsOk] at hpre ⊢
  exact hpre
theorem isMatrix1_fits : Fits Try.prog 183 ⟨[], isMatrix1_ct⟩ := by
  refine fits_fn (Γ := gam isMatrix1_G) (gok_cons isShift_fits gok_nil) Try.func183 (by kernel_rfl) (by kernel_rfl) (by kernel_rfl) fun ds p h hp => ?_
  unfold isMatrix1_ct at h
  split at h
  · cases h
    exact ⟨noWr, noAnn, by rw [isMatrix1_vc]; exact isMatrix1_ok _ _ _  hp⟩
  · cases h

def isMatrix_p (n : Int) (m : Int) (f : List (List Int)) : Post := ⟨roomR f, .c (.bool (matB n m f)), []⟩
def isMatrix_ct : List AD → Option Post
  | [.c (.int .i64 (n)), .c (.int .i64 (m)), .c (.rows .i64 (f))] => some (isMatrix_p n m f)
  | _ => none
def isMatrix_G : List (Nat × Ctr) := [(116, ⟨[], within_ct⟩), (178, ⟨[], ContainsFuncR_ct⟩), (183, ⟨[], isMatrix1_ct⟩)]
def isMatrix_V (n : Int) (m : Int) (f : List (List Int)) : Prop :=
  (((True) ∧
  (True)) ∧
  (BrP (Decidable.decide ((1 : Int) ≤ m ∧ m ≤ (12 : Int)))
    (BrP ((↑(List.length f) : Int) == n)
      ((((List.length f ≤ (1099511627776 : Nat)) ∧
      (∀ (x : List Int), x ∈ f → List.length x ≤ (1099511627776 : Nat))) ∧
      (True)) ∧
      (((!List.any f fun (x : List Int) => !Go.Sx.shiftB n m x) = Go.Sx.matB n m f) ∧
      (True)))
      ((Bool.false = Go.Sx.matB n m f) ∧
      (True)))
    ((Bool.false = Go.Sx.matB n m f) ∧
    (True))))
theorem isMatrix_vc (n : Int) (m : Int) (f : List (List Int)) : runF Try.prog (gam isMatrix_G) noWr noAnn Try.f107 (bodyOf Try.f107) [] [.c (.int .i64 (n)), .c (.int .i64 (m)), .c (.rows .i64 (f))] (isMatrix_p n m f) = isMatrix_V n m f := by kernel_rfl
theorem isMatrix_ok (n : Int) (m : Int) (f : List (List Int)) (hpre : (isMatrix_p n m f).pre) : isMatrix_V n m f := by
  simp only [isMatrix_p, isMatrix_V, BrP_iff, true_and, and_true, decide_eq_true_eq, decide_eq_false_iff_not, bne_iff_ne, beq_iff_eq, bne_eq_false_iff_eq, beq_eq_false_iff_ne, Bool.not_eq_true, Bool.not_eq_false, Bool.not_true, Bool.not_false, Bool.not_eq_eq_eq_not, Int.toNat_natCast, List.length_append, List.length_take, List.length_replicate, List.length_set, List.length_map, List.length_drop, List.length_nil, List.length_cons, markL_length, inB, InR, room, bdsOk] at hpre ⊢
  refine ⟨fun h => ⟨fun h2 => ⟨hpre, ?_⟩, fun h2 => by rw [matB, matsB, decide_eq_false h2, Bool.false_and, Bool.and_false]⟩, fun h => by rw [matB, decide_eq_false h]; rfl⟩
  have e : shiftB n m = numsB n m := by funext r; rw [shiftB, decide_eq_true h, Bool.true_and]
  rw [matB, matsB, decide_eq_true h, decide_eq_true h2, Bool.true_and, Bool.true_and, List.all_eq_not_any_not, Bool.not_not, e]
theorem isMatrix_fits : Fits Try.prog 107 ⟨[], isMatrix_ct⟩ := by
  refine fits_fn (Γ := gam isMatrix_G) (gok_cons within_fits (gok_cons ContainsFuncR_fits (gok_cons isMatrix1_fits gok_nil))) Try.func107 (by kernel_rfl) (by kernel_rfl) (by kernel_rfl) fun ds p h hp => ?_
  unfold isMatrix_ct at h
  split at h
  · cases h
    exact ⟨noWr, noAnn, by rw [isMatrix_vc]; exact isMatrix_ok _ _ _  hp⟩
  · cases h

theorem cbF_in {t : List (List Int)} {m : Int} {g : List Int} (h1 : tabB t = true) (h2 : shiftB (t.length : Int) m g = true) (x y : Nat) (hx : x < t.length) (hy : y < t.length) : 0 ≤ cbF t m g x y ∧ cbF t m g x y ≤ m - 1 := by
  have q := cb_in h1 h2 x y hx hy
  exact tmod_in (by omega) (by omega)

def smF (t : List (List Int)) (m : Int) (f : List (List Int)) (g : List Int) (x y : Nat) : Int := ((f.getD x []).getD y 0 + cbF t m g x y).tmod m

def ShiftMatrix1_p (x : Int) (y : Int) (f : List (List Int)) (b : List (List Int)) (m : Int) : Post := ⟨0 ≤ x ∧ x < (f.length : Int) ∧ 0 ≤ y ∧ y < ((f.getD x.toNat []).length : Int) ∧ x < (b.length : Int) ∧ y < ((b.getD x.toNat []).length : Int) ∧ 1 ≤ m ∧ 0 ≤ (f.getD x.toNat []).getD y.toNat 0 ∧ (f.getD x.toNat []).getD y.toNat 0 ≤ 12 ∧ 0 ≤ (b.getD x.toNat []).getD y.toNat 0 ∧ (b.getD x.toNat []).getD y.toNat 0 ≤ 12, .c (.int .i64 (((f.getD x.toNat []).getD y.toNat 0 + (b.getD x.toNat []).getD y.toNat 0).tmod m)), []⟩
def ShiftMatrix1_ct : List AD → Option Post
  | [.c (.int .i64 (x)), .c (.int .i64 (y)), .box [.rows .i64 (f)], .box [.rows .i64 (b)], .box [.int .i64 (m)]] => some (ShiftMatrix1_p x y f b m)
  | _ => none
def ShiftMatrix1_G : List (Nat × Ctr) := []
def ShiftMatrix1_V (x : Int) (y : Int) (f : List (List Int)) (b : List (List Int)) (m : Int) : Prop :=
  ((Go.Sx.inB x (List.length f)) ∧
  ((Go.Sx.inB y (List.length (List.getD f (Int.toNat x) []))) ∧
  ((Go.Sx.inB x (List.length b)) ∧
  ((Go.Sx.inB y (List.length (List.getD b (Int.toNat x) []))) ∧
  ((Go.Sx.InR (List.getD (List.getD f (Int.toNat x) []) (Int.toNat y) (0 : Int) + List.getD (List.getD b (Int.toNat x) []) (Int.toNat y) (0 : Int))) ∧
  ((m ≠ (0 : Int)) ∧
  ((Int.tmod (List.getD (List.getD f (Int.toNat x) []) (Int.toNat y) (0 : Int) + List.getD (List.getD b (Int.toNat x) []) (Int.toNat y) (0 : Int)) m = Int.tmod (List.getD (List.getD f (Int.toNat x) []) (Int.toNat y) (0 : Int) + List.getD (List.getD b (Int.toNat x) []) (Int.toNat y) (0 : Int)) m) ∧
  (True))))))))
theorem ShiftMatrix1_vc (x : Int) (y : Int) (f : List (List Int)) (b : List (List Int)) (m : Int) : runF Try.prog (gam ShiftMatrix1_G) noWr noAnn Try.f109 (bodyOf Try.f109) [] [.c (.int .i64 (x)), .c (.int .i64 (y)), .box [.rows .i64 (f)], .box [.rows .i64 (b)], .box [.int .i64 (m)]] (ShiftMatrix1_p x y f b m) = ShiftMatrix1_V x y f b m := by kernel_rfl
theorem ShiftMatrix1_ok (x : Int) (y : Int) (f : List (List Int)) (b : List (List Int)) (m : Int) (hpre : (ShiftMatrix1_p x y f b m).pre) : ShiftMatrix1_V x y f b m := by
  simp only [ShiftMatrix1_p, ShiftMatrix1_V, BrP_iff, true_and, and_true, decide_eq_true_eq, decide_eq_false_iff_not, bne_iff_ne, beq_iff_eq, bne_eq_false_iff_eq, beq_eq_false_iff_ne, Bool.not_eq_true, Bool.not_eq_false, Bool.not_true, Bool.not_false, Bool.not_eq_eq_eq_not, Int.toNat_natCast, List.length_append, List.length_take, List.length_replicate, List.length_set, List.length_map, List.length_drop, List.length_nil, List.length_cons, markL_length, inB, InR, room, bdsOk] at hpre ⊢
  omega
theorem ShiftMatrix1_fits : Fits Try.prog 109 ⟨[], ShiftMatrix1_ct⟩ := by
  refine fits_fn (Γ := gam ShiftMatrix1_G) gok_nil Try.func109 (by kernel_rfl) (by kernel_rfl) (by kernel_rfl) fun ds p h hp => ?_
  unfold ShiftMatrix1_ct at h
  split at h
  · cases h
    exact ⟨noWr, noAnn, by rw [ShiftMatrix1_vc]; exact ShiftMatrix1_ok _ _ _ _ _  hp⟩
  · cases h

def smC (t : List (List Int)) (m : Int) (f : List (List Int)) (g : List Int) : List (List Int) × Int :=
  if tabB t = true then (if matB (t.length : Int) m f = true ∧ numsB (t.length : Int) m g = true then (tabR t.length (smF t m f g), 0) else ([], 2)) else ([], 1)

theorem smC_nt {t : List (List Int)} {m : Int} {f : List (List Int)} {g : List Int} (h : tabB t = false) : [] = (smC t m f g).1 ∧ 1 = (smC t m f g).2 := by simp [smC, h]
theorem smC_ns {t : List (List Int)} {m : Int} {f : List (List Int)} {g : List Int} (h : tabB t = true) (h2 : ¬ (matB (t.length : Int) m f = true ∧ numsB (t.length : Int) m g = true)) : [] = (smC t m f g).1 ∧ 2 = (smC t m f g).2 := by simp only [smC, h, if_neg h2, if_true]; exact ⟨trivial, trivial⟩
theorem smC_yes {t : List (List Int)} {m : Int} {f : List (List Int)} {g : List Int} (h : tabB t = true) (h2 : matB (t.length : Int) m f = true ∧ numsB (t.length : Int) m g = true) : tabR t.length (smF t m f g) = (smC t m f g).1 ∧ 0 = (smC t m f g).2 := by simp only [smC, h, if_pos h2, if_true]; exact ⟨trivial, trivial⟩

def iShiftM_p (t : List (List Int)) (m : Int) (f : List (List Int)) (g : List Int) : Post := ⟨roomR t ∧ roomR f ∧ g.length ≤ 1099511627776, .tup [.inl (.rows 23 2 .i64 ((smC t m f g).1)), .inl (.int .i64 ((smC t m f g).2))], []⟩
def iShiftM_ct : List AD → Option Post
  | [.c (.rows .i64 (t)), .c (.int .i64 (m)), .c (.rows .i64 (f)), .c (.ints .i64 (g))] => some (iShiftM_p t m f g)
  | _ => none
def iShiftM_G : List (Nat × Ctr) := [(103, ⟨[], IsTable_ct⟩), (107, ⟨[], isMatrix_ct⟩), (104, ⟨[], isShift_ct⟩), (105, ⟨[], coboundary_ct⟩), (108, ⟨[], tableBy_ct⟩), (109, ⟨[], ShiftMatrix1_ct⟩)]
def iShiftM_V (t : List (List Int)) (m : Int) (f : List (List Int)) (g : List Int) : Prop :=
  (((Go.Sx.roomR t) ∧
  (True)) ∧
  (BrP (!Go.Sx.tabB t)
    ((([] = Prod.fst (Go.Sx.smC t m f g)) ∧
    (((1 : Int) = Prod.snd (Go.Sx.smC t m f g)) ∧
    (True))) ∧
    (True))
    (((Go.Sx.roomR f) ∧
    (True)) ∧
    (BrP (!Go.Sx.matB (↑(List.length t) : Int) m f)
      ((([] = Prod.fst (Go.Sx.smC t m f g)) ∧
      (((2 : Int) = Prod.snd (Go.Sx.smC t m f g)) ∧
      (True))) ∧
      (True))
      (((Go.Sx.room (List.length g)) ∧
      (True)) ∧
      (BrP (!Go.Sx.shiftB (↑(List.length t) : Int) m g)
        ((([] = Prod.fst (Go.Sx.smC t m f g)) ∧
        (((2 : Int) = Prod.snd (Go.Sx.smC t m f g)) ∧
        (True))) ∧
        (True))
        ((((Go.Sx.tabB t = Bool.true) ∧
        (Go.Sx.shiftB (↑(List.length t) : Int) m g = Bool.true)) ∧
        (True)) ∧
        (((((0 : Int) ≤ (↑(List.length t) : Int)) ∧
        (((↑(List.length t) : Int) ≤ (144 : Int)) ∧
        (∀ (x y : Int), (0 : Int) ≤ x → x < (↑(List.length t) : Int) → (0 : Int) ≤ y → y < (↑(List.length t) : Int) → Go.Sx.ctQI (Go.Sx.ShiftMatrix1_ct [Go.Sx.AD.c (Go.Sx.FC.int Go.IntKind.i64 x), Go.Sx.AD.c (Go.Sx.FC.int Go.IntKind.i64 y), Go.Sx.AD.box [Go.Sx.FC.rows Go.IntKind.i64 f], Go.Sx.AD.box [Go.Sx.FC.rows Go.IntKind.i64 (Go.Sx.tabR (List.length t) (Go.Sx.cbF t m g))], Go.Sx.AD.box [Go.Sx.FC.int Go.IntKind.i64 m]])))) ∧
        (True)) ∧
        ((((Go.Sx.tabR (Int.toNat (↑(List.length t) : Int)) fun (x y : Nat) => Go.Sx.ctI (Go.Sx.ShiftMatrix1_ct [Go.Sx.AD.c (Go.Sx.FC.int Go.IntKind.i64 (↑x : Int)), Go.Sx.AD.c (Go.Sx.FC.int Go.IntKind.i64 (↑y : Int)), Go.Sx.AD.box [Go.Sx.FC.rows Go.IntKind.i64 f], Go.Sx.AD.box [Go.Sx.FC.rows Go.IntKind.i64 (Go.Sx.tabR (List.length t) (Go.Sx.cbF t m g))], Go.Sx.AD.box [Go.Sx.FC.int Go.IntKind.i64 m]])) = Prod.fst (Go.Sx.smC t m f g)) ∧
        (((0 : Int) = Prod.snd (Go.Sx.smC t m f g)) ∧
        (True))) ∧
        (True))))))))))
theorem iShiftM_vc (t : List (List Int)) (m : Int) (f : List (List Int)) (g : List Int) : runF Try.prog (gam iShiftM_G) noWr noAnn Try.f32 (bodyOf Try.f32) [] [.c (.rows .i64 (t)), .c (.int .i64 (m)), .c (.rows .i64 (f)), .c (.ints .i64 (g))] (iShiftM_p t m f g) = iShiftM_V t m f g := by kernel_rfl
theorem iShiftM_ok (t : List (List Int)) (m : Int) (f : List (List Int)) (g : List Int) (hpre : (iShiftM_p t m f g).pre) : iShiftM_V t m f g := by
  simp only [iShiftM_p, iShiftM_V, BrP_iff, true_and, and_true, decide_eq_true_eq, decide_eq_false_iff_not, bne_iff_ne, beq_iff_eq, bne_eq_false_iff_eq, beq_eq_false_iff_ne, Bool.not_eq_true, Bool.not_eq_false, Bool.not_true, Bool.not_false, Bool.not_eq_eq_eq_not, Int.toNat_natCast, List.length_append, List.length_take, List.length_replicate, List.length_set, List.length_map, List.length_drop, List.length_nil, List.length_cons, markL_length, inB, InR, room, bdsOk] at hpre ⊢
  obtain ⟨p1, p2, p3⟩ := hpre
  refine ⟨p1, fun h => smC_nt h, fun h => ⟨p2, fun h2 => smC_ns h (by rw [h2]; simp), fun h2 => ⟨p3, fun h3 => smC_ns h fun hc => ?_, fun h3 => ?_⟩⟩⟩
  · rw [shiftB, hc.2, decide_eq_true (show 1 ≤ m ∧ m ≤ 12 from ⟨(matB_of h2).1, (matB_of h2).2.1⟩)] at h3
    cases h3
  · have hn : numsB (t.length : Int) m g = true := by
      rw [shiftB, Bool.and_eq_true] at h3
      exact h3.2
    have ht := tabB_of h
    obtain ⟨m1, m2, m3, m4⟩ := matB_of h2
    have hy := smC_yes h ⟨h2, hn⟩
    refine ⟨⟨h, h3⟩, ⟨by omega, by omega, fun x y a b c d => ?_⟩, ?_, hy.2⟩
    · have q := cbF_in h h3 x.toNat y.toNat (by omega) (by omega)
      have r1 := m4 x.toNat (by omega)
      have r2 := r1.2 y.toNat (by omega)
      have e := tabR_getD t.length (cbF t m g) x.toNat (by omega)
      have e2 := tab_getD t.length (cbF t m g x.toNat) y.toNat (by omega)
      refine ⟨by omega, by omega, by omega, by omega, ?_, ?_, by omega, by omega, by omega, ?_, ?_⟩
      · rw [tabR_length]; omega
      · rw [e, tab_length]; omega
      · rw [e, e2]; omega
      · rw [e, e2]; omega
    · refine (tabR_ext fun x y hx hy => ?_).trans hy.1
      show ((f.getD (Int.toNat (x : Int)) []).getD (Int.toNat (y : Int)) 0 + ((tabR t.length (cbF t m g)).getD (Int.toNat (x : Int)) []).getD (Int.toNat (y : Int)) 0).tmod m = _
      rw [Int.toNat_natCast, Int.toNat_natCast, tabR_getD _ _ _ hx, tab_getD _ _ _ hy]
      rfl
theorem iShiftM_fits : Fits Try.prog 32 ⟨[], iShiftM_ct⟩ := by
  refine fits_fn (Γ := gam iShiftM_G) (gok_cons IsTable_fits (gok_cons isMatrix_fits (gok_cons isShift_fits (gok_cons coboundary_fits (gok_cons tableBy_fits (gok_cons ShiftMatrix1_fits gok_nil)))))) Try.func32 (by kernel_rfl) (by kernel_rfl) (by kernel_rfl) fun ds p h hp => ?_
  unfold iShiftM_ct at h
  split at h
  · cases h
    exact ⟨noWr, noAnn, by rw [iShiftM_vc]; exact iShiftM_ok _ _ _ _  hp⟩
  · cases h

def sShiftM_p (t : List (List Int)) (m : Int) (f : List (List Int)) (g : List Int) : Post := ⟨roomR t ∧ roomR f ∧ g.length ≤ 1099511627776, .tup [.inl (.rows 23 2 .i64 ((smC t m f g).1)), .inl (.int .i64 ((smC t m f g).2))], []⟩
def sShiftM_ct : List AD → Option Post
  | [.c (.rows .i64 (t)), .c (.int .i64 (m)), .c (.rows .i64 (f)), .c (.ints .i64 (g))] => some (sShiftM_p t m f g)
  | _ => none
def sShiftM_ann (t : List (List Int)) (m : Int) (f : List (List Int)) (g : List Int) : Nat → Option Ann
  | 0 => some (Ann.mk ((Nat)) (fun i => ⟨[(0, .c (.ro (.rows .i64 (t)))), (1, .c (.int .i64 (m))), (2, .c (.ro (.rows .i64 (f)))), (3, .c (.ro (.ints .i64 (g)))), (11, .c (.own (39))), (12, .c (.int .i64 ((i : Int))))], [(39, some (.rows 0 23 2 .i64 ((tabR t.length (smF t m f g)).take i ++ (tabR t.length (cbF t m g)).drop i)))]⟩) (fun i => i ≤ t.length) (fun i => t.length - i) (fun i => fun b_ => match b_ with | 2 => some (Ann.mk ((Nat)) (fun j => ⟨[(0, .c (.ro (.rows .i64 (t)))), (1, .c (.int .i64 (m))), (2, .c (.ro (.rows .i64 (f)))), (3, .c (.ro (.ints .i64 (g)))), (11, .c (.own (39))), (12, .c (.int .i64 ((i : Int)))), (13, .c (.row 39 0 (Int.toNat (i : Int)))), (14, .c (.int .i64 ((j : Int))))], [(39, some (.rows 0 23 2 .i64 ((tabR t.length (smF t m f g)).take i ++ ((tab t.length (smF t m f g i)).take j ++ (tab t.length (cbF t m g i)).drop j) :: (tabR t.length (cbF t m g)).drop (i + 1))))]⟩) (fun j => j ≤ t.length ∧ i < t.length) (fun j => t.length - j) (fun _ => noAnn)) | _ => none))
  | _ => none
def sShiftM_G : List (Nat × Ctr) := [(99, ⟨[], l01Table_ct⟩), (106, ⟨[], l14Code_ct⟩), (101, ⟨[], l14Numbers_ct⟩), (102, ⟨[], l14Bound_ct⟩)]
def sShiftM_V (t : List (List Int)) (m : Int) (f : List (List Int)) (g : List Int) : Prop :=
  (((Go.Sx.roomR t) ∧
  (True)) ∧
  (BrP (!Go.Sx.tabB t)
    ((([] = Prod.fst (Go.Sx.smC t m f g)) ∧
    (((1 : Int) = Prod.snd (Go.Sx.smC t m f g)) ∧
    (True))) ∧
    (True))
    (((Go.Sx.roomR f) ∧
    (True)) ∧
    (BrP ((if Go.Sx.matB (↑(List.length t) : Int) m f = Bool.true then (0 : Int) else (2 : Int)) == (0 : Int))
      (((((1 : Int) ≤ m) ∧
      ((m ≤ (12 : Int)) ∧
      (Go.Sx.room (List.length g)))) ∧
      (True)) ∧
      (BrP (!Go.Sx.numsB (↑(List.length t) : Int) m g)
        ((([] = Prod.fst (Go.Sx.smC t m f g)) ∧
        (((2 : Int) = Prod.snd (Go.Sx.smC t m f g)) ∧
        (True))) ∧
        (True))
        (BrP ((if Go.Sx.matB (↑(List.length t) : Int) m f = Bool.true then (0 : Int) else (2 : Int)) != (0 : Int))
          ((([] = Prod.fst (Go.Sx.smC t m f g)) ∧
          (((if Go.Sx.matB (↑(List.length t) : Int) m f = Bool.true then (0 : Int) else (2 : Int)) = Prod.snd (Go.Sx.smC t m f g)) ∧
          (True))) ∧
          (True))
          ((((Go.Sx.tabB t = Bool.true) ∧
          (Go.Sx.shiftB (↑(List.length t) : Int) m g = Bool.true)) ∧
          (True)) ∧
          ((∃ x0 : Nat, ((x0 ≤ List.length t) ∧
          ((t = t) ∧
          ((m = m) ∧
          ((f = f) ∧
          ((g = g) ∧
          (((0 : Int) = (↑x0 : Int)) ∧
          (Go.Sx.tabR (List.length t) (Go.Sx.cbF t m g) = List.take x0 (Go.Sx.tabR (List.length t) (Go.Sx.smF t m f g)) ++ List.drop x0 (Go.Sx.tabR (List.length t) (Go.Sx.cbF t m g)))))))))) ∧
          (∀ x1 : Nat, ((x1 ≤ List.length t) →
          (BrP (Decidable.decide ((↑x1 : Int) < (↑(List.length t) : Int)))
            ((Go.Sx.inB (↑x1 : Int) (List.length (List.take x1 (Go.Sx.tabR (List.length t) (Go.Sx.smF t m f g)) ++ List.drop x1 (Go.Sx.tabR (List.length t) (Go.Sx.cbF t m g))))) ∧
            ((∃ x2 : Nat, (((x2 ≤ List.length t) ∧
            (x1 < List.length t)) ∧
            ((t = t) ∧
            ((m = m) ∧
            ((f = f) ∧
            ((g = g) ∧
            (((↑x1 : Int) = (↑x1 : Int)) ∧
            ((Int.toNat (↑x1 : Int) = Int.toNat (↑x1 : Int)) ∧
            (((0 : Int) = (↑x2 : Int)) ∧
            (List.take x1 (Go.Sx.tabR (List.length t) (Go.Sx.smF t m f g)) ++ List.drop x1 (Go.Sx.tabR (List.length t) (Go.Sx.cbF t m g)) = List.take x1 (Go.Sx.tabR (List.length t) (Go.Sx.smF t m f g)) ++ (List.take x2 (Go.Sx.tab (List.length t) (Go.Sx.smF t m f g x1)) ++ List.drop x2 (Go.Sx.tab (List.length t) (Go.Sx.cbF t m g x1))) :: List.drop (x1 + (1 : Nat)) (Go.Sx.tabR (List.length t) (Go.Sx.cbF t m g)))))))))))) ∧
            (∀ x3 : Nat, (((x3 ≤ List.length t) ∧
            (x1 < List.length t)) →
            (BrP (Decidable.decide ((↑x3 : Int) < (↑(List.length t) : Int)))
              ((Go.Sx.inB (↑x3 : Int) (List.length (List.getD (List.take x1 (Go.Sx.tabR (List.length t) (Go.Sx.smF t m f g)) ++ (List.take x3 (Go.Sx.tab (List.length t) (Go.Sx.smF t m f g x1)) ++ List.drop x3 (Go.Sx.tab (List.length t) (Go.Sx.cbF t m g x1))) :: List.drop (x1 + (1 : Nat)) (Go.Sx.tabR (List.length t) (Go.Sx.cbF t m g))) (Int.toNat (↑x1 : Int)) []))) ∧
              ((Go.Sx.inB (↑x1 : Int) (List.length f)) ∧
              ((Go.Sx.inB (↑x3 : Int) (List.length (List.getD f (Int.toNat (↑x1 : Int)) []))) ∧
              ((Go.Sx.InR (List.getD (List.getD (List.take x1 (Go.Sx.tabR (List.length t) (Go.Sx.smF t m f g)) ++ (List.take x3 (Go.Sx.tab (List.length t) (Go.Sx.smF t m f g x1)) ++ List.drop x3 (Go.Sx.tab (List.length t) (Go.Sx.cbF t m g x1))) :: List.drop (x1 + (1 : Nat)) (Go.Sx.tabR (List.length t) (Go.Sx.cbF t m g))) (Int.toNat (↑x1 : Int)) []) (Int.toNat (↑x3 : Int)) (0 : Int) + List.getD (List.getD f (Int.toNat (↑x1 : Int)) []) (Int.toNat (↑x3 : Int)) (0 : Int))) ∧
              ((m ≠ (0 : Int)) ∧
              ((Go.Sx.inB (↑x3 : Int) (List.length (List.getD (List.take x1 (Go.Sx.tabR (List.length t) (Go.Sx.smF t m f g)) ++ (List.take x3 (Go.Sx.tab (List.length t) (Go.Sx.smF t m f g x1)) ++ List.drop x3 (Go.Sx.tab (List.length t) (Go.Sx.cbF t m g x1))) :: List.drop (x1 + (1 : Nat)) (Go.Sx.tabR (List.length t) (Go.Sx.cbF t m g))) (Int.toNat (↑x1 : Int)) []))) ∧
              ((Go.Sx.InR ((↑x3 : Int) + (1 : Int))) ∧
              (∃ x4 : Nat, (((x4 ≤ List.length t) ∧
              (x1 < List.length t)) ∧
              ((List.length t - x4 < List.length t - x3) ∧
              ((t = t) ∧
              ((m = m) ∧
              ((f = f) ∧
              ((g = g) ∧
              (((↑x1 : Int) = (↑x1 : Int)) ∧
              ((Int.toNat (↑x1 : Int) = Int.toNat (↑x1 : Int)) ∧
              (((↑x3 : Int) + (1 : Int) = (↑x4 : Int)) ∧
              (List.set (List.take x1 (Go.Sx.tabR (List.length t) (Go.Sx.smF t m f g)) ++ (List.take x3 (Go.Sx.tab (List.length t) (Go.Sx.smF t m f g x1)) ++ List.drop x3 (Go.Sx.tab (List.length t) (Go.Sx.cbF t m g x1))) :: List.drop (x1 + (1 : Nat)) (Go.Sx.tabR (List.length t) (Go.Sx.cbF t m g))) (Int.toNat (↑x1 : Int)) (List.set (List.getD (List.take x1 (Go.Sx.tabR (List.length t) (Go.Sx.smF t m f g)) ++ (List.take x3 (Go.Sx.tab (List.length t) (Go.Sx.smF t m f g x1)) ++ List.drop x3 (Go.Sx.tab (List.length t) (Go.Sx.cbF t m g x1))) :: List.drop (x1 + (1 : Nat)) (Go.Sx.tabR (List.length t) (Go.Sx.cbF t m g))) (Int.toNat (↑x1 : Int)) []) (Int.toNat (↑x3 : Int)) (Int.tmod (List.getD (List.getD (List.take x1 (Go.Sx.tabR (List.length t) (Go.Sx.smF t m f g)) ++ (List.take x3 (Go.Sx.tab (List.length t) (Go.Sx.smF t m f g x1)) ++ List.drop x3 (Go.Sx.tab (List.length t) (Go.Sx.cbF t m g x1))) :: List.drop (x1 + (1 : Nat)) (Go.Sx.tabR (List.length t) (Go.Sx.cbF t m g))) (Int.toNat (↑x1 : Int)) []) (Int.toNat (↑x3 : Int)) (0 : Int) + List.getD (List.getD f (Int.toNat (↑x1 : Int)) []) (Int.toNat (↑x3 : Int)) (0 : Int)) m)) = List.take x1 (Go.Sx.tabR (List.length t) (Go.Sx.smF t m f g)) ++ (List.take x4 (Go.Sx.tab (List.length t) (Go.Sx.smF t m f g x1)) ++ List.drop x4 (Go.Sx.tab (List.length t) (Go.Sx.cbF t m g x1))) :: List.drop (x1 + (1 : Nat)) (Go.Sx.tabR (List.length t) (Go.Sx.cbF t m g))))))))))))))))))))
              ((Go.Sx.InR ((↑x1 : Int) + (1 : Int))) ∧
              (∃ x5 : Nat, ((x5 ≤ List.length t) ∧
              ((List.length t - x5 < List.length t - x1) ∧
              ((t = t) ∧
              ((m = m) ∧
              ((f = f) ∧
              ((g = g) ∧
              (((↑x1 : Int) + (1 : Int) = (↑x5 : Int)) ∧
              (List.take x1 (Go.Sx.tabR (List.length t) (Go.Sx.smF t m f g)) ++ (List.take x3 (Go.Sx.tab (List.length t) (Go.Sx.smF t m f g x1)) ++ List.drop x3 (Go.Sx.tab (List.length t) (Go.Sx.cbF t m g x1))) :: List.drop (x1 + (1 : Nat)) (Go.Sx.tabR (List.length t) (Go.Sx.cbF t m g)) = List.take x5 (Go.Sx.tabR (List.length t) (Go.Sx.smF t m f g)) ++ List.drop x5 (Go.Sx.tabR (List.length t) (Go.Sx.cbF t m g)))))))))))))))))
            (((List.take x1 (Go.Sx.tabR (List.length t) (Go.Sx.smF t m f g)) ++ List.drop x1 (Go.Sx.tabR (List.length t) (Go.Sx.cbF t m g)) = Prod.fst (Go.Sx.smC t m f g)) ∧
            (((0 : Int) = Prod.snd (Go.Sx.smC t m f g)) ∧
            (True))) ∧
            (True))))))))))
      (BrP ((if Go.Sx.matB (↑(List.length t) : Int) m f = Bool.true then (0 : Int) else (2 : Int)) != (0 : Int))
        ((([] = Prod.fst (Go.Sx.smC t m f g)) ∧
        (((if Go.Sx.matB (↑(List.length t) : Int) m f = Bool.true then (0 : Int) else (2 : Int)) = Prod.snd (Go.Sx.smC t m f g)) ∧
        (True))) ∧
        (True))
        ((((Go.Sx.tabB t = Bool.true) ∧
        (Go.Sx.shiftB (↑(List.length t) : Int) m g = Bool.true)) ∧
        (True)) ∧
        ((∃ x6 : Nat, ((x6 ≤ List.length t) ∧
        ((t = t) ∧
        ((m = m) ∧
        ((f = f) ∧
        ((g = g) ∧
        (((0 : Int) = (↑x6 : Int)) ∧
        (Go.Sx.tabR (List.length t) (Go.Sx.cbF t m g) = List.take x6 (Go.Sx.tabR (List.length t) (Go.Sx.smF t m f g)) ++ List.drop x6 (Go.Sx.tabR (List.length t) (Go.Sx.cbF t m g)))))))))) ∧
        (∀ x7 : Nat, ((x7 ≤ List.length t) →
        (BrP (Decidable.decide ((↑x7 : Int) < (↑(List.length t) : Int)))
          ((Go.Sx.inB (↑x7 : Int) (List.length (List.take x7 (Go.Sx.tabR (List.length t) (Go.Sx.smF t m f g)) ++ List.drop x7 (Go.Sx.tabR (List.length t) (Go.Sx.cbF t m g))))) ∧
          ((∃ x8 : Nat, (((x8 ≤ List.length t) ∧
          (x7 < List.length t)) ∧
          ((t = t) ∧
          ((m = m) ∧
          ((f = f) ∧
          ((g = g) ∧
          (((↑x7 : Int) = (↑x7 : Int)) ∧
          ((Int.toNat (↑x7 : Int) = Int.toNat (↑x7 : Int)) ∧
          (((0 : Int) = (↑x8 : Int)) ∧
          (List.take x7 (Go.Sx.tabR (List.length t) (Go.Sx.smF t m f g)) ++ List.drop x7 (Go.Sx.tabR (List.length t) (Go.Sx.cbF t m g)) = List.take x7 (Go.Sx.tabR (List.length t) (Go.Sx.smF t m f g)) ++ (List.take x8 (Go.Sx.tab (List.length t) (Go.Sx.smF t m f g x7)) ++ List.drop x8 (Go.Sx.tab (List.length t) (Go.Sx.cbF t m g x7))) :: List.drop (x7 + (1 : Nat)) (Go.Sx.tabR (List.length t) (Go.Sx.cbF t m g)))))))))))) ∧
          (∀ x9 : Nat, (((x9 ≤ List.length t) ∧
          (x7 < List.length t)) →
          (BrP (Decidable.decide ((↑x9 : Int) < (↑(List.length t) : Int)))
            ((Go.Sx.inB (↑x9 : Int) (List.length (List.getD (List.take x7 (Go.Sx.tabR (List.length t) (Go.Sx.smF t m f g)) ++ (List.take x9 (Go.Sx.tab (List.length t) (Go.Sx.smF t m f g x7)) ++ List.drop x9 (Go.Sx.tab (List.length t) (Go.Sx.cbF t m g x7))) :: List.drop (x7 + (1 : Nat)) (Go.Sx.tabR (List.length t) (Go.Sx.cbF t m g))) (Int.toNat (↑x7 : Int)) []))) ∧
            ((Go.Sx.inB (↑x7 : Int) (List.length f)) ∧
            ((Go.Sx.inB (↑x9 : Int) (List.length (List.getD f (Int.toNat (↑x7 : Int)) []))) ∧
            ((Go.Sx.InR (List.getD (List.getD (List.take x7 (Go.Sx.tabR (List.length t) (Go.Sx.smF t m f g)) ++ (List.take x9 (Go.Sx.tab (List.length t) (Go.Sx.smF t m f g x7)) ++ List.drop x9 (Go.Sx.tab (List.length t) (Go.Sx.cbF t m g x7))) :: List.drop (x7 + (1 : Nat)) (Go.Sx.tabR (List.length t) (Go.Sx.cbF t m g))) (Int.toNat (↑x7 : Int)) []) (Int.toNat (↑x9 : Int)) (0 : Int) + List.getD (List.getD f (Int.toNat (↑x7 : Int)) []) (Int.toNat (↑x9 : Int)) (0 : Int))) ∧
            ((m ≠ (0 : Int)) ∧
            ((Go.Sx.inB (↑x9 : Int) (List.length (List.getD (List.take x7 (Go.Sx.tabR (List.length t) (Go.Sx.smF t m f g)) ++ (List.take x9 (Go.Sx.tab (List.length t) (Go.Sx.smF t m f g x7)) ++ List.drop x9 (Go.Sx.tab (List.length t) (Go.Sx.cbF t m g x7))) :: List.drop (x7 + (1 : Nat)) (Go.Sx.tabR (List.length t) (Go.Sx.cbF t m g))) (Int.toNat (↑x7 : Int)) []))) ∧
            ((Go.Sx.InR ((↑x9 : Int) + (1 : Int))) ∧
            (∃ x10 : Nat, (((x10 ≤ List.length t) ∧
            (x7 < List.length t)) ∧
            ((List.length t - x10 < List.length t - x9) ∧
            ((t = t) ∧
            ((m = m) ∧
            ((f = f) ∧
            ((g = g) ∧
            (((↑x7 : Int) = (↑x7 : Int)) ∧
            ((Int.toNat (↑x7 : Int) = Int.toNat (↑x7 : Int)) ∧
            (((↑x9 : Int) + (1 : Int) = (↑x10 : Int)) ∧
            (List.set (List.take x7 (Go.Sx.tabR (List.length t) (Go.Sx.smF t m f g)) ++ (List.take x9 (Go.Sx.tab (List.length t) (Go.Sx.smF t m f g x7)) ++ List.drop x9 (Go.Sx.tab (List.length t) (Go.Sx.cbF t m g x7))) :: List.drop (x7 + (1 : Nat)) (Go.Sx.tabR (List.length t) (Go.Sx.cbF t m g))) (Int.toNat (↑x7 : Int)) (List.set (List.getD (List.take x7 (Go.Sx.tabR (List.length t) (Go.Sx.smF t m f g)) ++ (List.take x9 (Go.Sx.tab (List.length t) (Go.Sx.smF t m f g x7)) ++ List.drop x9 (Go.Sx.tab (List.length t) (Go.Sx.cbF t m g x7))) :: List.drop (x7 + (1 : Nat)) (Go.Sx.tabR (List.length t) (Go.Sx.cbF t m g))) (Int.toNat (↑x7 : Int)) []) (Int.toNat (↑x9 : Int)) (Int.tmod (List.getD (List.getD (List.take x7 (Go.Sx.tabR (List.length t) (Go.Sx.smF t m f g)) ++ (List.take x9 (Go.Sx.tab (List.length t) (Go.Sx.smF t m f g x7)) ++ List.drop x9 (Go.Sx.tab (List.length t) (Go.Sx.cbF t m g x7))) :: List.drop (x7 + (1 : Nat)) (Go.Sx.tabR (List.length t) (Go.Sx.cbF t m g))) (Int.toNat (↑x7 : Int)) []) (Int.toNat (↑x9 : Int)) (0 : Int) + List.getD (List.getD f (Int.toNat (↑x7 : Int)) []) (Int.toNat (↑x9 : Int)) (0 : Int)) m)) = List.take x7 (Go.Sx.tabR (List.length t) (Go.Sx.smF t m f g)) ++ (List.take x10 (Go.Sx.tab (List.length t) (Go.Sx.smF t m f g x7)) ++ List.drop x10 (Go.Sx.tab (List.length t) (Go.Sx.cbF t m g x7))) :: List.drop (x7 + (1 : Nat)) (Go.Sx.tabR (List.length t) (Go.Sx.cbF t m g))))))))))))))))))))
            ((Go.Sx.InR ((↑x7 : Int) + (1 : Int))) ∧
            (∃ x11 : Nat, ((x11 ≤ List.length t) ∧
            ((List.length t - x11 < List.length t - x7) ∧
            ((t = t) ∧
            ((m = m) ∧
            ((f = f) ∧
            ((g = g) ∧
            (((↑x7 : Int) + (1 : Int) = (↑x11 : Int)) ∧
            (List.take x7 (Go.Sx.tabR (List.length t) (Go.Sx.smF t m f g)) ++ (List.take x9 (Go.Sx.tab (List.length t) (Go.Sx.smF t m f g x7)) ++ List.drop x9 (Go.Sx.tab (List.length t) (Go.Sx.cbF t m g x7))) :: List.drop (x7 + (1 : Nat)) (Go.Sx.tabR (List.length t) (Go.Sx.cbF t m g)) = List.take x11 (Go.Sx.tabR (List.length t) (Go.Sx.smF t m f g)) ++ List.drop x11 (Go.Sx.tabR (List.length t) (Go.Sx.cbF t m g)))))))))))))))))
          (((List.take x7 (Go.Sx.tabR (List.length t) (Go.Sx.smF t m f g)) ++ List.drop x7 (Go.Sx.tabR (List.length t) (Go.Sx.cbF t m g)) = Prod.fst (Go.Sx.smC t m f g)) ∧
          (((0 : Int) = Prod.snd (Go.Sx.smC t m f g)) ∧
          (True))) ∧
          (True))))))))))))
theorem sShiftM_vc (t : List (List Int)) (m : Int) (f : List (List Int)) (g : List Int) : runF Try.prog (gam sShiftM_G) noWr (sShiftM_ann t m f g) Try.f31 (bodyOf Try.f31) [] [.c (.rows .i64 (t)), .c (.int .i64 (m)), .c (.rows .i64 (f)), .c (.ints .i64 (g))] (sShiftM_p t m f g) = sShiftM_V t m f g := by kernel_rfl
theorem sShiftM_ok (t : List (List Int)) (m : Int) (f : List (List Int)) (g : List Int) (hpre : (sShiftM_p t m f g).pre) : sShiftM_V t m f g := by
  simp only [sShiftM_p, sShiftM_V, BrP_iff, true_and, and_true, decide_eq_true_eq, decide_eq_false_iff_not, bne_iff_ne, beq_iff_eq, bne_eq_false_iff_eq, beq_eq_false_iff_ne, Bool.not_eq_true, Bool.not_eq_false, Bool.not_true, Bool.not_false, Bool.not_eq_eq_eq_not, Int.toNat_natCast, List.length_append, List.length_take, List.length_replicate, List.length_set, List.length_map, List.length_drop, List.length_nil, List.length_cons, markL_length, inB, InR, room, bdsOk] at hpre ⊢
  obtain ⟨p1, p2, p3⟩ := hpre
  refine ⟨p1, fun h => smC_nt h, fun h => ⟨p2, fun h2 => ?_, fun h2 => ⟨fun h3 => ?_, fun h3 => absurd h3 h2⟩⟩⟩
  · have hm : matB (t.length : Int) m f = true := by
      split at h2
      · assumption
      · omega
    obtain ⟨m1, m2, m3, m4⟩ := matB_of hm
    refine ⟨⟨m1, m2, p3⟩, fun h3 => smC_ns h (by rw [h3]; simp), fun hn => ⟨fun h3 => absurd h2 h3, fun _ => ?_⟩⟩
    have hs : shiftB (t.length : Int) m g = true := by rw [shiftB, hn, decide_eq_true (show 1 ≤ m ∧ m ≤ 12 from ⟨m1, m2⟩)]; rfl
    have hT := tabR_length t.length (smF t m f g)
    have hU := tabR_length t.length (cbF t m g)
    have hr : ∀ i : Nat, (tab t.length (smF t m f g i)).length = t.length := fun i => tab_length _ _
    have hc : ∀ i : Nat, (tab t.length (cbF t m g i)).length = t.length := fun i => tab_length _ _
    have ht := tabB_of h
    refine ⟨⟨h, hs⟩, ⟨0, by omega, rfl, by simp⟩, fun i hi => ?_⟩
    have hl : ((tabR t.length (smF t m f g)).take i).length = i := by rw [List.length_take]; omega
    refine ⟨fun h5 => ⟨by omega, ⟨0, by omega, rfl, ?_⟩, fun j ⟨hj, _⟩ => ⟨fun h6 => ?_, fun h6 => ?_⟩⟩, fun h5 => ?_⟩
    · rw [drop_cons' (tabR t.length (cbF t m g)) [] i (by omega), tabR_getD _ _ _ (by omega)]
      simp
    · rw [at_getD _ _ _ _ _ hl, at_set _ _ _ _ _ hl]
      have hd : ((tab t.length (smF t m f g i)).take j ++ (tab t.length (cbF t m g i)).drop j).length = t.length := by
        rw [List.length_append, List.length_take, List.length_drop, hr, hc]; omega
      have hj2 : ((tab t.length (smF t m f g i)).take j).length = j := by rw [List.length_take, hr]; omega
      have hg : ((tab t.length (smF t m f g i)).take j ++ (tab t.length (cbF t m g i)).drop j).getD j 0 = cbF t m g i j := by
        rw [getD_append_right' _ _ _ _ (by omega), hj2, drop_getD, Nat.sub_self, Nat.add_zero, tab_getD _ _ _ (by omega)]
      rw [hd, hg]
      have q := cbF_in h hs i j (by omega) (by omega)
      have r1 := m4 i (by omega)
      have r2 := r1.2 j (by omega)
      refine ⟨by omega, by omega, by omega, by omega, by omega, by omega, by omega, j + 1, by omega, by omega, by omega, ?_⟩
      have := set_take_drop (tab t.length (smF t m f g i)) (tab t.length (cbF t m g i)) 0 j (by rw [hr, hc]) (by rw [hc]; omega)
      rw [tab_getD _ _ _ (by omega)] at this
      rw [← this, Int.add_comm (cbF t m g i j)]
      rfl
    · refine ⟨by omega, i + 1, by omega, by omega, by omega, ?_⟩
      have e1 : (tab t.length (smF t m f g i)).take j = tab t.length (smF t m f g i) := List.take_of_length_le (by rw [hr]; omega)
      have e2 : (tab t.length (cbF t m g i)).drop j = [] := List.drop_of_length_le (by rw [hc]; omega)
      rw [← take_snoc (tabR t.length (smF t m f g)) [] i (by omega), tabR_getD _ _ _ (by omega), e1, e2]
      simp
    · have hy := smC_yes h ⟨hm, hn⟩
      rw [List.take_of_length_le (by omega), List.drop_of_length_le (by omega), List.append_nil]
      exact hy
  · have hm : matB (t.length : Int) m f = false := by
      cases hb : matB (t.length : Int) m f with
      | false => rfl
      | true => rw [hb] at h2; exact absurd rfl h2
    rw [hm]
    exact smC_ns h (by rw [hm]; simp)
theorem sShiftM_fits : Fits Try.prog 31 ⟨[], sShiftM_ct⟩ := by
  refine fits_fn (Γ := gam sShiftM_G) (gok_cons l01Table_fits (gok_cons l14Code_fits (gok_cons l14Numbers_fits (gok_cons l14Bound_fits gok_nil)))) Try.func31 (by kernel_rfl) (by kernel_rfl) (by kernel_rfl) fun ds p h hp => ?_
  unfold sShiftM_ct at h
  split at h
  · cases h
    exact ⟨noWr, sShiftM_ann _ _ _ _ , by rw [sShiftM_vc]; exact sShiftM_ok _ _ _ _  hp⟩
  · cases h

theorem smC_room (t : List (List Int)) (m : Int) (f : List (List Int)) (g : List Int) : roomR (smC t m f g).1 ∧ (smC t m f g).1.length ≤ 1048576 ∧ sumL (smC t m f g).1 ≤ 1048576 := by
  unfold smC
  split
  · rename_i h
    have ht := tabB_of h
    split
    · exact ⟨tabR_room _ _ (by omega), by simp only [tabR_length]; omega, Nat.le_trans (tabR_sum _ _ (by omega)) (by omega)⟩
    · exact ⟨⟨by simp, by simp⟩, by simp, by simp [sumL]⟩
  · exact ⟨⟨by simp, by simp⟩, by simp, by simp [sumL]⟩

def lShiftM_p (t : List (List Int)) (m : Int) (f : List (List Int)) (g : List Int) : Post := ⟨((t.length : Int) ≤ 9223372036854775807 ∧ (∀ r ∈ t, (r.length : Int) ≤ 9223372036854775807)) ∧ (f.length : Int) ≤ 9223372036854775807 ∧ (∀ r ∈ f, (r.length : Int) ≤ 9223372036854775807), .c (.bool (true)), []⟩
def lShiftM_ct : List AD → Option Post
  | [.c (.rows .i64 (t)), .c (.int .i64 (m)), .c (.rows .i64 (f)), .c (.ints .i64 (g))] => some (lShiftM_p t m f g)
  | _ => none
def lShiftM_G : List (Nat × Ctr) := [(21, ⟨[], szInt64SS_ct⟩), (23, ⟨[], toInt64SS_ct⟩), (24, ⟨[], toInt64S_ct⟩), (26, ⟨[], eqInt64SS_ct⟩), (27, ⟨[], eqInt64S_ct⟩), (28, ⟨[(0, 0)], markInt64SS_ct⟩), (29, ⟨[(0, 0)], markInt64S_ct⟩), (30, ⟨[], heldInt64SS_ct⟩), (31, ⟨[], sShiftM_ct⟩), (32, ⟨[], iShiftM_ct⟩)]
def lShiftM_V (t : List (List Int)) (m : Int) (f : List (List Int)) (g : List Int) : Prop :=
  (BrP (Decidable.decide ((1048576 : Int) < (↑(List.length g) : Int)))
    ((Bool.true = Bool.true) ∧
    (True))
    (((((↑(List.length t) : Int) ≤ (9223372036854775807 : Int)) ∧
    ((∀ (r : List Int), r ∈ t → (↑(List.length r) : Int) ≤ (9223372036854775807 : Int)) ∧
    (((0 : Int) ≤ (1048576 : Int)) ∧
    ((1048576 : Int) ≤ (1099511627776 : Int))))) ∧
    (True)) ∧
    (BrP (Decidable.decide ((if (1048576 : Int) < (↑(List.length t) : Int) + (↑(Go.Sx.sumL t) : Int) then (-1 : Int) else (1048576 : Int) - (↑(List.length t) : Int) - (↑(Go.Sx.sumL t) : Int)) < (0 : Int)))
      ((Bool.true = Bool.true) ∧
      (True))
      (((((↑(List.length f) : Int) ≤ (9223372036854775807 : Int)) ∧
      ((∀ (r : List Int), r ∈ f → (↑(List.length r) : Int) ≤ (9223372036854775807 : Int)) ∧
      (((0 : Int) ≤ if (1048576 : Int) < (↑(List.length t) : Int) + (↑(Go.Sx.sumL t) : Int) then (-1 : Int) else (1048576 : Int) - (↑(List.length t) : Int) - (↑(Go.Sx.sumL t) : Int)) ∧
      ((if (1048576 : Int) < (↑(List.length t) : Int) + (↑(Go.Sx.sumL t) : Int) then (-1 : Int) else (1048576 : Int) - (↑(List.length t) : Int) - (↑(Go.Sx.sumL t) : Int)) ≤ (1099511627776 : Int))))) ∧
      (True)) ∧
      (BrP (Decidable.decide ((if (if (1048576 : Int) < (↑(List.length t) : Int) + (↑(Go.Sx.sumL t) : Int) then (-1 : Int) else (1048576 : Int) - (↑(List.length t) : Int) - (↑(Go.Sx.sumL t) : Int)) < (↑(List.length f) : Int) + (↑(Go.Sx.sumL f) : Int) then (-1 : Int) else (if (1048576 : Int) < (↑(List.length t) : Int) + (↑(Go.Sx.sumL t) : Int) then (-1 : Int) else (1048576 : Int) - (↑(List.length t) : Int) - (↑(Go.Sx.sumL t) : Int)) - (↑(List.length f) : Int) - (↑(Go.Sx.sumL f) : Int)) < (0 : Int)))
        ((Bool.true = Bool.true) ∧
        (True))
        (((Go.Sx.roomR t) ∧
        (True)) ∧
        (((Go.Sx.roomR f) ∧
        (True)) ∧
        (((Go.Sx.room (List.length g)) ∧
        (True)) ∧
        ((((Go.Sx.roomR t) ∧
        ((Go.Sx.roomR f) ∧
        (List.length g ≤ (1099511627776 : Nat)))) ∧
        (True)) ∧
        (((Go.Sx.roomR t) ∧
        (True)) ∧
        (((Go.Sx.roomR f) ∧
        (True)) ∧
        (((Go.Sx.room (List.length g)) ∧
        (True)) ∧
        ((((Go.Sx.roomR t) ∧
        ((Go.Sx.roomR f) ∧
        (List.length g ≤ (1099511627776 : Nat)))) ∧
        (True)) ∧
        (((Go.Sx.roomR (Prod.fst (Go.Sx.smC t m f g))) ∧
        (True)) ∧
        (BrP (!Decidable.decide (Prod.fst (Go.Sx.smC t m f g) = Prod.fst (Go.Sx.smC t m f g)))
          ((Bool.false = Bool.true) ∧
          (True))
          (BrP (Prod.snd (Go.Sx.smC t m f g) != Prod.snd (Go.Sx.smC t m f g))
            ((Bool.false = Bool.true) ∧
            (True))
            (((Go.Sx.roomR t) ∧
            (True)) ∧
            (((Go.Sx.roomR t) ∧
            (True)) ∧
            (BrP (!Decidable.decide (t = t))
              ((Bool.false = Bool.true) ∧
              (True))
              (((Go.Sx.roomR f) ∧
              (True)) ∧
              (((Go.Sx.roomR f) ∧
              (True)) ∧
              (BrP (!Decidable.decide (f = f))
                ((Bool.false = Bool.true) ∧
                (True))
                (((Go.Sx.room (List.length g)) ∧
                (True)) ∧
                (((Go.Sx.room (List.length g)) ∧
                (True)) ∧
                (BrP (!Decidable.decide (g = g))
                  ((Bool.false = Bool.true) ∧
                  (True))
                  ((((List.length t ≤ (1048576 : Nat)) ∧
                  ((Go.Sx.sumL t ≤ (1048576 : Nat)) ∧
                  (((0 : Int) ≤ (1 : Int)) ∧
                  ((1 : Int) ≤ (1073741824 : Int))))) ∧
                  ((List.map List.length (Go.Sx.markR t (1 : Int)) = List.map List.length t) ∧
                  (True))) ∧
                  ((((List.length f ≤ (1048576 : Nat)) ∧
                  ((Go.Sx.sumL f ≤ (1048576 : Nat)) ∧
                  (((0 : Int) ≤ (1 : Int) + (↑(Go.Sx.sumL t) : Int)) ∧
                  ((1 : Int) + (↑(Go.Sx.sumL t) : Int) ≤ (1073741824 : Int))))) ∧
                  ((List.map List.length (Go.Sx.markR f ((1 : Int) + (↑(Go.Sx.sumL t) : Int))) = List.map List.length f) ∧
                  (True))) ∧
                  ((((Go.Sx.room (List.length g)) ∧
                  (((0 : Int) ≤ (1 : Int) + (↑(Go.Sx.sumL t) : Int) + (↑(Go.Sx.sumL f) : Int)) ∧
                  ((1 : Int) + (↑(Go.Sx.sumL t) : Int) + (↑(Go.Sx.sumL f) : Int) ≤ (1099511627776 : Int)))) ∧
                  ((List.length (Go.Sx.markL ((1 : Int) + (↑(Go.Sx.sumL t) : Int) + (↑(Go.Sx.sumL f) : Int)) (List.length g)) = List.length g) ∧
                  (True))) ∧
                  (BrP (Decidable.decide ((1 : Int) + (↑(Go.Sx.sumL t) : Int) + (↑(Go.Sx.sumL f) : Int) + (↑(List.length g) : Int) < (0 : Int)))
                    ((Bool.false = Bool.true) ∧
                    (True))
                    (((Go.Sx.roomR (Prod.fst (Go.Sx.smC t m f g))) ∧
                    (True)) ∧
                    (BrP (!Decidable.decide (Prod.fst (Go.Sx.smC t m f g) = Prod.fst (Go.Sx.smC t m f g)))
                      ((Bool.false = Bool.true) ∧
                      (True))
                      (BrP (Prod.snd (Go.Sx.smC t m f g) != Prod.snd (Go.Sx.smC t m f g))
                        ((Bool.false = Bool.true) ∧
                        (True))
                        ((((List.length (Prod.fst (Go.Sx.smC t m f g)) ≤ (1048576 : Nat)) ∧
                        ((Go.Sx.sumL (Prod.fst (Go.Sx.smC t m f g)) ≤ (1048576 : Nat)) ∧
                        (((0 : Int) ≤ (1 : Int)) ∧
                        ((1 : Int) ≤ (1073741824 : Int))))) ∧
                        ((List.map List.length (Go.Sx.markR (Prod.fst (Go.Sx.smC t m f g)) (1 : Int)) = List.map List.length (Prod.fst (Go.Sx.smC t m f g))) ∧
                        (True))) ∧
                        ((((List.length (Go.Sx.markR (Prod.fst (Go.Sx.smC t m f g)) (1 : Int)) ≤ (1048576 : Nat)) ∧
                        ((Go.Sx.sumL (Go.Sx.markR (Prod.fst (Go.Sx.smC t m f g)) (1 : Int)) ≤ (1048576 : Nat)) ∧
                        (((0 : Int) ≤ (1 : Int)) ∧
                        ((1 : Int) ≤ (1073741824 : Int))))) ∧
                        (True)) ∧
                        (BrP (Decidable.decide ((if Go.Sx.markR (Prod.fst (Go.Sx.smC t m f g)) (1 : Int) = Go.Sx.markR (Go.Sx.markR (Prod.fst (Go.Sx.smC t m f g)) (1 : Int)) (1 : Int) then (1 : Int) + (↑(Go.Sx.sumL (Go.Sx.markR (Prod.fst (Go.Sx.smC t m f g)) (1 : Int))) : Int) else (-1 : Int)) < (0 : Int)))
                          ((Bool.false = Bool.true) ∧
                          (True))
                          (BrP ((if Go.Sx.markR (Prod.fst (Go.Sx.smC t m f g)) (1 : Int) = Go.Sx.markR (Go.Sx.markR (Prod.fst (Go.Sx.smC t m f g)) (1 : Int)) (1 : Int) then (1 : Int) + (↑(Go.Sx.sumL (Go.Sx.markR (Prod.fst (Go.Sx.smC t m f g)) (1 : Int))) : Int) else (-1 : Int)) != (1 : Int) + (↑(Go.Sx.sumL (Prod.fst (Go.Sx.smC t m f g))) : Int))
                            ((Bool.false = Bool.true) ∧
                            (True))
                            (((Go.Sx.roomR t) ∧
                            (True)) ∧
                            (((Go.Sx.roomR f) ∧
                            (True)) ∧
                            (((Go.Sx.room (List.length g)) ∧
                            (True)) ∧
                            ((((Go.Sx.roomR t) ∧
                            ((Go.Sx.roomR f) ∧
                            (List.length g ≤ (1099511627776 : Nat)))) ∧
                            (True)) ∧
                            (((Go.Sx.roomR (Prod.fst (Go.Sx.smC t m f g))) ∧
                            (True)) ∧
                            (BrP (!Decidable.decide (Prod.fst (Go.Sx.smC t m f g) = Prod.fst (Go.Sx.smC t m f g)))
                              ((Bool.false = Bool.true) ∧
                              (True))
                              (BrP (Prod.snd (Go.Sx.smC t m f g) != Prod.snd (Go.Sx.smC t m f g))
                                ((Bool.false = Bool.true) ∧
                                (True))
                                ((((List.length (Go.Sx.markR (Prod.fst (Go.Sx.smC t m f g)) (1 : Int)) ≤ (1048576 : Nat)) ∧
                                ((Go.Sx.sumL (Go.Sx.markR (Prod.fst (Go.Sx.smC t m f g)) (1 : Int)) ≤ (1048576 : Nat)) ∧
                                (((0 : Int) ≤ (1 : Int)) ∧
                                ((1 : Int) ≤ (1073741824 : Int))))) ∧
                                (True)) ∧
                                (BrP (Decidable.decide ((if Go.Sx.markR (Prod.fst (Go.Sx.smC t m f g)) (1 : Int) = Go.Sx.markR (Go.Sx.markR (Prod.fst (Go.Sx.smC t m f g)) (1 : Int)) (1 : Int) then (1 : Int) + (↑(Go.Sx.sumL (Go.Sx.markR (Prod.fst (Go.Sx.smC t m f g)) (1 : Int))) : Int) else (-1 : Int)) < (0 : Int)))
                                  ((Bool.false = Bool.true) ∧
                                  (True))
                                  (BrP ((if Go.Sx.markR (Prod.fst (Go.Sx.smC t m f g)) (1 : Int) = Go.Sx.markR (Go.Sx.markR (Prod.fst (Go.Sx.smC t m f g)) (1 : Int)) (1 : Int) then (1 : Int) + (↑(Go.Sx.sumL (Go.Sx.markR (Prod.fst (Go.Sx.smC t m f g)) (1 : Int))) : Int) else (-1 : Int)) != (1 : Int) + (↑(Go.Sx.sumL (Prod.fst (Go.Sx.smC t m f g))) : Int))
                                    ((Bool.false = Bool.true) ∧
                                    (True))
                                    ((Bool.true = Bool.true) ∧
                                    (True))))))))))))))))))))))))))))))))))))))))))))))))
theorem lShiftM_vc (t : List (List Int)) (m : Int) (f : List (List Int)) (g : List Int) : runF Try.prog (gam lShiftM_G) noWr noAnn Try.f4 (bodyOf Try.f4) [] [.c (.rows .i64 (t)), .c (.int .i64 (m)), .c (.rows .i64 (f)), .c (.ints .i64 (g))] (lShiftM_p t m f g) = lShiftM_V t m f g := by kernel_rfl
theorem lShiftM_ok (t : List (List Int)) (m : Int) (f : List (List Int)) (g : List Int) (hpre : (lShiftM_p t m f g).pre) : lShiftM_V t m f g := by
  simp only [lShiftM_p, lShiftM_V, BrP_iff, true_and, and_true, decide_eq_true_eq, decide_eq_false_iff_not, bne_iff_ne, beq_iff_eq, bne_eq_false_iff_eq, beq_eq_false_iff_ne, Bool.not_eq_true, Bool.not_eq_false, Bool.not_true, Bool.not_false, Bool.not_eq_eq_eq_not, Int.toNat_natCast, List.length_append, List.length_take, List.length_replicate, List.length_set, List.length_map, List.length_drop, List.length_nil, List.length_cons, markL_length, inB, InR, room, bdsOk] at hpre ⊢
  obtain ⟨⟨a1, a2⟩, a3, a4⟩ := hpre
  refine ⟨fun _ => trivial, fun h0 => ⟨⟨a1, a2, by omega, by omega⟩, fun _ => trivial, fun h => ?_⟩⟩
  obtain ⟨e1, e2, e3⟩ := size_of h
  refine ⟨⟨a3, a4, by omega, by split <;> omega⟩, fun _ => trivial, fun h2 => ?_⟩
  obtain ⟨d1, d2, d3⟩ := size_of h2 (by split <;> omega)
  have g1 : g.length ≤ 1099511627776 := by omega
  obtain ⟨c1, c3, c4⟩ := smC_room t m f g
  have c5 : ¬ (1 + (sumL t : Int) + (sumL f : Int) + (g.length : Int) < 0) := by omega
  have c6 : ¬ (1 + (sumL (smC t m f g).1 : Int) < 0) := by omega
  have c7 : 1 + (sumL t : Int) + (sumL f : Int) ≤ 1099511627776 := by omega
  have c8 : 0 ≤ 1 + (sumL t : Int) + (sumL f : Int) := by omega
  have c9 : 1 + (sumL t : Int) ≤ 1073741824 := by omega
  have c0 : 0 ≤ 1 + (sumL t : Int) := by omega
  simp [e1, e2, e3, d1, d2, d3, g1, c0, c1, c3, c4, c5, c6, c7, c8, c9, markR_length, markR_lens, markR_sum, markR_mark]
theorem lShiftM_fits : Fits Try.prog 4 ⟨[], lShiftM_ct⟩ := by
  refine fits_fn (Γ := gam lShiftM_G) (gok_cons szInt64SS_fits (gok_cons toInt64SS_fits (gok_cons toInt64S_fits (gok_cons eqInt64SS_fits (gok_cons eqInt64S_fits (gok_cons markInt64SS_fits (gok_cons markInt64S_fits (gok_cons heldInt64SS_fits (gok_cons sShiftM_fits (gok_cons iShiftM_fits gok_nil)))))))))) Try.func4 (by kernel_rfl) (by kernel_rfl) (by kernel_rfl) fun ds p h hp => ?_
  unfold lShiftM_ct at h
  split at h
  · cases h
    exact ⟨noWr, noAnn, by rw [lShiftM_vc]; exact lShiftM_ok _ _ _ _  hp⟩
  · cases h

end Go.Sx

