/- BraidB -/
import Derived.Test.YtcdmndagoafcgaaBase
open Go Go.Proofs
namespace Go.Sx
set_option linter.unusedSimpArgs false
set_option linter.unusedVariables false

/-- The place of the first number with p, counted from k; -1 if there is none. -/
def idxF (p : Int → Bool) : List Int → Int → Int
  | [], _ => -1
  | x :: l, k => if p x = true then k else idxF p l (k + 1)

theorem idxF_any (p : Int → Bool) : ∀ (l : List Int) (k : Int), 0 ≤ k → decide (0 ≤ idxF p l k) = l.any p
  | [], k, _ => rfl
  | x :: l, k, h => by
    simp only [idxF, List.any_cons]
    by_cases hp : p x = true
    · simp [hp, h]
    · simpa [hp] using idxF_any p l (k + 1) (by omega)

def letB (s x : Int) : Bool := decide (x ≠ 0 ∧ 1 - s ≤ x ∧ x ≤ s - 1)

def braidB (s : Int) (w : List Int) : Bool := decide (2 ≤ s ∧ s ≤ 6) && decide (w.length ≤ 30) && w.all (letB s)

theorem braidB_no {s : Int} {w : List Int} (h : ¬ (2 ≤ s ∧ s ≤ 6)) : braidB s w = false := by simp [braidB, h]

def szBraid_p (s : Int) (w : List Int) (k : Int) : Post := ⟨(w.length : Int) ≤ 9223372036854775807 ∧ 0 ≤ k ∧ k ≤ 1099511627776, .c (.int .i64 (if k < (w.length : Int) then -1 else k - (w.length : Int))), []⟩
def szBraid_ct : List AD → Option Post
  | [.agg [.int .i64 (s), .ints .i64 (w)], .c (.int .i64 (k))] => some (szBraid_p s w k)
  | _ => none
def szBraid_G : List (Nat × Ctr) := [(37, ⟨[], szInt64S_ct⟩)]
def szBraid_V (s : Int) (w : List Int) (k : Int) : Prop :=
  (((((↑(List.length w) : Int) ≤ (9223372036854775807 : Int)) ∧
 (((0 : Int) ≤ k) ∧
 (k ≤ (1099511627776 : Int)))) ∧
 (True)) ∧
 (BrP (Decidable.decide ((if k < (↑(List.length w) : Int) then (-1 : Int) else k - (↑(List.length w) : Int)) < (0 : Int)))
 (((-1 : Int) = if k < (↑(List.length w) : Int) then (-1 : Int) else k - (↑(List.length w) : Int)) ∧
 (True))
 (((if k < (↑(List.length w) : Int) then (-1 : Int) else k - (↑(List.length w) : Int)) = if k < (↑(List.length w) : Int) then (-1 : Int) else k - (↑(List.length w) : Int)) ∧
 (True))))
theorem szBraid_vc (s : Int) (w : List Int) (k : Int) : runF Try.prog (gam szBraid_G) noWr noAnn Try.f7 (bodyOf Try.f7) [] [.agg [.int .i64 (s), .ints .i64 (w)], .c (.int .i64 (k))] (szBraid_p s w k) = szBraid_V s w k := by kernel_rfl
theorem szBraid_ok (s : Int) (w : List Int) (k : Int) (hpre : (szBraid_p s w k).pre) : szBraid_V s w k := by
  simp only [szBraid_p, szBraid_V, BrP_iff, true_and, and_true, decide_eq_true_eq, decide_eq_false_iff_not, bne_iff_ne, beq_iff_eq, bne_eq_false_iff_eq, beq_eq_false_iff_ne, Bool.not_eq_true, Bool.not_eq_false, Bool.not_true, Bool.not_false, Bool.not_eq_eq_eq_not, Int.toNat_natCast, List.length_append, List.length_take, List.length_replicate, List.length_set, List.length_map, List.length_drop, List.length_nil, List.length_cons, markL_length, inB, InR, room, bdsOk] at hpre ⊢
  refine ⟨hpre, fun h => ?_, fun h => trivial⟩
  split at h
  · rename_i h1; rw [if_pos h1]
  · omega
theorem szBraid_fits : Fits Try.prog 7 ⟨[], szBraid_ct⟩ := by
  refine fits_fn (Γ := gam szBraid_G) (gok_cons szInt64S_fits gok_nil) Try.func7 (by kernel_rfl) (by kernel_rfl) (by kernel_rfl) fun ds p h hp => ?_
  unfold szBraid_ct at h
  split at h
  · cases h
    exact ⟨noWr, noAnn, by rw [szBraid_vc]; exact szBraid_ok _ _ _  hp⟩
  · cases h

def toBraid_p (s : Int) (w : List Int) : Post := ⟨room w.length, .agg [.int .i64 (s), .ints 2 .i64 (w)], []⟩
def toBraid_ct : List AD → Option Post
  | [.agg [.int .i64 (s), .ints .i64 (w)]] => some (toBraid_p s w)
  | _ => none
def toBraid_G : List (Nat × Ctr) := [(41, ⟨[], toInt64S_ct⟩)]
def toBraid_V (s : Int) (w : List Int) : Prop :=
  (((room (List.length w)) ∧
 (True)) ∧
 (((s = s) ∧
 ((w = w) ∧
 (True))) ∧
 (True)))
theorem toBraid_vc (s : Int) (w : List Int) : runF Try.prog (gam toBraid_G) noWr noAnn Try.f9 (bodyOf Try.f9) [] [.agg [.int .i64 (s), .ints .i64 (w)]] (toBraid_p s w) = toBraid_V s w := by kernel_rfl
theorem toBraid_ok (s : Int) (w : List Int) (hpre : (toBraid_p s w).pre) : toBraid_V s w := by
  simp only [toBraid_p, toBraid_V, BrP_iff, true_and, and_true, decide_eq_true_eq, decide_eq_false_iff_not, bne_iff_ne, beq_iff_eq, bne_eq_false_iff_eq, beq_eq_false_iff_ne, Bool.not_eq_true, Bool.not_eq_false, Bool.not_true, Bool.not_false, Bool.not_eq_eq_eq_not, Int.toNat_natCast, List.length_append, List.length_take, List.length_replicate, List.length_set, List.length_map, List.length_drop, List.length_nil, List.length_cons, markL_length, inB, InR, room, bdsOk] at hpre ⊢
  exact hpre
theorem toBraid_fits : Fits Try.prog 9 ⟨[], toBraid_ct⟩ := by
  refine fits_fn (Γ := gam toBraid_G) (gok_cons toInt64S_fits gok_nil) Try.func9 (by kernel_rfl) (by kernel_rfl) (by kernel_rfl) fun ds p h hp => ?_
  unfold toBraid_ct at h
  split at h
  · cases h
    exact ⟨noWr, noAnn, by rw [toBraid_vc]; exact toBraid_ok _ _  hp⟩
  · cases h

def eqBraid_p (s : Int) (w : List Int) (s2 : Int) (w2 : List Int) : Post := ⟨room w.length, .c (.bool (decide (s = s2 ∧ w = w2))), []⟩
def eqBraid_ct : List AD → Option Post
  | [.agg [.int .i64 (s), .ints .i64 (w)], .agg [.int .i64 (s2), .ints .i64 (w2)]] => some (eqBraid_p s w s2 w2)
  | _ => none
def eqBraid_G : List (Nat × Ctr) := [(44, ⟨[], eqInt64S_ct⟩)]
def eqBraid_V (s : Int) (w : List Int) (s2 : Int) (w2 : List Int) : Prop :=
  (BrP (s != s2)
 ((Bool.false = Decidable.decide (s = s2 ∧ w = w2)) ∧
 (True))
 (((room (List.length w)) ∧
 (True)) ∧
 (BrP (!Decidable.decide (w = w2))
 ((Bool.false = Decidable.decide (s = s2 ∧ w = w2)) ∧
 (True))
 ((Bool.true = Decidable.decide (s = s2 ∧ w = w2)) ∧
 (True)))))
theorem eqBraid_vc (s : Int) (w : List Int) (s2 : Int) (w2 : List Int) : runF Try.prog (gam eqBraid_G) noWr noAnn Try.f12 (bodyOf Try.f12) [] [.agg [.int .i64 (s), .ints .i64 (w)], .agg [.int .i64 (s2), .ints .i64 (w2)]] (eqBraid_p s w s2 w2) = eqBraid_V s w s2 w2 := by kernel_rfl
theorem eqBraid_ok (s : Int) (w : List Int) (s2 : Int) (w2 : List Int) (hpre : (eqBraid_p s w s2 w2).pre) : eqBraid_V s w s2 w2 := by
  simp only [eqBraid_p, eqBraid_V, BrP_iff, true_and, and_true, decide_eq_true_eq, decide_eq_false_iff_not, bne_iff_ne, beq_iff_eq, bne_eq_false_iff_eq, beq_eq_false_iff_ne, Bool.not_eq_true, Bool.not_eq_false, Bool.not_true, Bool.not_false, Bool.not_eq_eq_eq_not, Int.toNat_natCast, List.length_append, List.length_take, List.length_replicate, List.length_set, List.length_map, List.length_drop, List.length_nil, List.length_cons, markL_length, inB, InR, room, bdsOk] at hpre ⊢
  refine ⟨fun h => (decide_eq_false fun e => h e.1).symm, fun h => ⟨hpre, fun h1 => (decide_eq_false fun e => h1 e.2).symm, fun h1 => (decide_eq_true ⟨h, h1⟩).symm⟩⟩
theorem eqBraid_fits : Fits Try.prog 12 ⟨[], eqBraid_ct⟩ := by
  refine fits_fn (Γ := gam eqBraid_G) (gok_cons eqInt64S_fits gok_nil) Try.func12 (by kernel_rfl) (by kernel_rfl) (by kernel_rfl) fun ds p h hp => ?_
  unfold eqBraid_ct at h
  split at h
  · cases h
    exact ⟨noWr, noAnn, by rw [eqBraid_vc]; exact eqBraid_ok _ _ _ _  hp⟩
  · cases h

def markBraid_p (s : Int) (w : List Int) (k : Int) : Post := ⟨room w.length ∧ 0 ≤ k ∧ k ≤ 1099511627776, .c (.int .i64 (k + (w.length : Int))), [.ints 2 .i64 (markL k w.length)]⟩
def markBraid_ct : List AD → Option Post
  | [.agg [.int .i64 (s), .ints .i64 (w)], .c (.int .i64 (k))] => some (markBraid_p s w k)
  | _ => none
def markBraid_G : List (Nat × Ctr) := [(45, ⟨[(0, 0)], markInt64S_ct⟩)]
def markBraid_V (s : Int) (w : List Int) (k : Int) : Prop :=
  ((((room (List.length w)) ∧
 (((0 : Int) ≤ k) ∧
 (k ≤ (1099511627776 : Int)))) ∧
 ((List.length (markL k (List.length w)) = List.length w) ∧
 (True))) ∧
 ((k + (↑(List.length w) : Int) = k + (↑(List.length w) : Int)) ∧
 ((markL k (List.length w) = markL k (List.length w)) ∧
 (True))))
theorem markBraid_vc (s : Int) (w : List Int) (k : Int) : runF Try.prog (gam markBraid_G) noWr noAnn Try.f13 (bodyOf Try.f13) [(0, 1)] [.agg [.int .i64 (s), .ints .i64 (w)], .c (.int .i64 (k))] (markBraid_p s w k) = markBraid_V s w k := by kernel_rfl
theorem markBraid_ok (s : Int) (w : List Int) (k : Int) (hpre : (markBraid_p s w k).pre) : markBraid_V s w k := by
  simp only [markBraid_p, markBraid_V, BrP_iff, true_and, and_true, decide_eq_true_eq, decide_eq_false_iff_not, bne_iff_ne, beq_iff_eq, bne_eq_false_iff_eq, beq_eq_false_iff_ne, Bool.not_eq_true, Bool.not_eq_false, Bool.not_true, Bool.not_false, Bool.not_eq_eq_eq_not, Int.toNat_natCast, List.length_append, List.length_take, List.length_replicate, List.length_set, List.length_map, List.length_drop, List.length_nil, List.length_cons, markL_length, inB, InR, room, bdsOk] at hpre ⊢
  exact hpre
theorem markBraid_fits : Fits Try.prog 13 ⟨[(0, 1)], markBraid_ct⟩ := by
  refine fits_fn (Γ := gam markBraid_G) (gok_cons markInt64S_fits gok_nil) Try.func13 (by kernel_rfl) (by kernel_rfl) (by kernel_rfl) fun ds p h hp => ?_
  unfold markBraid_ct at h
  split at h
  · cases h
    exact ⟨noWr, noAnn, by rw [markBraid_vc]; exact markBraid_ok _ _ _  hp⟩
  · cases h


def l16Is_p (s : Int) (w : List Int) : Post := ⟨room w.length, .c (.bool (braidB s w)), []⟩
def l16Is_ct : List AD → Option Post
  | [.agg [.int .i64 (s), .ints .i64 (w)]] => some (l16Is_p s w)
  | _ => none
def l16Is_ann (s : Int) (w : List Int) : Nat → Option Ann
  | 0 => some (Ann.mk ((Nat)) (fun i => ⟨[(1, .c (.ptr 1 0)), (3, .c (.int .i64 ((i : Int))))], [(1, some (.box [.int .i64 (s), .ro (.ints .i64 (w))]))]⟩) (fun i => i ≤ w.length ∧ (2 ≤ s ∧ s ≤ 6 → w.all (letB s) = (w.drop i).all (letB s))) (fun i => w.length - i) (fun _ => noAnn))
  | _ => none
def l16Is_wr (t : Nat) : Bool := [25, 28].contains t
def l16Is_G : List (Nat × Ctr) := [(74, ⟨[], l01In_ct⟩)]
def l16Is_V (s : Int) (w : List Int) : Prop :=
  ((∃ x0 : Nat, (((x0 ≤ List.length w) ∧
 ((2 : Int) ≤ s ∧ s ≤ (6 : Int) → List.all w (letB s) = List.all (List.drop x0 w) (letB s))) ∧
 (((0 : Int) = (↑x0 : Int)) ∧
 ((s = s) ∧
 (w = w))))) ∧
 (∀ x1 : Nat, (((x1 ≤ List.length w) ∧
 ((2 : Int) ≤ s ∧ s ≤ (6 : Int) → List.all w (letB s) = List.all (List.drop x1 w) (letB s))) →
 (BrP (Decidable.decide ((↑x1 : Int) < (↑(List.length w) : Int)))
 ((inB (↑x1 : Int) (List.length w)) ∧
 (BrP (List.getD w (Int.toNat (↑x1 : Int)) (0 : Int) == (0 : Int))
 ((Bool.false = braidB s w) ∧
 (True))
 ((inB (↑x1 : Int) (List.length w)) ∧
 (((True) ∧
 (True)) ∧
 (BrP (!Decidable.decide (IntKind.wrap IntKind.i64 ((1 : Int) - s) ≤ List.getD w (Int.toNat (↑x1 : Int)) (0 : Int) ∧ List.getD w (Int.toNat (↑x1 : Int)) (0 : Int) ≤ IntKind.wrap IntKind.i64 (s - (1 : Int))))
 ((Bool.false = braidB s w) ∧
 (True))
 ((InR ((↑x1 : Int) + (1 : Int))) ∧
 (∃ x2 : Nat, (((x2 ≤ List.length w) ∧
 ((2 : Int) ≤ s ∧ s ≤ (6 : Int) → List.all w (letB s) = List.all (List.drop x2 w) (letB s))) ∧
 ((List.length w - x2 < List.length w - x1) ∧
 (((↑x1 : Int) + (1 : Int) = (↑x2 : Int)) ∧
 ((s = s) ∧
 (w = w))))))))))))
 (((True) ∧
 (True)) ∧
 (BrP (Decidable.decide ((2 : Int) ≤ s ∧ s ≤ (6 : Int)))
 ((Decidable.decide ((↑(List.length w) : Int) ≤ (30 : Int)) = braidB s w) ∧
 (True))
 ((Bool.false = braidB s w) ∧
 (True))))))))
theorem l16Is_vc (s : Int) (w : List Int) : runF Try.prog (gam l16Is_G) l16Is_wr (l16Is_ann s w) Try.f38 (bodyOf Try.f38) [] [.agg [.int .i64 (s), .ints .i64 (w)]] (l16Is_p s w) = l16Is_V s w := by kernel_rfl
theorem l16Is_ok (s : Int) (w : List Int) (hpre : (l16Is_p s w).pre) : l16Is_V s w := by
  simp only [l16Is_p, l16Is_V, BrP_iff, true_and, and_true, decide_eq_true_eq, decide_eq_false_iff_not, bne_iff_ne, beq_iff_eq, bne_eq_false_iff_eq, beq_eq_false_iff_ne, Bool.not_eq_true, Bool.not_eq_false, Bool.not_true, Bool.not_false, Bool.not_eq_eq_eq_not, Int.toNat_natCast, List.length_append, List.length_take, List.length_replicate, List.length_set, List.length_map, List.length_drop, List.length_nil, List.length_cons, markL_length, inB, InR, room, bdsOk] at hpre ⊢
  refine ⟨⟨0, ⟨by omega, fun _ => rfl⟩, rfl⟩, fun i ⟨hi, he⟩ => ⟨fun h => ?_, fun h => ?_⟩⟩
  · have hd := all_drop (letB s) (l := w) (i := i) (by omega)
    have no : ((2 ≤ s ∧ s ≤ 6) → letB s (w.getD i 0) = false) → false = braidB s w := fun hn => by
      by_cases hs : 2 ≤ s ∧ s ≤ 6
      · simp only [braidB, he hs, hd, hn hs, Bool.false_and, Bool.and_false]
      · exact (braidB_no hs).symm
    have hw : (2 ≤ s ∧ s ≤ 6) → IntKind.i64.wrap (1 - s) = 1 - s ∧ IntKind.i64.wrap (s - 1) = s - 1 := fun hs => ⟨wrapIn (by omega), wrapIn (by omega)⟩
    refine ⟨by omega, fun h1 => no fun _ => ?_, fun h1 => ⟨by omega, fun h2 => no fun hs => ?_, fun h2 => ⟨by omega, i + 1, ⟨by omega, fun hs => ?_⟩, by omega, by omega⟩⟩⟩
    · rw [h1]; simp [letB]
    · rw [(hw hs).1, (hw hs).2] at h2
      exact decide_eq_false fun hc => h2 hc.2
    · rw [he hs, hd]
      rw [(hw hs).1, (hw hs).2] at h2
      have : letB s (w.getD i 0) = true := decide_eq_true ⟨h1, h2⟩
      rw [this]
      rfl
  · refine ⟨fun hs => ?_, fun hs => (braidB_no hs).symm⟩
    have : w.all (letB s) = true := by rw [he hs, List.drop_of_length_le (by omega)]; rfl
    simp only [braidB, this, decide_eq_true hs, Bool.true_and, Bool.and_true]
    exact decide_eq_decide.2 (by omega)
theorem l16Is_fits : Fits Try.prog 38 ⟨[], l16Is_ct⟩ := by
  refine fits_fn (Γ := gam l16Is_G) (gok_cons l01In_fits gok_nil) Try.func38 (by kernel_rfl) (by kernel_rfl) (by kernel_rfl) fun ds p h hp => ?_
  unfold l16Is_ct at h
  split at h
  · cases h
    exact ⟨l16Is_wr, l16Is_ann _ _ , by rw [l16Is_vc]; exact l16Is_ok _ _  hp⟩
  · cases h


def isLetter_p (s : Int) (x : Int) : Post := ⟨2 ≤ s ∧ s ≤ 6, .c (.bool (letB s x)), []⟩
def isLetter_ct : List AD → Option Post
  | [.c (.int .i64 (s)), .c (.int .i64 (x))] => some (isLetter_p s x)
  | _ => none
def isLetter_G : List (Nat × Ctr) := [(84, ⟨[], within_ct⟩)]
def isLetter_V (s : Int) (x : Int) : Prop :=
  (BrP (x != (0 : Int))
 ((InR ((1 : Int) - s)) ∧
 ((InR (s - (1 : Int))) ∧
 (((True) ∧
 (True)) ∧
 ((Decidable.decide ((1 : Int) - s ≤ x ∧ x ≤ s - (1 : Int)) = letB s x) ∧
 (True)))))
 ((Bool.false = letB s x) ∧
 (True)))
theorem isLetter_vc (s : Int) (x : Int) : runF Try.prog (gam isLetter_G) noWr noAnn Try.f87 (bodyOf Try.f87) [] [.c (.int .i64 (s)), .c (.int .i64 (x))] (isLetter_p s x) = isLetter_V s x := by kernel_rfl
theorem isLetter_ok (s : Int) (x : Int) (hpre : (isLetter_p s x).pre) : isLetter_V s x := by
  simp only [isLetter_p, isLetter_V, BrP_iff, true_and, and_true, decide_eq_true_eq, decide_eq_false_iff_not, bne_iff_ne, beq_iff_eq, bne_eq_false_iff_eq, beq_eq_false_iff_ne, Bool.not_eq_true, Bool.not_eq_false, Bool.not_true, Bool.not_false, Bool.not_eq_eq_eq_not, Int.toNat_natCast, List.length_append, List.length_take, List.length_replicate, List.length_set, List.length_map, List.length_drop, List.length_nil, List.length_cons, markL_length, inB, InR, room, bdsOk] at hpre ⊢
  refine ⟨fun h => ⟨by omega, by omega, ?_⟩, fun h => by simp [letB, h]⟩
  exact decide_eq_decide.2 ⟨fun k => ⟨h, k⟩, fun k => k.2⟩
theorem isLetter_fits : Fits Try.prog 87 ⟨[], isLetter_ct⟩ := by
  refine fits_fn (Γ := gam isLetter_G) (gok_cons within_fits gok_nil) Try.func87 (by kernel_rfl) (by kernel_rfl) (by kernel_rfl) fun ds p h hp => ?_
  unfold isLetter_ct at h
  split at h
  · cases h
    exact ⟨noWr, noAnn, by rw [isLetter_vc]; exact isLetter_ok _ _  hp⟩
  · cases h

def IsBraid1_p (x : Int) (s : Int) (w : List Int) : Post := ⟨2 ≤ s ∧ s ≤ 6, .c (.bool (!letB s x)), []⟩
def IsBraid1_ct : List AD → Option Post
  | [.c (.int .i64 (x)), .box [.int .i64 (s), .ints .i64 (w)]] => some (IsBraid1_p x s w)
  | _ => none
def IsBraid1_G : List (Nat × Ctr) := [(87, ⟨[], isLetter_ct⟩)]
def IsBraid1_V (x : Int) (s : Int) (w : List Int) : Prop :=
  (((((2 : Int) ≤ s) ∧
 (s ≤ (6 : Int))) ∧
 (True)) ∧
 (((!letB s x) = !letB s x) ∧
 (True)))
theorem IsBraid1_vc (x : Int) (s : Int) (w : List Int) : runF Try.prog (gam IsBraid1_G) noWr noAnn Try.f86 (bodyOf Try.f86) [] [.c (.int .i64 (x)), .box [.int .i64 (s), .ints .i64 (w)]] (IsBraid1_p x s w) = IsBraid1_V x s w := by kernel_rfl
theorem IsBraid1_ok (x : Int) (s : Int) (w : List Int) (hpre : (IsBraid1_p x s w).pre) : IsBraid1_V x s w := by
  simp only [IsBraid1_p, IsBraid1_V, BrP_iff, true_and, and_true, decide_eq_true_eq, decide_eq_false_iff_not, bne_iff_ne, beq_iff_eq, bne_eq_false_iff_eq, beq_eq_false_iff_ne, Bool.not_eq_true, Bool.not_eq_false, Bool.not_true, Bool.not_false, Bool.not_eq_eq_eq_not, Int.toNat_natCast, List.length_append, List.length_take, List.length_replicate, List.length_set, List.length_map, List.length_drop, List.length_nil, List.length_cons, markL_length, inB, InR, room, bdsOk] at hpre ⊢
  exact hpre
theorem IsBraid1_fits : Fits Try.prog 86 ⟨[], IsBraid1_ct⟩ := by
  refine fits_fn (Γ := gam IsBraid1_G) (gok_cons isLetter_fits gok_nil) Try.func86 (by kernel_rfl) (by kernel_rfl) (by kernel_rfl) fun ds p h hp => ?_
  unfold IsBraid1_ct at h
  split at h
  · cases h
    exact ⟨noWr, noAnn, by rw [IsBraid1_vc]; exact IsBraid1_ok _ _ _  hp⟩
  · cases h

def IndexFunc_p (l : List Int) (q : Int → Prop) (p : Int → Bool) : Post := ⟨room l.length ∧ ∀ x ∈ l, q x, .c (.int .i64 (idxF p l 0)), []⟩
def IndexFunc_ct : List AD → Option Post
  | [.c (.ints .i64 (l)), .fv (.ib q p)] => some (IndexFunc_p l q p)
  | _ => none
def IndexFunc_ann (l : List Int) (q : Int → Prop) (p : Int → Bool) : Nat → Option Ann
  | 0 => some (Ann.mk ((Nat)) (fun i => ⟨[(0, .c (.ro (.ints .i64 (l)))), (1, .fv (.ib q p)), (7, .c (.int .i64 ((l.length : Int)))), (8, .c (.int .i64 ((i : Int))))], []⟩) (fun i => i ≤ l.length ∧ idxF p l 0 = idxF p (l.drop i) (i : Int)) (fun i => l.length - i) (fun _ => noAnn))
  | _ => none
def IndexFunc_G : List (Nat × Ctr) := []
def IndexFunc_V (l : List Int) (q : Int → Prop) (p : Int → Bool) : Prop :=
  ((∃ x0 : Nat, (((x0 ≤ List.length l) ∧
 (idxF p l (0 : Int) = idxF p (List.drop x0 l) (↑x0 : Int))) ∧
 ((l = l) ∧
 ((FV.ib q p = FV.ib q p) ∧
 (((↑(List.length l) : Int) = (↑(List.length l) : Int)) ∧
 ((0 : Int) = (↑x0 : Int))))))) ∧
 (∀ x1 : Nat, (((x1 ≤ List.length l) ∧
 (idxF p l (0 : Int) = idxF p (List.drop x1 l) (↑x1 : Int))) →
 (BrP (Decidable.decide ((↑x1 : Int) < (↑(List.length l) : Int)))
 ((inB (↑x1 : Int) (List.length l)) ∧
 ((q (List.getD l (Int.toNat (↑x1 : Int)) (0 : Int))) ∧
 (BrP (p (List.getD l (Int.toNat (↑x1 : Int)) (0 : Int)))
 (((↑x1 : Int) = idxF p l (0 : Int)) ∧
 (True))
 ((InR ((↑x1 : Int) + (1 : Int))) ∧
 (∃ x2 : Nat, (((x2 ≤ List.length l) ∧
 (idxF p l (0 : Int) = idxF p (List.drop x2 l) (↑x2 : Int))) ∧
 ((List.length l - x2 < List.length l - x1) ∧
 ((l = l) ∧
 ((FV.ib q p = FV.ib q p) ∧
 (((↑(List.length l) : Int) = (↑(List.length l) : Int)) ∧
 ((↑x1 : Int) + (1 : Int) = (↑x2 : Int))))))))))))
 (((-1 : Int) = idxF p l (0 : Int)) ∧
 (True))))))
theorem IndexFunc_vc (l : List Int) (q : Int → Prop) (p : Int → Bool) : runF Try.prog (gam IndexFunc_G) noWr (IndexFunc_ann l q p) Try.f118 (bodyOf Try.f118) [] [.c (.ints .i64 (l)), .fv (.ib q p)] (IndexFunc_p l q p) = IndexFunc_V l q p := by kernel_rfl
theorem IndexFunc_ok (l : List Int) (q : Int → Prop) (p : Int → Bool) (hpre : (IndexFunc_p l q p).pre) : IndexFunc_V l q p := by
  simp only [IndexFunc_p, IndexFunc_V, BrP_iff, true_and, and_true, decide_eq_true_eq, decide_eq_false_iff_not, bne_iff_ne, beq_iff_eq, bne_eq_false_iff_eq, beq_eq_false_iff_ne, Bool.not_eq_true, Bool.not_eq_false, Bool.not_true, Bool.not_false, Bool.not_eq_eq_eq_not, Int.toNat_natCast, List.length_append, List.length_take, List.length_replicate, List.length_set, List.length_map, List.length_drop, List.length_nil, List.length_cons, markL_length, inB, InR, room, bdsOk] at hpre ⊢
  obtain ⟨hl, hq⟩ := hpre
  refine ⟨⟨0, ⟨by omega, rfl⟩, rfl⟩, fun i ⟨hi, he⟩ => ⟨fun h => ?_, fun h => ?_⟩⟩
  · rw [drop_cons' l 0 i (by omega)] at he
    simp only [idxF] at he
    refine ⟨by omega, hq _ (getD_mem l 0 i (by omega)), fun h1 => ?_, fun h1 => ⟨by omega, i + 1, ⟨by omega, ?_⟩, by omega, by omega⟩⟩
    · rw [he, if_pos h1]
    · rw [he, if_neg (by rw [h1]; exact Bool.false_ne_true)]; simp
  · rw [he, List.drop_of_length_le (by omega)]; rfl
theorem IndexFunc_fits : Fits Try.prog 118 ⟨[], IndexFunc_ct⟩ := by
  refine fits_fn (Γ := gam IndexFunc_G) gok_nil Try.func118 (by kernel_rfl) (by kernel_rfl) (by kernel_rfl) fun ds p h hp => ?_
  unfold IndexFunc_ct at h
  split at h
  · cases h
    exact ⟨noWr, IndexFunc_ann _ _ _ , by rw [IndexFunc_vc]; exact IndexFunc_ok _ _ _  hp⟩
  · cases h

def ContainsFunc_p (l : List Int) (q : Int → Prop) (p : Int → Bool) : Post := ⟨room l.length ∧ ∀ x ∈ l, q x, .c (.bool (l.any p)), []⟩
def ContainsFunc_ct : List AD → Option Post
  | [.c (.ints .i64 (l)), .fv (.ib q p)] => some (ContainsFunc_p l q p)
  | _ => none
def ContainsFunc_G : List (Nat × Ctr) := [(118, ⟨[], IndexFunc_ct⟩)]
def ContainsFunc_V (l : List Int) (q : Int → Prop) (p : Int → Bool) : Prop :=
  ((((room (List.length l)) ∧
 (∀ (x : Int), x ∈ l → q x)) ∧
 (True)) ∧
 ((Decidable.decide ((0 : Int) ≤ idxF p l (0 : Int)) = List.any l p) ∧
 (True)))
theorem ContainsFunc_vc (l : List Int) (q : Int → Prop) (p : Int → Bool) : runF Try.prog (gam ContainsFunc_G) noWr noAnn Try.f85 (bodyOf Try.f85) [] [.c (.ints .i64 (l)), .fv (.ib q p)] (ContainsFunc_p l q p) = ContainsFunc_V l q p := by kernel_rfl
theorem ContainsFunc_ok (l : List Int) (q : Int → Prop) (p : Int → Bool) (hpre : (ContainsFunc_p l q p).pre) : ContainsFunc_V l q p := by
  simp only [ContainsFunc_p, ContainsFunc_V, BrP_iff, true_and, and_true, decide_eq_true_eq, decide_eq_false_iff_not, bne_iff_ne, beq_iff_eq, bne_eq_false_iff_eq, beq_eq_false_iff_ne, Bool.not_eq_true, Bool.not_eq_false, Bool.not_true, Bool.not_false, Bool.not_eq_eq_eq_not, Int.toNat_natCast, List.length_append, List.length_take, List.length_replicate, List.length_set, List.length_map, List.length_drop, List.length_nil, List.length_cons, markL_length, inB, InR, room, bdsOk] at hpre ⊢
  exact ⟨hpre, idxF_any p l 0 (by omega)⟩
theorem ContainsFunc_fits : Fits Try.prog 85 ⟨[], ContainsFunc_ct⟩ := by
  refine fits_fn (Γ := gam ContainsFunc_G) (gok_cons IndexFunc_fits gok_nil) Try.func85 (by kernel_rfl) (by kernel_rfl) (by kernel_rfl) fun ds p h hp => ?_
  unfold ContainsFunc_ct at h
  split at h
  · cases h
    exact ⟨noWr, noAnn, by rw [ContainsFunc_vc]; exact ContainsFunc_ok _ _ _  hp⟩
  · cases h

def iIsBraid_p (s : Int) (w : List Int) : Post := ⟨room w.length, .c (.bool (braidB s w)), []⟩
def iIsBraid_ct : List AD → Option Post
  | [.agg [.int .i64 (s), .ints .i64 (w)]] => some (iIsBraid_p s w)
  | _ => none
def iIsBraid_G : List (Nat × Ctr) := [(84, ⟨[], within_ct⟩), (85, ⟨[], ContainsFunc_ct⟩), (86, ⟨[], IsBraid1_ct⟩)]
def iIsBraid_V (s : Int) (w : List Int) : Prop :=
  (((True) ∧
 (True)) ∧
 (BrP (Decidable.decide ((2 : Int) ≤ s ∧ s ≤ (6 : Int)))
 (BrP (Decidable.decide ((↑(List.length w) : Int) ≤ (30 : Int)))
 ((((room (List.length w)) ∧
 (∀ (x : Int), x ∈ w → (2 : Int) ≤ s ∧ s ≤ (6 : Int))) ∧
 (True)) ∧
 (((!List.any w fun (x : Int) => !letB s x) = braidB s w) ∧
 (True)))
 ((Bool.false = braidB s w) ∧
 (True)))
 ((Bool.false = braidB s w) ∧
 (True))))
theorem iIsBraid_vc (s : Int) (w : List Int) : runF Try.prog (gam iIsBraid_G) noWr noAnn Try.f42 (bodyOf Try.f42) [] [.agg [.int .i64 (s), .ints .i64 (w)]] (iIsBraid_p s w) = iIsBraid_V s w := by kernel_rfl
theorem iIsBraid_ok (s : Int) (w : List Int) (hpre : (iIsBraid_p s w).pre) : iIsBraid_V s w := by
  simp only [iIsBraid_p, iIsBraid_V, BrP_iff, true_and, and_true, decide_eq_true_eq, decide_eq_false_iff_not, bne_iff_ne, beq_iff_eq, bne_eq_false_iff_eq, beq_eq_false_iff_ne, Bool.not_eq_true, Bool.not_eq_false, Bool.not_true, Bool.not_false, Bool.not_eq_eq_eq_not, Int.toNat_natCast, List.length_append, List.length_take, List.length_replicate, List.length_set, List.length_map, List.length_drop, List.length_nil, List.length_cons, markL_length, inB, InR, room, bdsOk] at hpre ⊢
  refine ⟨fun hs => ⟨fun hl => ⟨⟨hpre, fun x _ => hs⟩, ?_⟩, fun hl => by simp [braidB]; omega⟩, fun hs => (braidB_no hs).symm⟩
  show (w.any fun x => !letB s x) = !braidB s w
  have : braidB s w = w.all (letB s) := by simp only [braidB, decide_eq_true hs, Bool.true_and]; rw [decide_eq_true (by omega)]; rfl
  rw [this, List.all_eq_not_any_not, Bool.not_not]
theorem iIsBraid_fits : Fits Try.prog 42 ⟨[], iIsBraid_ct⟩ := by
  refine fits_fn (Γ := gam iIsBraid_G) (gok_cons within_fits (gok_cons ContainsFunc_fits (gok_cons IsBraid1_fits gok_nil))) Try.func42 (by kernel_rfl) (by kernel_rfl) (by kernel_rfl) fun ds p h hp => ?_
  unfold iIsBraid_ct at h
  split at h
  · cases h
    exact ⟨noWr, noAnn, by rw [iIsBraid_vc]; exact iIsBraid_ok _ _  hp⟩
  · cases h


end Go.Sx
