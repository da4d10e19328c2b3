/- Base -/
import Derived.Test.YtcdmndagoafcgaaProg
import Derived.Test.YtcdmndagoafcgaaSxZ
import Derived.KernelRfl
open Go Go.Proofs
namespace Go.Sx
set_option linter.unusedSimpArgs false
set_option linter.unusedVariables false

def toInt64S_p (l : List Int) : Post := ⟨room l.length, .c (.ints 2 .i64 (l)), []⟩
def toInt64S_ct : List AD → Option Post
  | [.c (.ints .i64 (l))] => some (toInt64S_p l)
  | _ => none
def toInt64S_ann (l : List Int) : Nat → Option Ann
  | 0 => some (Ann.mk ((Nat)) (fun i => ⟨[(0, .c (.ro (.ints .i64 (l)))), (4, .c (.int .i64 ((i : Int)))), (3, .c (.own (1)))], [(1, some (.ints 2 .i64 (l.take i ++ List.replicate (l.length - i) 0)))]⟩) (fun i => i ≤ l.length) (fun i => l.length - i) (fun _ => noAnn))
  | _ => none
def toInt64S_G : List (Nat × Ctr) := []
def toInt64S_V (l : List Int) : Prop :=
  ((((0 : Int) ≤ (↑(List.length l) : Int)) ∧
 (((↑(List.length l) : Int) ≤ (↑(List.length l) : Int)) ∧
 (room (Int.toNat (↑(List.length l) : Int))))) ∧
 ((∃ x0 : Nat, ((x0 ≤ List.length l) ∧
 ((l = l) ∧
 (((0 : Int) = (↑x0 : Int)) ∧
 (List.replicate (Int.toNat (↑(List.length l) : Int)) (0 : Int) = List.take x0 l ++ List.replicate (List.length l - x0) (0 : Int)))))) ∧
 (∀ x1 : Nat, ((x1 ≤ List.length l) →
 (BrP (Decidable.decide ((↑x1 : Int) < (↑(List.length l) : Int)))
 ((inB (↑x1 : Int) (List.length l)) ∧
 ((inB (↑x1 : Int) (List.length (List.take x1 l ++ List.replicate (List.length l - x1) (0 : Int)))) ∧
 ((InR ((↑x1 : Int) + (1 : Int))) ∧
 (∃ x2 : Nat, ((x2 ≤ List.length l) ∧
 ((List.length l - x2 < List.length l - x1) ∧
 ((l = l) ∧
 (((↑x1 : Int) + (1 : Int) = (↑x2 : Int)) ∧
 (List.set (List.take x1 l ++ List.replicate (List.length l - x1) (0 : Int)) (Int.toNat (↑x1 : Int)) (List.getD l (Int.toNat (↑x1 : Int)) (0 : Int)) = List.take x2 l ++ List.replicate (List.length l - x2) (0 : Int))))))))))
 ((List.take x1 l ++ List.replicate (List.length l - x1) (0 : Int) = l) ∧
 (True)))))))
theorem toInt64S_vc (l : List Int) : runF Try.prog (gam toInt64S_G) noWr (toInt64S_ann l) Try.f41 (bodyOf Try.f41) [] [.c (.ints .i64 (l))] (toInt64S_p l) = toInt64S_V l := by kernel_rfl
theorem toInt64S_ok (l : List Int) (hpre : (toInt64S_p l).pre) : toInt64S_V l := by
  simp only [toInt64S_p, toInt64S_V, BrP_iff, true_and, and_true, decide_eq_true_eq, decide_eq_false_iff_not, bne_iff_ne, beq_iff_eq, bne_eq_false_iff_eq, beq_eq_false_iff_ne, Bool.not_eq_true, Bool.not_eq_false, Bool.not_true, Bool.not_false, Bool.not_eq_eq_eq_not, Int.toNat_natCast, List.length_append, List.length_take, List.length_replicate, List.length_set, List.length_map, List.length_drop, List.length_nil, List.length_cons, markL_length, inB, InR, room, bdsOk] at hpre ⊢
  exact ⟨by omega, ⟨0, by omega, by simp, by simp⟩, fun i hi => ⟨fun h => ⟨by omega, by omega, by omega, i + 1, by omega, by omega, by omega, fill_step l 0 0 i (by omega)⟩, fun h => fill_end l 0 i (by omega)⟩⟩
theorem toInt64S_fits : Fits Try.prog 41 ⟨[], toInt64S_ct⟩ := by
  refine fits_fn (Γ := gam toInt64S_G) gok_nil Try.func41 (by kernel_rfl) (by kernel_rfl) (by kernel_rfl) fun ds p h hp => ?_
  unfold toInt64S_ct at h
  split at h
  · cases h
    exact ⟨noWr, toInt64S_ann _ , by rw [toInt64S_vc]; exact toInt64S_ok _  hp⟩
  · cases h

def eqInt64S_p (a : List Int) (b : List Int) : Post := ⟨room a.length, .c (.bool (decide (a = b))), []⟩
def eqInt64S_ct : List AD → Option Post
  | [.c (.ints .i64 (a)), .c (.ints .i64 (b))] => some (eqInt64S_p a b)
  | _ => none
def eqInt64S_ann (a : List Int) (b : List Int) : Nat → Option Ann
  | 0 => some (Ann.mk ((Nat)) (fun i => ⟨[(0, .c (.ro (.ints .i64 (a)))), (1, .c (.ro (.ints .i64 (b)))), (5, .c (.int .i64 ((i : Int))))], []⟩) (fun i => i ≤ a.length ∧ a.length = b.length ∧ a.take i = b.take i) (fun i => a.length - i) (fun _ => noAnn))
  | _ => none
def eqInt64S_G : List (Nat × Ctr) := []
def eqInt64S_V (a : List Int) (b : List Int) : Prop :=
  (BrP ((↑(List.length a) : Int) != (↑(List.length b) : Int))
 ((Bool.false = Decidable.decide (a = b)) ∧
 (True))
 ((∃ x0 : Nat, (((x0 ≤ List.length a) ∧
 ((List.length a = List.length b) ∧
 (List.take x0 a = List.take x0 b))) ∧
 ((a = a) ∧
 ((b = b) ∧
 ((0 : Int) = (↑x0 : Int)))))) ∧
 (∀ x1 : Nat, (((x1 ≤ List.length a) ∧
 ((List.length a = List.length b) ∧
 (List.take x1 a = List.take x1 b))) →
 (BrP (Decidable.decide ((↑x1 : Int) < (↑(List.length a) : Int)))
 ((inB (↑x1 : Int) (List.length a)) ∧
 ((inB (↑x1 : Int) (List.length b)) ∧
 (BrP (List.getD a (Int.toNat (↑x1 : Int)) (0 : Int) != List.getD b (Int.toNat (↑x1 : Int)) (0 : Int))
 ((Bool.false = Decidable.decide (a = b)) ∧
 (True))
 ((InR ((↑x1 : Int) + (1 : Int))) ∧
 (∃ x2 : Nat, (((x2 ≤ List.length a) ∧
 ((List.length a = List.length b) ∧
 (List.take x2 a = List.take x2 b))) ∧
 ((List.length a - x2 < List.length a - x1) ∧
 ((a = a) ∧
 ((b = b) ∧
 ((↑x1 : Int) + (1 : Int) = (↑x2 : Int)))))))))))
 ((Bool.true = Decidable.decide (a = b)) ∧
 (True)))))))
theorem eqInt64S_vc (a : List Int) (b : List Int) : runF Try.prog (gam eqInt64S_G) noWr (eqInt64S_ann a b) Try.f44 (bodyOf Try.f44) [] [.c (.ints .i64 (a)), .c (.ints .i64 (b))] (eqInt64S_p a b) = eqInt64S_V a b := by kernel_rfl
theorem eqInt64S_ok (a : List Int) (b : List Int) (hpre : (eqInt64S_p a b).pre) : eqInt64S_V a b := by
  simp only [eqInt64S_p, eqInt64S_V, BrP_iff, true_and, and_true, decide_eq_true_eq, decide_eq_false_iff_not, bne_iff_ne, beq_iff_eq, bne_eq_false_iff_eq, beq_eq_false_iff_ne, Bool.not_eq_true, Bool.not_eq_false, Bool.not_true, Bool.not_false, Bool.not_eq_eq_eq_not, Int.toNat_natCast, List.length_append, List.length_take, List.length_replicate, List.length_set, List.length_map, List.length_drop, List.length_nil, List.length_cons, markL_length, inB, InR, room, bdsOk] at hpre ⊢
  refine ⟨fun h => ?_, fun h => ⟨⟨0, ⟨by omega, by omega, rfl⟩, by simp⟩, fun i hi => ⟨fun h1 => ⟨by omega, by omega, fun h2 => ?_, fun h2 => ⟨by omega, i + 1, ⟨by omega, hi.2.1, ?_⟩, by omega, by omega⟩⟩, fun h1 => ?_⟩⟩⟩
  · exact (decide_eq_false fun e => h (by rw [e])).symm
  · exact (decide_eq_false fun e => h2 (by rw [e])).symm
  · exact (take_eq_step a b 0 i (by omega) (by omega) hi.2.2).2 h2
  · refine (decide_eq_true ?_).symm
    have := hi.2.2
    rwa [List.take_of_length_le (by omega), List.take_of_length_le (by omega)] at this
theorem eqInt64S_fits : Fits Try.prog 44 ⟨[], eqInt64S_ct⟩ := by
  refine fits_fn (Γ := gam eqInt64S_G) gok_nil Try.func44 (by kernel_rfl) (by kernel_rfl) (by kernel_rfl) fun ds p h hp => ?_
  unfold eqInt64S_ct at h
  split at h
  · cases h
    exact ⟨noWr, eqInt64S_ann _ _ , by rw [eqInt64S_vc]; exact eqInt64S_ok _ _  hp⟩
  · cases h

def markInt64S_p (l : List Int) (k : Int) : Post := ⟨room l.length ∧ 0 ≤ k ∧ k ≤ 1099511627776, .c (.int .i64 (k + (l.length : Int))), [.ints 2 .i64 (markL k l.length)]⟩
def markInt64S_ct : List AD → Option Post
  | [.c (.ints .i64 (l)), .c (.int .i64 (k))] => some (markInt64S_p l k)
  | _ => none
def markInt64S_ann (l : List Int) (k : Int) : Nat → Option Ann
  | 0 => some (Ann.mk ((Nat)) (fun i => ⟨[(0, .c (.own (700))), (1, .c (.int .i64 (k + (i : Int)))), (5, .c (.int .i64 ((i : Int))))], [(700, some (.ints 2 .i64 ((markL k l.length).take i ++ l.drop i)))]⟩) (fun i => i ≤ l.length) (fun i => l.length - i) (fun _ => noAnn))
  | _ => none
def markInt64S_G : List (Nat × Ctr) := []
def markInt64S_V (l : List Int) (k : Int) : Prop :=
  ((∃ x0 : Nat, ((x0 ≤ List.length l) ∧
 ((k = k + (↑x0 : Int)) ∧
 (((0 : Int) = (↑x0 : Int)) ∧
 (l = List.take x0 (markL k (List.length l)) ++ List.drop x0 l))))) ∧
 (∀ x1 : Nat, ((x1 ≤ List.length l) →
 (BrP (Decidable.decide ((↑x1 : Int) < (↑(List.length (List.take x1 (markL k (List.length l)) ++ List.drop x1 l)) : Int)))
 ((inB (↑x1 : Int) (List.length (List.take x1 (markL k (List.length l)) ++ List.drop x1 l))) ∧
 ((InR (k + (↑x1 : Int) + (1 : Int))) ∧
 ((InR ((↑x1 : Int) + (1 : Int))) ∧
 (∃ x2 : Nat, ((x2 ≤ List.length l) ∧
 ((List.length l - x2 < List.length l - x1) ∧
 ((k + (↑x1 : Int) + (1 : Int) = k + (↑x2 : Int)) ∧
 (((↑x1 : Int) + (1 : Int) = (↑x2 : Int)) ∧
 (List.set (List.take x1 (markL k (List.length l)) ++ List.drop x1 l) (Int.toNat (↑x1 : Int)) (k + (↑x1 : Int)) = List.take x2 (markL k (List.length l)) ++ List.drop x2 l)))))))))
 ((k + (↑x1 : Int) = k + (↑(List.length l) : Int)) ∧
 ((List.take x1 (markL k (List.length l)) ++ List.drop x1 l = markL k (List.length l)) ∧
 (True)))))))
theorem markInt64S_vc (l : List Int) (k : Int) : runF Try.prog (gam markInt64S_G) noWr (markInt64S_ann l k) Try.f45 (bodyOf Try.f45) [(0, 0)] [.c (.ints .i64 (l)), .c (.int .i64 (k))] (markInt64S_p l k) = markInt64S_V l k := by kernel_rfl
theorem markInt64S_ok (l : List Int) (k : Int) (hpre : (markInt64S_p l k).pre) : markInt64S_V l k := by
  simp only [markInt64S_p, markInt64S_V, BrP_iff, true_and, and_true, decide_eq_true_eq, decide_eq_false_iff_not, bne_iff_ne, beq_iff_eq, bne_eq_false_iff_eq, beq_eq_false_iff_ne, Bool.not_eq_true, Bool.not_eq_false, Bool.not_true, Bool.not_false, Bool.not_eq_eq_eq_not, Int.toNat_natCast, List.length_append, List.length_take, List.length_replicate, List.length_set, List.length_map, List.length_drop, List.length_nil, List.length_cons, markL_length, inB, InR, room, bdsOk] at hpre ⊢
  obtain ⟨h1, h2, h3⟩ := hpre
  refine ⟨⟨0, by omega, by simp⟩, fun i hi => ⟨fun h => ⟨by omega, by omega, by omega, i + 1, by omega, by omega, by omega, by omega, ?_⟩, fun h => ⟨?_, ?_⟩⟩⟩
  · rw [← set_take_drop (markL k l.length) l 0 i (markL_length _ _) (by omega), markL_getD _ _ _ (by omega)]
  · omega
  · rw [List.take_of_length_le (by rw [markL_length]; omega), List.drop_of_length_le (by omega), List.append_nil]
theorem markInt64S_fits : Fits Try.prog 45 ⟨[(0, 0)], markInt64S_ct⟩ := by
  refine fits_fn (Γ := gam markInt64S_G) gok_nil Try.func45 (by kernel_rfl) (by kernel_rfl) (by kernel_rfl) fun ds p h hp => ?_
  unfold markInt64S_ct at h
  split at h
  · cases h
    exact ⟨noWr, markInt64S_ann _ _ , by rw [markInt64S_vc]; exact markInt64S_ok _ _  hp⟩
  · cases h

def heldInt64S_p (l : List Int) (k : Int) : Post := ⟨room l.length ∧ 0 ≤ k ∧ k ≤ 1099511627776, .c (.int .i64 (if l = markL k l.length then k + (l.length : Int) else -1)), []⟩
def heldInt64S_ct : List AD → Option Post
  | [.c (.ints .i64 (l)), .c (.int .i64 (k))] => some (heldInt64S_p l k)
  | _ => none
def heldInt64S_ann (l : List Int) (k : Int) : Nat → Option Ann
  | 0 => some (Ann.mk ((Nat)) (fun i => ⟨[(0, .c (.ro (.ints .i64 (l)))), (1, .c (.int .i64 (k + (i : Int)))), (5, .c (.int .i64 ((i : Int))))], []⟩) (fun i => i ≤ l.length ∧ l.take i = (markL k l.length).take i) (fun i => l.length - i) (fun _ => noAnn))
  | _ => none
def heldInt64S_G : List (Nat × Ctr) := []
def heldInt64S_V (l : List Int) (k : Int) : Prop :=
  ((∃ x0 : Nat, (((x0 ≤ List.length l) ∧
 (List.take x0 l = List.take x0 (markL k (List.length l)))) ∧
 ((l = l) ∧
 ((k = k + (↑x0 : Int)) ∧
 ((0 : Int) = (↑x0 : Int)))))) ∧
 (∀ x1 : Nat, (((x1 ≤ List.length l) ∧
 (List.take x1 l = List.take x1 (markL k (List.length l)))) →
 (BrP (Decidable.decide ((↑x1 : Int) < (↑(List.length l) : Int)))
 ((inB (↑x1 : Int) (List.length l)) ∧
 (BrP (List.getD l (Int.toNat (↑x1 : Int)) (0 : Int) != k + (↑x1 : Int))
 (((-1 : Int) = if l = markL k (List.length l) then k + (↑(List.length l) : Int) else (-1 : Int)) ∧
 (True))
 ((InR (k + (↑x1 : Int) + (1 : Int))) ∧
 ((InR ((↑x1 : Int) + (1 : Int))) ∧
 (∃ x2 : Nat, (((x2 ≤ List.length l) ∧
 (List.take x2 l = List.take x2 (markL k (List.length l)))) ∧
 ((List.length l - x2 < List.length l - x1) ∧
 ((l = l) ∧
 ((k + (↑x1 : Int) + (1 : Int) = k + (↑x2 : Int)) ∧
 ((↑x1 : Int) + (1 : Int) = (↑x2 : Int)))))))))))
 ((k + (↑x1 : Int) = if l = markL k (List.length l) then k + (↑(List.length l) : Int) else (-1 : Int)) ∧
 (True))))))
theorem heldInt64S_vc (l : List Int) (k : Int) : runF Try.prog (gam heldInt64S_G) noWr (heldInt64S_ann l k) Try.f46 (bodyOf Try.f46) [] [.c (.ints .i64 (l)), .c (.int .i64 (k))] (heldInt64S_p l k) = heldInt64S_V l k := by kernel_rfl
theorem heldInt64S_ok (l : List Int) (k : Int) (hpre : (heldInt64S_p l k).pre) : heldInt64S_V l k := by
  simp only [heldInt64S_p, heldInt64S_V, BrP_iff, true_and, and_true, decide_eq_true_eq, decide_eq_false_iff_not, bne_iff_ne, beq_iff_eq, bne_eq_false_iff_eq, beq_eq_false_iff_ne, Bool.not_eq_true, Bool.not_eq_false, Bool.not_true, Bool.not_false, Bool.not_eq_eq_eq_not, Int.toNat_natCast, List.length_append, List.length_take, List.length_replicate, List.length_set, List.length_map, List.length_drop, List.length_nil, List.length_cons, markL_length, inB, InR, room, bdsOk] at hpre ⊢
  obtain ⟨h1, h2, h3⟩ := hpre
  refine ⟨⟨0, ⟨by omega, rfl⟩, by simp⟩, fun i hi => ⟨fun h => ⟨by omega, fun h4 => ?_, fun h4 => ⟨by omega, by omega, i + 1, ⟨by omega, ?_⟩, by omega, by omega, by omega⟩⟩, fun h => ?_⟩⟩
  · rw [if_neg]
    intro e
    rw [e, markL_getD _ _ _ (by omega)] at h4
    exact h4 rfl
  · rw [take_eq_step l (markL k l.length) 0 i (by omega) (by rw [markL_length]; omega) hi.2, markL_getD _ _ _ (by omega), h4]
  · have := hi.2
    rw [List.take_of_length_le (by omega), List.take_of_length_le (by rw [markL_length]; omega)] at this
    rw [if_pos this]
    omega
theorem heldInt64S_fits : Fits Try.prog 46 ⟨[], heldInt64S_ct⟩ := by
  refine fits_fn (Γ := gam heldInt64S_G) gok_nil Try.func46 (by kernel_rfl) (by kernel_rfl) (by kernel_rfl) fun ds p h hp => ?_
  unfold heldInt64S_ct at h
  split at h
  · cases h
    exact ⟨noWr, heldInt64S_ann _ _ , by rw [heldInt64S_vc]; exact heldInt64S_ok _ _  hp⟩
  · cases h

def szInt64S_p (l : List Int) (k : Int) : Post := ⟨(l.length : Int) ≤ 9223372036854775807 ∧ 0 ≤ k ∧ k ≤ 1099511627776, .c (.int .i64 (if k < (l.length : Int) then -1 else k - (l.length : Int))), []⟩
def szInt64S_ct : List AD → Option Post
  | [.c (.ints .i64 (l)), .c (.int .i64 (k))] => some (szInt64S_p l k)
  | _ => none
def szInt64S_G : List (Nat × Ctr) := []
def szInt64S_V (l : List Int) (k : Int) : Prop :=
  ((InR (k - (↑(List.length l) : Int))) ∧
 (BrP (Decidable.decide (k - (↑(List.length l) : Int) < (0 : Int)))
 (((-1 : Int) = if k < (↑(List.length l) : Int) then (-1 : Int) else k - (↑(List.length l) : Int)) ∧
 (True))
 ((k - (↑(List.length l) : Int) = if k < (↑(List.length l) : Int) then (-1 : Int) else k - (↑(List.length l) : Int)) ∧
 (True))))
theorem szInt64S_vc (l : List Int) (k : Int) : runF Try.prog (gam szInt64S_G) noWr noAnn Try.f37 (bodyOf Try.f37) [] [.c (.ints .i64 (l)), .c (.int .i64 (k))] (szInt64S_p l k) = szInt64S_V l k := by kernel_rfl
theorem szInt64S_ok (l : List Int) (k : Int) (hpre : (szInt64S_p l k).pre) : szInt64S_V l k := by
  simp only [szInt64S_p, szInt64S_V, BrP_iff, true_and, and_true, decide_eq_true_eq, decide_eq_false_iff_not, bne_iff_ne, beq_iff_eq, bne_eq_false_iff_eq, beq_eq_false_iff_ne, Bool.not_eq_true, Bool.not_eq_false, Bool.not_true, Bool.not_false, Bool.not_eq_eq_eq_not, Int.toNat_natCast, List.length_append, List.length_take, List.length_replicate, List.length_set, List.length_map, List.length_drop, List.length_nil, List.length_cons, markL_length, inB, InR, room, bdsOk] at hpre ⊢
  obtain ⟨h1, h2, h3⟩ := hpre
  refine ⟨by omega, fun h => ?_, fun h => ?_⟩
  · rw [if_pos (by omega)]
  · rw [if_neg (by omega)]
theorem szInt64S_fits : Fits Try.prog 37 ⟨[], szInt64S_ct⟩ := by
  refine fits_fn (Γ := gam szInt64S_G) gok_nil Try.func37 (by kernel_rfl) (by kernel_rfl) (by kernel_rfl) fun ds p h hp => ?_
  unfold szInt64S_ct at h
  split at h
  · cases h
    exact ⟨noWr, noAnn, by rw [szInt64S_vc]; exact szInt64S_ok _ _  hp⟩
  · cases h

def within_p (n : Int) (a : Int) (b : Int) : Post := ⟨True, .c (.bool (decide (a ≤ n ∧ n ≤ b))), []⟩
def within_ct : List AD → Option Post
  | [.c (.int .i64 (n)), .c (.int .i64 (a)), .c (.int .i64 (b))] => some (within_p n a b)
  | _ => none
def within_G : List (Nat × Ctr) := []
def within_V (n : Int) (a : Int) (b : Int) : Prop :=
  (BrP (Decidable.decide (a ≤ n))
 ((Decidable.decide (n ≤ b) = Decidable.decide (a ≤ n ∧ n ≤ b)) ∧
 (True))
 ((Bool.false = Decidable.decide (a ≤ n ∧ n ≤ b)) ∧
 (True)))
theorem within_vc (n : Int) (a : Int) (b : Int) : runF Try.prog (gam within_G) noWr noAnn Try.f84 (bodyOf Try.f84) [] [.c (.int .i64 (n)), .c (.int .i64 (a)), .c (.int .i64 (b))] (within_p n a b) = within_V n a b := by kernel_rfl
theorem within_ok (n : Int) (a : Int) (b : Int) (hpre : (within_p n a b).pre) : within_V n a b := by
  simp only [within_p, within_V, BrP_iff, true_and, and_true, decide_eq_true_eq, decide_eq_false_iff_not, bne_iff_ne, beq_iff_eq, bne_eq_false_iff_eq, beq_eq_false_iff_ne, Bool.not_eq_true, Bool.not_eq_false, Bool.not_true, Bool.not_false, Bool.not_eq_eq_eq_not, Int.toNat_natCast, List.length_append, List.length_take, List.length_replicate, List.length_set, List.length_map, List.length_drop, List.length_nil, List.length_cons, markL_length, inB, InR, room, bdsOk] at hpre ⊢
  refine ⟨fun h => ?_, fun h => ?_⟩
  · simp [h]
  · simp [h]
theorem within_fits : Fits Try.prog 84 ⟨[], within_ct⟩ := by
  refine fits_fn (Γ := gam within_G) gok_nil Try.func84 (by kernel_rfl) (by kernel_rfl) (by kernel_rfl) fun ds p h hp => ?_
  unfold within_ct at h
  split at h
  · cases h
    exact ⟨noWr, noAnn, by rw [within_vc]; exact within_ok _ _ _  hp⟩
  · cases h

def l01In_p (n : Int) (a : Int) (b : Int) : Post := ⟨True, .c (.bool (decide (a ≤ n ∧ n ≤ b))), []⟩
def l01In_ct : List AD → Option Post
  | [.c (.int .i64 (n)), .c (.int .i64 (a)), .c (.int .i64 (b))] => some (l01In_p n a b)
  | _ => none
def l01In_G : List (Nat × Ctr) := []
def l01In_V (n : Int) (a : Int) (b : Int) : Prop :=
  (BrP (Decidable.decide (a ≤ n))
 ((Decidable.decide (n ≤ b) = Decidable.decide (a ≤ n ∧ n ≤ b)) ∧
 (True))
 ((Bool.false = Decidable.decide (a ≤ n ∧ n ≤ b)) ∧
 (True)))
theorem l01In_vc (n : Int) (a : Int) (b : Int) : runF Try.prog (gam l01In_G) noWr noAnn Try.f74 (bodyOf Try.f74) [] [.c (.int .i64 (n)), .c (.int .i64 (a)), .c (.int .i64 (b))] (l01In_p n a b) = l01In_V n a b := by kernel_rfl
theorem l01In_ok (n : Int) (a : Int) (b : Int) (hpre : (l01In_p n a b).pre) : l01In_V n a b := by
  simp only [l01In_p, l01In_V, BrP_iff, true_and, and_true, decide_eq_true_eq, decide_eq_false_iff_not, bne_iff_ne, beq_iff_eq, bne_eq_false_iff_eq, beq_eq_false_iff_ne, Bool.not_eq_true, Bool.not_eq_false, Bool.not_true, Bool.not_false, Bool.not_eq_eq_eq_not, Int.toNat_natCast, List.length_append, List.length_take, List.length_replicate, List.length_set, List.length_map, List.length_drop, List.length_nil, List.length_cons, markL_length, inB, InR, room, bdsOk] at hpre ⊢
  refine ⟨fun h => ?_, fun h => ?_⟩
  · simp [h]
  · simp [h]
theorem l01In_fits : Fits Try.prog 74 ⟨[], l01In_ct⟩ := by
  refine fits_fn (Γ := gam l01In_G) gok_nil Try.func74 (by kernel_rfl) (by kernel_rfl) (by kernel_rfl) fun ds p h hp => ?_
  unfold l01In_ct at h
  split at h
  · cases h
    exact ⟨noWr, noAnn, by rw [l01In_vc]; exact l01In_ok _ _ _  hp⟩
  · cases h

def allW (lo hi : Int) (l : List Int) : Bool := l.all fun x => decide (lo ≤ x ∧ x ≤ hi)

theorem allW_drop (lo hi : Int) (l : List Int) (i : Nat) (h : i < l.length) : allW lo hi (l.drop i) = (decide (lo ≤ l.getD i 0 ∧ l.getD i 0 ≤ hi) && allW lo hi (l.drop (i + 1))) := by
  rw [drop_cons' l 0 i h]
  rfl

theorem allW_get {lo hi : Int} {l : List Int} (h : allW lo hi l = true) (i : Nat) (hi' : i < l.length) : lo ≤ l.getD i 0 ∧ l.getD i 0 ≤ hi := by
  rw [getD_lt l 0 i hi']
  have := List.all_eq_true.1 h _ (List.getElem_mem hi')
  simpa using this



end Go.Sx
