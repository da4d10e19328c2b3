/- Contracts of cosets and quotients. -/
import Derived.Test.YtaipacgkkjkjdaaIds
open Go Go.Proofs
namespace Go.Sx
set_option linter.unusedSimpArgs false
set_option linter.unusedVariables false

theorem nbL_length (l : List Int) : (nbL l).length = l.length := tab_length _ _
theorem nbL_getD (l : List Int) (i : Nat) (h : i < l.length) : (nbL l).getD i 0 = idxL (l.getD i 0) (nbS l (i + 1)) 0 := tab_getD _ _ _ h
theorem lsL_length (t : List (List Int)) (s : Int) : (lsL t s).length = t.length := tab_length _ _

def numbered_p (l : List Int) : Post := ⟨l.length ≤ 1000, .c (.ints 2 .i64 (nbL l)), []⟩
def numbered_ct : List AD → Option Post
  | [.c (.ints .i64 (l))] => some (numbered_p l)
  | _ => none
def numbered_ann (l : List Int) : Nat → Option Ann
  | 0 => some (Ann.mk ((Nat)) (fun i => ⟨[(3, .c (.own (3))), (4, .c (.own (10))), (11, .c (.ro (.ints .i64 (l)))), (12, .c (.int .i64 ((l.length : Int)))), (13, .c (.int .i64 ((i : Int))))], [(3, some (.ints 2 .i64 (nbS l i))), (10, some (.ints 2 .i64 ((nbL l).take i ++ List.replicate (l.length - i) 0)))]⟩) (fun i => i ≤ l.length) (fun i => l.length - i) (fun _ => noAnn))
  | _ => none
def numbered_G : List (Nat × Ctr) := [(132, ⟨[], Index_ct⟩)]
def numbered_V (l : List Int) : Prop :=
  ((((0 : Int) ≤ (↑(List.length l) : Int)) ∧
  (((↑(List.length l) : Int) ≤ (↑(List.length l) : Int)) ∧
  (Go.Sx.room (Int.toNat (↑(List.length l) : Int))))) ∧
  ((∃ x0 : Nat, ((x0 ≤ List.length l) ∧
  ((l = l) ∧
  (((↑(List.length l) : Int) = (↑(List.length l) : Int)) ∧
  (((0 : Int) = (↑x0 : Int)) ∧
  ((Go.Sx.nbS l x0 = []) ∧
  (List.replicate (Int.toNat (↑(List.length l) : Int)) (0 : Int) = List.take x0 (Go.Sx.nbL l) ++ List.replicate (List.length l - x0) (0 : Int)))))))) ∧
  (∀ x1 : Nat, ((x1 ≤ List.length l) →
  (BrP (Decidable.decide ((↑x1 : Int) < (↑(List.length l) : Int)))
    ((Go.Sx.inB (↑x1 : Int) (List.length l)) ∧
    (((List.length (Go.Sx.nbS l x1) ≤ (1099511627776 : Nat)) ∧
    (True)) ∧
    (BrP (Decidable.decide (Go.Sx.idxL (List.getD l (Int.toNat (↑x1 : Int)) (0 : Int)) (Go.Sx.nbS l x1) (0 : Int) < (0 : Int)))
      ((Go.Sx.room (List.length (Go.Sx.nbS l x1) + List.length [List.getD l (Int.toNat (↑x1 : Int)) (0 : Int)])) ∧
      ((Go.Sx.inB (↑x1 : Int) (List.length (List.take x1 (Go.Sx.nbL l) ++ List.replicate (List.length l - x1) (0 : Int)))) ∧
      ((Go.Sx.InR ((↑x1 : Int) + (1 : Int))) ∧
      (∃ x2 : Nat, ((x2 ≤ List.length l) ∧
      ((List.length l - x2 < List.length l - x1) ∧
      ((l = l) ∧
      (((↑(List.length l) : Int) = (↑(List.length l) : Int)) ∧
      (((↑x1 : Int) + (1 : Int) = (↑x2 : Int)) ∧
      ((Go.Sx.nbS l x1 ++ [List.getD l (Int.toNat (↑x1 : Int)) (0 : Int)] = Go.Sx.nbS l x2) ∧
      (List.set (List.take x1 (Go.Sx.nbL l) ++ List.replicate (List.length l - x1) (0 : Int)) (Int.toNat (↑x1 : Int)) (↑(List.length (Go.Sx.nbS l x1)) : Int) = List.take x2 (Go.Sx.nbL l) ++ List.replicate (List.length l - x2) (0 : Int))))))))))))
      ((Go.Sx.inB (↑x1 : Int) (List.length (List.take x1 (Go.Sx.nbL l) ++ List.replicate (List.length l - x1) (0 : Int)))) ∧
      ((Go.Sx.InR ((↑x1 : Int) + (1 : Int))) ∧
      (∃ x3 : Nat, ((x3 ≤ List.length l) ∧
      ((List.length l - x3 < List.length l - x1) ∧
      ((l = l) ∧
      (((↑(List.length l) : Int) = (↑(List.length l) : Int)) ∧
      (((↑x1 : Int) + (1 : Int) = (↑x3 : Int)) ∧
      ((Go.Sx.nbS l x1 = Go.Sx.nbS l x3) ∧
      (List.set (List.take x1 (Go.Sx.nbL l) ++ List.replicate (List.length l - x1) (0 : Int)) (Int.toNat (↑x1 : Int)) (Go.Sx.idxL (List.getD l (Int.toNat (↑x1 : Int)) (0 : Int)) (Go.Sx.nbS l x1) (0 : Int)) = List.take x3 (Go.Sx.nbL l) ++ List.replicate (List.length l - x3) (0 : Int))))))))))))))
    ((List.take x1 (Go.Sx.nbL l) ++ List.replicate (List.length l - x1) (0 : Int) = Go.Sx.nbL l) ∧
    (True)))))))
theorem numbered_vc (l : List Int) : runF Try.prog (gam numbered_G) noWr (numbered_ann l) Try.f119 (bodyOf Try.f119) [] [.c (.ints .i64 (l))] (numbered_p l) = numbered_V l := by kernel_rfl
theorem numbered_ok (l : List Int) (hpre : (numbered_p l).pre) : numbered_V l := by
  simp only [numbered_p, numbered_V, BrP_iff, true_and, and_true, decide_eq_true_eq, decide_eq_false_iff_not, bne_iff_ne, beq_iff_eq, bne_eq_false_iff_eq, beq_eq_false_iff_ne, Bool.not_eq_true, Bool.not_eq_false, Bool.not_true, Bool.not_false, Bool.not_eq_eq_eq_not, Int.toNat_natCast, List.length_append, List.length_take, List.length_replicate, List.length_set, List.length_map, List.length_drop, List.length_nil, List.length_cons, markL_length, inB, InR, room, bdsOk] at hpre ⊢
  have hl := nbL_length l
  refine ⟨by omega, ⟨0, by omega, rfl, rfl, by simp⟩, fun i hi => ⟨fun h => ?_, fun h => ?_⟩⟩
  · have sl := nbS_len l i
    have fs := fill_step (nbL l) 0 0 i (by omega)
    rw [hl] at fs
    refine ⟨by omega, by omega, fun h2 => ?_, fun h2 => ?_⟩
    · have hm : l.getD i 0 ∉ nbS l i := fun hm => by have := idxL_nn _ _ hm; omega
      have e2 : nbS l (i + 1) = nbS l i ++ [l.getD i 0] := if_neg hm
      have e3 : (nbL l).getD i 0 = ((nbS l i).length : Int) := by rw [nbL_getD l i (by omega), e2, idxL_new _ _ _ hm, Int.zero_add]
      rw [e3] at fs
      exact ⟨by omega, by omega, by omega, i + 1, by omega, by omega, by omega, e2.symm, fs⟩
    · have hm : l.getD i 0 ∈ nbS l i := by
        by_cases hm : l.getD i 0 ∈ nbS l i
        · exact hm
        · rw [idxL_none _ _ _ hm] at h2; omega
      have e2 : nbS l (i + 1) = nbS l i := if_pos hm
      have e3 : (nbL l).getD i 0 = idxL (l.getD i 0) (nbS l i) 0 := by rw [nbL_getD l i (by omega), e2]
      rw [e3] at fs
      exact ⟨by omega, by omega, i + 1, by omega, by omega, by omega, e2.symm, fs⟩
  · rw [List.take_of_length_le (by omega), show l.length - i = 0 by omega]; simp
theorem numbered_fits : Fits Try.prog 119 ⟨[], numbered_ct⟩ := by
  refine fits_fn (Γ := gam numbered_G) (gok_cons Index_fits gok_nil) Try.func119 (by kernel_rfl) (by kernel_rfl) (by kernel_rfl) fun ds p h hp => ?_
  unfold numbered_ct at h
  split at h
  · cases h
    exact ⟨noWr, numbered_ann _ , by rw [numbered_vc]; exact numbered_ok _  hp⟩
  · cases h

def l04Numbered_p (l : List Int) : Post := ⟨l.length ≤ 1000, .c (.ints 2 .i64 (nbL l)), []⟩
def l04Numbered_ct : List AD → Option Post
  | [.c (.ints .i64 (l))] => some (l04Numbered_p l)
  | _ => none
def l04Numbered_ann (l : List Int) : Nat → Option Ann
  | 0 => some (Ann.mk ((Nat)) (fun i => ⟨[(0, .c (.ro (.ints .i64 (l)))), (3, .c (.own (6))), (4, .c (.own (7))), (5, .c (.int .i64 ((i : Int))))], [(6, some (.ints 2 .i64 ((nbL l).take i))), (7, some (.ints 2 .i64 (nbS l i)))]⟩) (fun i => i ≤ l.length) (fun i => l.length - i) (fun _ => noAnn))
  | _ => none
def l04Numbered_G : List (Nat × Ctr) := [(128, ⟨[], l01Has_ct⟩), (122, ⟨[], l01Index_ct⟩)]
def l04Numbered_V (l : List Int) : Prop :=
  ((∃ x0 : Nat, ((x0 ≤ List.length l) ∧
  ((l = l) ∧
  (((0 : Int) = (↑x0 : Int)) ∧
  (([] = List.take x0 (Go.Sx.nbL l)) ∧
  ([] = Go.Sx.nbS l x0)))))) ∧
  (∀ x1 : Nat, ((x1 ≤ List.length l) →
  (BrP (Decidable.decide ((↑x1 : Int) < (↑(List.length l) : Int)))
    ((Go.Sx.inB (↑x1 : Int) (List.length l)) ∧
    (((List.length (Go.Sx.nbS l x1) ≤ (1099511627776 : Nat)) ∧
    (True)) ∧
    (BrP (!Decidable.decide (List.getD l (Int.toNat (↑x1 : Int)) (0 : Int) ∈ Go.Sx.nbS l x1))
      ((Go.Sx.inB (↑x1 : Int) (List.length l)) ∧
      ((Go.Sx.room (List.length (Go.Sx.nbS l x1) + List.length [List.getD l (Int.toNat (↑x1 : Int)) (0 : Int)])) ∧
      ((Go.Sx.inB (↑x1 : Int) (List.length l)) ∧
      (((List.length (Go.Sx.nbS l x1 ++ [List.getD l (Int.toNat (↑x1 : Int)) (0 : Int)]) ≤ (1099511627776 : Nat)) ∧
      (True)) ∧
      ((Go.Sx.room (List.length (List.take x1 (Go.Sx.nbL l)) + List.length [Go.Sx.idxL (List.getD l (Int.toNat (↑x1 : Int)) (0 : Int)) (Go.Sx.nbS l x1 ++ [List.getD l (Int.toNat (↑x1 : Int)) (0 : Int)]) (0 : Int)])) ∧
      ((Go.Sx.InR ((↑x1 : Int) + (1 : Int))) ∧
      (∃ x2 : Nat, ((x2 ≤ List.length l) ∧
      ((List.length l - x2 < List.length l - x1) ∧
      ((l = l) ∧
      (((↑x1 : Int) + (1 : Int) = (↑x2 : Int)) ∧
      ((List.take x1 (Go.Sx.nbL l) ++ [Go.Sx.idxL (List.getD l (Int.toNat (↑x1 : Int)) (0 : Int)) (Go.Sx.nbS l x1 ++ [List.getD l (Int.toNat (↑x1 : Int)) (0 : Int)]) (0 : Int)] = List.take x2 (Go.Sx.nbL l)) ∧
      (Go.Sx.nbS l x1 ++ [List.getD l (Int.toNat (↑x1 : Int)) (0 : Int)] = Go.Sx.nbS l x2)))))))))))))
      ((Go.Sx.inB (↑x1 : Int) (List.length l)) ∧
      (((List.length (Go.Sx.nbS l x1) ≤ (1099511627776 : Nat)) ∧
      (True)) ∧
      ((Go.Sx.room (List.length (List.take x1 (Go.Sx.nbL l)) + List.length [Go.Sx.idxL (List.getD l (Int.toNat (↑x1 : Int)) (0 : Int)) (Go.Sx.nbS l x1) (0 : Int)])) ∧
      ((Go.Sx.InR ((↑x1 : Int) + (1 : Int))) ∧
      (∃ x3 : Nat, ((x3 ≤ List.length l) ∧
      ((List.length l - x3 < List.length l - x1) ∧
      ((l = l) ∧
      (((↑x1 : Int) + (1 : Int) = (↑x3 : Int)) ∧
      ((List.take x1 (Go.Sx.nbL l) ++ [Go.Sx.idxL (List.getD l (Int.toNat (↑x1 : Int)) (0 : Int)) (Go.Sx.nbS l x1) (0 : Int)] = List.take x3 (Go.Sx.nbL l)) ∧
      (Go.Sx.nbS l x1 = Go.Sx.nbS l x3))))))))))))))
    ((List.take x1 (Go.Sx.nbL l) = Go.Sx.nbL l) ∧
    (True))))))
theorem l04Numbered_vc (l : List Int) : runF Try.prog (gam l04Numbered_G) noWr (l04Numbered_ann l) Try.f115 (bodyOf Try.f115) [] [.c (.ints .i64 (l))] (l04Numbered_p l) = l04Numbered_V l := by kernel_rfl
theorem l04Numbered_ok (l : List Int) (hpre : (l04Numbered_p l).pre) : l04Numbered_V l := by
  simp only [l04Numbered_p, l04Numbered_V, BrP_iff, true_and, and_true, decide_eq_true_eq, decide_eq_false_iff_not, bne_iff_ne, beq_iff_eq, bne_eq_false_iff_eq, beq_eq_false_iff_ne, Bool.not_eq_true, Bool.not_eq_false, Bool.not_true, Bool.not_false, Bool.not_eq_eq_eq_not, Int.toNat_natCast, List.length_append, List.length_take, List.length_replicate, List.length_set, List.length_map, List.length_drop, List.length_nil, List.length_cons, markL_length, inB, InR, room, bdsOk] at hpre ⊢
  have hl := nbL_length l
  refine ⟨⟨0, by omega, rfl, rfl, rfl⟩, fun i hi => ⟨fun h => ?_, fun h => List.take_of_length_le (by omega)⟩⟩
  have sl := nbS_len l i
  have ts := take_snoc (nbL l) 0 i (by omega)
  refine ⟨by omega, by omega, fun hm => ?_, fun hm => ?_⟩
  · have e2 : nbS l (i + 1) = nbS l i ++ [l.getD i 0] := if_neg hm
    have e3 : (nbL l).getD i 0 = idxL (l.getD i 0) (nbS l i ++ [l.getD i 0]) 0 := by rw [nbL_getD l i (by omega), e2]
    rw [e3] at ts
    exact ⟨by omega, by omega, by omega, by omega, by omega, by omega, i + 1, by omega, by omega, by omega, ts, e2.symm⟩
  · have e2 : nbS l (i + 1) = nbS l i := if_pos hm
    have e3 : (nbL l).getD i 0 = idxL (l.getD i 0) (nbS l i) 0 := by rw [nbL_getD l i (by omega), e2]
    rw [e3] at ts
    exact ⟨by omega, by omega, by omega, by omega, i + 1, by omega, by omega, by omega, ts, e2.symm⟩
theorem l04Numbered_fits : Fits Try.prog 115 ⟨[], l04Numbered_ct⟩ := by
  refine fits_fn (Γ := gam l04Numbered_G) (gok_cons l01Has_fits (gok_cons l01Index_fits gok_nil)) Try.func115 (by kernel_rfl) (by kernel_rfl) (by kernel_rfl) fun ds p h hp => ?_
  unfold l04Numbered_ct at h
  split at h
  · cases h
    exact ⟨noWr, l04Numbered_ann _ , by rw [l04Numbered_vc]; exact l04Numbered_ok _  hp⟩
  · cases h

def lsP (t : List (List Int)) (s : Int) (i j : Nat) : Int := ((elN s 12).take j).foldl (fun m y => mn m (en t i y.toNat)) (i : Int)

def cosets_p (t : List (List Int)) (s : Int) : Post := ⟨setOk t s, .c (.ints 2 .i64 (csL t s)), []⟩
def cosets_ct : List AD → Option Post
  | [.c (.rows .i64 (t)), .c (.int .i64 (s))] => some (cosets_p t s)
  | _ => none
def cosets_ann (t : List (List Int)) (s : Int) : Nat → Option Ann
  | 0 => some (Ann.mk ((Nat)) (fun i => ⟨[(0, .c (.ro (.rows .i64 (t)))), (1, .c (.int .i64 (s))), (5, .c (.own (11))), (13, .c (.int .i64 ((t.length : Int)))), (14, .c (.int .i64 ((i : Int))))], [(11, some (.ints 2 .i64 ((lsL t s).take i ++ List.replicate (t.length - i) 0)))]⟩) (fun i => i ≤ t.length) (fun i => t.length - i) (fun i => fun b_ => match b_ with | 2 => some (Ann.mk ((Nat)) (fun j => ⟨[(0, .c (.ro (.rows .i64 (t)))), (1, .c (.int .i64 (s))), (5, .c (.own (11))), (13, .c (.int .i64 ((t.length : Int)))), (14, .c (.int .i64 ((i : Int)))), (6, .c (.int .i64 ((i : Int)))), (22, .c (.own (22))), (23, .c (.int .i64 (((elN s 12).length : Int)))), (24, .c (.int .i64 ((j : Int))))], [(11, some (.ints 2 .i64 ((lsL t s).take i ++ lsP t s i j :: List.replicate (t.length - (i + 1)) 0))), (22, some (.ints 2 .i64 (elN s 12)))]⟩) (fun j => j ≤ (elN s 12).length ∧ i < t.length) (fun j => (elN s 12).length - j) (fun _ => noAnn)) | _ => none))
  | _ => none
def cosets_G : List (Nat × Ctr) := [(118, ⟨[], elementsOf_ct⟩), (119, ⟨[], numbered_ct⟩)]
def cosets_V (t : List (List Int)) (s : Int) : Prop :=
  ((((0 : Int) ≤ (↑(List.length t) : Int)) ∧
  (((↑(List.length t) : Int) ≤ (↑(List.length t) : Int)) ∧
  (Go.Sx.room (Int.toNat (↑(List.length t) : Int))))) ∧
  ((∃ x0 : Nat, ((x0 ≤ List.length t) ∧
  ((t = t) ∧
  ((s = s) ∧
  (((↑(List.length t) : Int) = (↑(List.length t) : Int)) ∧
  (((0 : Int) = (↑x0 : Int)) ∧
  (List.replicate (Int.toNat (↑(List.length t) : Int)) (0 : Int) = List.take x0 (Go.Sx.lsL t s) ++ List.replicate (List.length t - x0) (0 : Int)))))))) ∧
  (∀ x1 : Nat, ((x1 ≤ List.length t) →
  (BrP (Decidable.decide ((↑x1 : Int) < (↑(List.length t) : Int)))
    ((Go.Sx.inB (↑x1 : Int) (List.length (List.take x1 (Go.Sx.lsL t s) ++ List.replicate (List.length t - x1) (0 : Int)))) ∧
    (((((0 : Int) ≤ s) ∧
    (s < (4096 : Int))) ∧
    (True)) ∧
    ((∃ x2 : Nat, (((x2 ≤ List.length (Go.Sx.elN s (12 : Nat))) ∧
    (x1 < List.length t)) ∧
    ((t = t) ∧
    ((s = s) ∧
    (((↑(List.length t) : Int) = (↑(List.length t) : Int)) ∧
    (((↑x1 : Int) = (↑x1 : Int)) ∧
    (((↑x1 : Int) = (↑x1 : Int)) ∧
    (((↑(List.length (Go.Sx.elN s (12 : Nat))) : Int) = (↑(List.length (Go.Sx.elN s (12 : Nat))) : Int)) ∧
    (((0 : Int) = (↑x2 : Int)) ∧
    ((List.set (List.take x1 (Go.Sx.lsL t s) ++ List.replicate (List.length t - x1) (0 : Int)) (Int.toNat (↑x1 : Int)) (↑x1 : Int) = List.take x1 (Go.Sx.lsL t s) ++ Go.Sx.lsP t s x1 x2 :: List.replicate (List.length t - (x1 + (1 : Nat))) (0 : Int)) ∧
    (Go.Sx.elN s (12 : Nat) = Go.Sx.elN s (12 : Nat)))))))))))) ∧
    (∀ x3 : Nat, (((x3 ≤ List.length (Go.Sx.elN s (12 : Nat))) ∧
    (x1 < List.length t)) →
    (BrP (Decidable.decide ((↑x3 : Int) < (↑(List.length (Go.Sx.elN s (12 : Nat))) : Int)))
      ((Go.Sx.inB (↑x3 : Int) (List.length (Go.Sx.elN s (12 : Nat)))) ∧
      ((Go.Sx.inB (↑x1 : Int) (List.length (List.take x1 (Go.Sx.lsL t s) ++ Go.Sx.lsP t s x1 x3 :: List.replicate (List.length t - (x1 + (1 : Nat))) (0 : Int)))) ∧
      ((Go.Sx.inB (↑x1 : Int) (List.length t)) ∧
      ((Go.Sx.inB (List.getD (Go.Sx.elN s (12 : Nat)) (Int.toNat (↑x3 : Int)) (0 : Int)) (List.length (List.getD t (Int.toNat (↑x1 : Int)) []))) ∧
      ((Go.Sx.inB (↑x1 : Int) (List.length (List.take x1 (Go.Sx.lsL t s) ++ Go.Sx.lsP t s x1 x3 :: List.replicate (List.length t - (x1 + (1 : Nat))) (0 : Int)))) ∧
      ((Go.Sx.InR ((↑x3 : Int) + (1 : Int))) ∧
      (∃ x4 : Nat, (((x4 ≤ List.length (Go.Sx.elN s (12 : Nat))) ∧
      (x1 < List.length t)) ∧
      ((List.length (Go.Sx.elN s (12 : Nat)) - x4 < List.length (Go.Sx.elN s (12 : Nat)) - x3) ∧
      ((t = t) ∧
      ((s = s) ∧
      (((↑(List.length t) : Int) = (↑(List.length t) : Int)) ∧
      (((↑x1 : Int) = (↑x1 : Int)) ∧
      (((↑x1 : Int) = (↑x1 : Int)) ∧
      (((↑(List.length (Go.Sx.elN s (12 : Nat))) : Int) = (↑(List.length (Go.Sx.elN s (12 : Nat))) : Int)) ∧
      (((↑x3 : Int) + (1 : Int) = (↑x4 : Int)) ∧
      ((List.set (List.take x1 (Go.Sx.lsL t s) ++ Go.Sx.lsP t s x1 x3 :: List.replicate (List.length t - (x1 + (1 : Nat))) (0 : Int)) (Int.toNat (↑x1 : Int)) (if List.getD (List.getD t (Int.toNat (↑x1 : Int)) []) (Int.toNat (List.getD (Go.Sx.elN s (12 : Nat)) (Int.toNat (↑x3 : Int)) (0 : Int))) (0 : Int) < List.getD (List.take x1 (Go.Sx.lsL t s) ++ Go.Sx.lsP t s x1 x3 :: List.replicate (List.length t - (x1 + (1 : Nat))) (0 : Int)) (Int.toNat (↑x1 : Int)) (0 : Int) then List.getD (List.getD t (Int.toNat (↑x1 : Int)) []) (Int.toNat (List.getD (Go.Sx.elN s (12 : Nat)) (Int.toNat (↑x3 : Int)) (0 : Int))) (0 : Int) else List.getD (List.take x1 (Go.Sx.lsL t s) ++ Go.Sx.lsP t s x1 x3 :: List.replicate (List.length t - (x1 + (1 : Nat))) (0 : Int)) (Int.toNat (↑x1 : Int)) (0 : Int)) = List.take x1 (Go.Sx.lsL t s) ++ Go.Sx.lsP t s x1 x4 :: List.replicate (List.length t - (x1 + (1 : Nat))) (0 : Int)) ∧
      (Go.Sx.elN s (12 : Nat) = Go.Sx.elN s (12 : Nat)))))))))))))))))))
      ((Go.Sx.InR ((↑x1 : Int) + (1 : Int))) ∧
      (∃ x5 : Nat, ((x5 ≤ List.length t) ∧
      ((List.length t - x5 < List.length t - x1) ∧
      ((t = t) ∧
      ((s = s) ∧
      (((↑(List.length t) : Int) = (↑(List.length t) : Int)) ∧
      (((↑x1 : Int) + (1 : Int) = (↑x5 : Int)) ∧
      (List.take x1 (Go.Sx.lsL t s) ++ Go.Sx.lsP t s x1 x3 :: List.replicate (List.length t - (x1 + (1 : Nat))) (0 : Int) = List.take x5 (Go.Sx.lsL t s) ++ List.replicate (List.length t - x5) (0 : Int))))))))))))))))
    (((List.length (List.take x1 (Go.Sx.lsL t s) ++ List.replicate (List.length t - x1) (0 : Int)) ≤ (1000 : Nat)) ∧
    (True)) ∧
    ((Go.Sx.nbL (List.take x1 (Go.Sx.lsL t s) ++ List.replicate (List.length t - x1) (0 : Int)) = Go.Sx.csL t s) ∧
    (True))))))))
theorem cosets_vc (t : List (List Int)) (s : Int) : runF Try.prog (gam cosets_G) noWr (cosets_ann t s) Try.f89 (bodyOf Try.f89) [] [.c (.rows .i64 (t)), .c (.int .i64 (s))] (cosets_p t s) = cosets_V t s := by kernel_rfl
theorem cosets_ok (t : List (List Int)) (s : Int) (hpre : (cosets_p t s).pre) : cosets_V t s := by
  simp only [cosets_p, cosets_V, BrP_iff, true_and, and_true, decide_eq_true_eq, decide_eq_false_iff_not, bne_iff_ne, beq_iff_eq, bne_eq_false_iff_eq, beq_eq_false_iff_ne, Bool.not_eq_true, Bool.not_eq_false, Bool.not_true, Bool.not_false, Bool.not_eq_eq_eq_not, Int.toNat_natCast, List.length_append, List.length_take, List.length_replicate, List.length_set, List.length_map, List.length_drop, List.length_nil, List.length_cons, markL_length, inB, InR, room, bdsOk] at hpre ⊢
  have S := setOk_of hpre
  obtain ⟨n1, n2, ht⟩ := tabB_of hpre.1
  have E := els_in hpre
  have eL := elN_len s 12
  have hl := lsL_length t s
  refine ⟨by omega, ⟨0, by omega, rfl, by simp⟩, fun i hi => ⟨fun h => ?_, fun h => ?_⟩⟩
  · have tl : ((lsL t s).take i).length = i := by rw [List.length_take]; omega
    have er : List.replicate (t.length - i) (0 : Int) = 0 :: List.replicate (t.length - (i + 1)) 0 := by rw [show t.length - i = (t.length - (i + 1)) + 1 by omega]; rfl
    refine ⟨by omega, by omega, ⟨0, by omega, rfl, by rw [er, at_set _ _ _ _ _ tl]; rfl⟩, fun j ⟨hj, _⟩ => ⟨fun h3 => ?_, fun h3 => ?_⟩⟩
    · have B := E j (by omega)
      have r := ht i (by omega)
      have e1 : lsP t s i (j + 1) = mn (lsP t s i j) (en t i ((elN s 12).getD j 0).toNat) := by
        rw [lsP, ← take_snoc _ 0 j (by omega), List.foldl_append]; rfl
      rw [at_getD _ _ _ _ _ tl, at_set _ _ _ _ _ tl]
      exact ⟨by omega, by omega, by omega, by omega, by omega, by omega, j + 1, by omega, by omega, by omega, by rw [e1]; rfl⟩
    · have e1 : lsP t s i j = (lsL t s).getD i 0 := by
        have n12 := lsN_stop (t := t) hpre.2.2 i (12 - t.length)
        rw [show t.length + (12 - t.length) = 12 by omega] at n12
        rw [lsP, List.take_of_length_le (by omega), lsN_fold, n12, lsL, tab_getD _ _ _ (by omega)]
      refine ⟨by omega, i + 1, by omega, by omega, by omega, ?_⟩
      rw [e1, ← take_snoc _ 0 i (by omega), List.append_assoc]; rfl
  · rw [List.take_of_length_le (by omega), show t.length - i = 0 by omega, List.replicate_zero, List.append_nil]
    exact ⟨by omega, rfl⟩
theorem cosets_fits : Fits Try.prog 89 ⟨[], cosets_ct⟩ := by
  refine fits_fn (Γ := gam cosets_G) (gok_cons elementsOf_fits (gok_cons numbered_fits gok_nil)) Try.func89 (by kernel_rfl) (by kernel_rfl) (by kernel_rfl) fun ds p h hp => ?_
  unfold cosets_ct at h
  split at h
  · cases h
    exact ⟨noWr, cosets_ann _ _ , by rw [cosets_vc]; exact cosets_ok _ _  hp⟩
  · cases h

def l10Cosets_p (t : List (List Int)) (s : Int) : Post := ⟨setOk t s, .c (.ints 2 .i64 (csL t s)), []⟩
def l10Cosets_ct : List AD → Option Post
  | [.c (.rows .i64 (t)), .c (.int .i64 (s))] => some (l10Cosets_p t s)
  | _ => none
def l10Cosets_ann (t : List (List Int)) (s : Int) : Nat → Option Ann
  | 0 => some (Ann.mk ((Nat)) (fun i => ⟨[(0, .c (.ro (.rows .i64 (t)))), (1, .c (.int .i64 (s))), (5, .c (.own (9))), (6, .c (.int .i64 ((i : Int))))], [(9, some (.ints 2 .i64 ((lsL t s).take i)))]⟩) (fun i => i ≤ t.length) (fun i => t.length - i) (fun i => fun b_ => match b_ with | 2 => some (Ann.mk ((Nat)) (fun j => ⟨[(0, .c (.ro (.rows .i64 (t)))), (1, .c (.int .i64 (s))), (5, .c (.own (9))), (6, .c (.int .i64 ((i : Int)))), (7, .c (.int .i64 (lsN t s i j))), (8, .c (.int .i64 ((j : Int))))], [(9, some (.ints 2 .i64 ((lsL t s).take i)))]⟩) (fun j => j ≤ t.length ∧ i < t.length) (fun j => t.length - j) (fun _ => noAnn)) | _ => none))
  | _ => none
def l10Cosets_G : List (Nat × Ctr) := [(115, ⟨[], l04Numbered_ct⟩)]
def l10Cosets_V (t : List (List Int)) (s : Int) : Prop :=
  ((∃ x0 : Nat, ((x0 ≤ List.length t) ∧
  ((t = t) ∧
  ((s = s) ∧
  (((0 : Int) = (↑x0 : Int)) ∧
  ([] = List.take x0 (Go.Sx.lsL t s))))))) ∧
  (∀ x1 : Nat, ((x1 ≤ List.length t) →
  (BrP (Decidable.decide ((↑x1 : Int) < (↑(List.length t) : Int)))
    ((∃ x2 : Nat, (((x2 ≤ List.length t) ∧
    (x1 < List.length t)) ∧
    ((t = t) ∧
    ((s = s) ∧
    (((↑x1 : Int) = (↑x1 : Int)) ∧
    (((↑x1 : Int) = Go.Sx.lsN t s x1 x2) ∧
    (((0 : Int) = (↑x2 : Int)) ∧
    (List.take x1 (Go.Sx.lsL t s) = List.take x1 (Go.Sx.lsL t s))))))))) ∧
    (∀ x3 : Nat, (((x3 ≤ List.length t) ∧
    (x1 < List.length t)) →
    (BrP (Decidable.decide ((↑x3 : Int) < (↑(List.length t) : Int)))
      ((((0 : Int) ≤ Go.IntKind.wrap Go.IntKind.u64 (↑x3 : Int)) ∧
      (Go.IntKind.wrap Go.IntKind.u64 (↑x3 : Int) ≤ (62 : Int))) ∧
      (((Go.IntKind.i64 = Go.IntKind.i64) ∧
      ((((0 : Int) ≤ s / (2 : Int) ^ Int.toNat (Go.IntKind.wrap Go.IntKind.u64 (↑x3 : Int))) ∧
      (s / (2 : Int) ^ Int.toNat (Go.IntKind.wrap Go.IntKind.u64 (↑x3 : Int)) ≤ (9223372036854775807 : Int))) ∧
      (((0 : Int) ≤ (1 : Int)) ∧
      ((1 : Int) ≤ (9223372036854775807 : Int))))) ∧
      (BrP ((↑(Int.toNat (s / (2 : Int) ^ Int.toNat (Go.IntKind.wrap Go.IntKind.u64 (↑x3 : Int))) &&& Int.toNat (1 : Int)) : Int) == (1 : Int))
        ((Go.Sx.inB (↑x1 : Int) (List.length t)) ∧
        ((Go.Sx.inB (↑x3 : Int) (List.length (List.getD t (Int.toNat (↑x1 : Int)) []))) ∧
        ((Go.Sx.InR ((↑x3 : Int) + (1 : Int))) ∧
        (∃ x4 : Nat, (((x4 ≤ List.length t) ∧
        (x1 < List.length t)) ∧
        ((List.length t - x4 < List.length t - x3) ∧
        ((t = t) ∧
        ((s = s) ∧
        (((↑x1 : Int) = (↑x1 : Int)) ∧
        (((if List.getD (List.getD t (Int.toNat (↑x1 : Int)) []) (Int.toNat (↑x3 : Int)) (0 : Int) < Go.Sx.lsN t s x1 x3 then List.getD (List.getD t (Int.toNat (↑x1 : Int)) []) (Int.toNat (↑x3 : Int)) (0 : Int) else Go.Sx.lsN t s x1 x3) = Go.Sx.lsN t s x1 x4) ∧
        (((↑x3 : Int) + (1 : Int) = (↑x4 : Int)) ∧
        (List.take x1 (Go.Sx.lsL t s) = List.take x1 (Go.Sx.lsL t s)))))))))))))
        ((Go.Sx.InR ((↑x3 : Int) + (1 : Int))) ∧
        (∃ x5 : Nat, (((x5 ≤ List.length t) ∧
        (x1 < List.length t)) ∧
        ((List.length t - x5 < List.length t - x3) ∧
        ((t = t) ∧
        ((s = s) ∧
        (((↑x1 : Int) = (↑x1 : Int)) ∧
        ((Go.Sx.lsN t s x1 x3 = Go.Sx.lsN t s x1 x5) ∧
        (((↑x3 : Int) + (1 : Int) = (↑x5 : Int)) ∧
        (List.take x1 (Go.Sx.lsL t s) = List.take x1 (Go.Sx.lsL t s))))))))))))))
      ((Go.Sx.room (List.length (List.take x1 (Go.Sx.lsL t s)) + List.length [Go.Sx.lsN t s x1 x3])) ∧
      ((Go.Sx.InR ((↑x1 : Int) + (1 : Int))) ∧
      (∃ x6 : Nat, ((x6 ≤ List.length t) ∧
      ((List.length t - x6 < List.length t - x1) ∧
      ((t = t) ∧
      ((s = s) ∧
      (((↑x1 : Int) + (1 : Int) = (↑x6 : Int)) ∧
      (List.take x1 (Go.Sx.lsL t s) ++ [Go.Sx.lsN t s x1 x3] = List.take x6 (Go.Sx.lsL t s))))))))))))))
    (((List.length (List.take x1 (Go.Sx.lsL t s)) ≤ (1000 : Nat)) ∧
    (True)) ∧
    ((Go.Sx.nbL (List.take x1 (Go.Sx.lsL t s)) = Go.Sx.csL t s) ∧
    (True)))))))
theorem l10Cosets_vc (t : List (List Int)) (s : Int) : runF Try.prog (gam l10Cosets_G) noWr (l10Cosets_ann t s) Try.f83 (bodyOf Try.f83) [] [.c (.rows .i64 (t)), .c (.int .i64 (s))] (l10Cosets_p t s) = l10Cosets_V t s := by kernel_rfl
theorem l10Cosets_ok (t : List (List Int)) (s : Int) (hpre : (l10Cosets_p t s).pre) : l10Cosets_V t s := by
  simp only [l10Cosets_p, l10Cosets_V, BrP_iff, true_and, and_true, decide_eq_true_eq, decide_eq_false_iff_not, bne_iff_ne, beq_iff_eq, bne_eq_false_iff_eq, beq_eq_false_iff_ne, Bool.not_eq_true, Bool.not_eq_false, Bool.not_true, Bool.not_false, Bool.not_eq_eq_eq_not, Int.toNat_natCast, List.length_append, List.length_take, List.length_replicate, List.length_set, List.length_map, List.length_drop, List.length_nil, List.length_cons, markL_length, inB, InR, room, bdsOk] at hpre ⊢
  have S := setOk_of hpre
  obtain ⟨n1, n2, ht⟩ := tabB_of hpre.1
  have hl := lsL_length t s
  refine ⟨⟨0, by omega, rfl, rfl⟩, fun i hi => ⟨fun h => ⟨⟨0, by omega, rfl, rfl⟩, fun j ⟨hj, _⟩ => ⟨fun h3 => ?_, fun h3 => ?_⟩⟩, fun h => ?_⟩⟩
  · have r := ht i (by omega)
    have w2 : IntKind.u64.wrap (j : Int) = (j : Int) := wu64 (by omega)
    simp only [w2, Int.toNat_natCast, bit_oneT S.1, bit_nT S.1]
    refine ⟨by omega, ⟨shr_le S.1 _ (by omega), by omega, by omega⟩, fun b => ⟨by omega, by omega, by omega, j + 1, by omega, by omega, ?_, by omega⟩, fun b => ⟨by omega, j + 1, by omega, by omega, ?_, by omega⟩⟩
    · rw [lsN, if_pos b]; rfl
    · rw [lsN, if_neg (by rw [b]; decide)]
  · refine ⟨by omega, by omega, i + 1, by omega, by omega, by omega, ?_⟩
    rw [← take_snoc _ 0 i (by omega), lsL, tab_getD _ _ _ (by omega), show j = t.length by omega]
  · rw [List.take_of_length_le (by omega)]
    exact ⟨by omega, rfl⟩
theorem l10Cosets_fits : Fits Try.prog 83 ⟨[], l10Cosets_ct⟩ := by
  refine fits_fn (Γ := gam l10Cosets_G) (gok_cons l04Numbered_fits gok_nil) Try.func83 (by kernel_rfl) (by kernel_rfl) (by kernel_rfl) fun ds p h hp => ?_
  unfold l10Cosets_ct at h
  split at h
  · cases h
    exact ⟨noWr, l10Cosets_ann _ _ , by rw [l10Cosets_vc]; exact l10Cosets_ok _ _  hp⟩
  · cases h

def firstOf_p (cl : List Int) : Post := ⟨cl.length ≤ 1000, .c (.ints 2 .i64 (foN cl cl.length)), []⟩
def firstOf_ct : List AD → Option Post
  | [.c (.ints .i64 (cl))] => some (firstOf_p cl)
  | _ => none
def firstOf_ann (cl : List Int) : Nat → Option Ann
  | 0 => some (Ann.mk ((Nat)) (fun i => ⟨[(3, .c (.own (3))), (6, .c (.ro (.ints .i64 (cl)))), (7, .c (.int .i64 ((cl.length : Int)))), (8, .c (.int .i64 ((i : Int))))], [(3, some (.ints 2 .i64 (foN cl i)))]⟩) (fun i => i ≤ cl.length) (fun i => cl.length - i) (fun _ => noAnn))
  | _ => none
def firstOf_G : List (Nat × Ctr) := []
def firstOf_V (cl : List Int) : Prop :=
  ((∃ x0 : Nat, ((x0 ≤ List.length cl) ∧
  ((cl = cl) ∧
  (((↑(List.length cl) : Int) = (↑(List.length cl) : Int)) ∧
  (((0 : Int) = (↑x0 : Int)) ∧
  (Go.Sx.foN cl x0 = [])))))) ∧
  (∀ x1 : Nat, ((x1 ≤ List.length cl) →
  (BrP (Decidable.decide ((↑x1 : Int) < (↑(List.length cl) : Int)))
    ((Go.Sx.inB (↑x1 : Int) (List.length cl)) ∧
    (BrP (List.getD cl (Int.toNat (↑x1 : Int)) (0 : Int) == (↑(List.length (Go.Sx.foN cl x1)) : Int))
      ((Go.Sx.room (List.length (Go.Sx.foN cl x1) + List.length [(↑x1 : Int)])) ∧
      ((Go.Sx.InR ((↑x1 : Int) + (1 : Int))) ∧
      (∃ x2 : Nat, ((x2 ≤ List.length cl) ∧
      ((List.length cl - x2 < List.length cl - x1) ∧
      ((cl = cl) ∧
      (((↑(List.length cl) : Int) = (↑(List.length cl) : Int)) ∧
      (((↑x1 : Int) + (1 : Int) = (↑x2 : Int)) ∧
      (Go.Sx.foN cl x1 ++ [(↑x1 : Int)] = Go.Sx.foN cl x2)))))))))
      ((Go.Sx.InR ((↑x1 : Int) + (1 : Int))) ∧
      (∃ x3 : Nat, ((x3 ≤ List.length cl) ∧
      ((List.length cl - x3 < List.length cl - x1) ∧
      ((cl = cl) ∧
      (((↑(List.length cl) : Int) = (↑(List.length cl) : Int)) ∧
      (((↑x1 : Int) + (1 : Int) = (↑x3 : Int)) ∧
      (Go.Sx.foN cl x1 = Go.Sx.foN cl x3))))))))))
    ((Go.Sx.foN cl x1 = Go.Sx.foN cl (List.length cl)) ∧
    (True))))))
theorem firstOf_vc (cl : List Int) : runF Try.prog (gam firstOf_G) noWr (firstOf_ann cl) Try.f120 (bodyOf Try.f120) [] [.c (.ints .i64 (cl))] (firstOf_p cl) = firstOf_V cl := by kernel_rfl
theorem firstOf_ok (cl : List Int) (hpre : (firstOf_p cl).pre) : firstOf_V cl := by
  simp only [firstOf_p, firstOf_V, BrP_iff, true_and, and_true, decide_eq_true_eq, decide_eq_false_iff_not, bne_iff_ne, beq_iff_eq, bne_eq_false_iff_eq, beq_eq_false_iff_ne, Bool.not_eq_true, Bool.not_eq_false, Bool.not_true, Bool.not_false, Bool.not_eq_eq_eq_not, Int.toNat_natCast, List.length_append, List.length_take, List.length_replicate, List.length_set, List.length_map, List.length_drop, List.length_nil, List.length_cons, markL_length, inB, InR, room, bdsOk] at hpre ⊢
  refine ⟨⟨0, by omega, rfl, rfl⟩, fun i hi => ⟨fun h => ?_, fun h => by rw [show i = cl.length by omega]⟩⟩
  have fl := foN_len cl i
  exact ⟨by omega, fun h2 => ⟨by omega, by omega, i + 1, by omega, by omega, by omega, by rw [foN, if_pos h2]⟩, fun h2 => ⟨by omega, i + 1, by omega, by omega, by omega, by rw [foN, if_neg h2]⟩⟩
theorem firstOf_fits : Fits Try.prog 120 ⟨[], firstOf_ct⟩ := by
  refine fits_fn (Γ := gam firstOf_G) gok_nil Try.func120 (by kernel_rfl) (by kernel_rfl) (by kernel_rfl) fun ds p h hp => ?_
  unfold firstOf_ct at h
  split at h
  · cases h
    exact ⟨noWr, firstOf_ann _ , by rw [firstOf_vc]; exact firstOf_ok _  hp⟩
  · cases h

def quotientTable1_p (x : Int) (y : Int) (cl : List Int) (t : List (List Int)) (f : List Int) : Post := ⟨tabB t = true ∧ cl.length = t.length ∧ f = foN cl cl.length ∧ 0 ≤ x ∧ x < (f.length : Int) ∧ 0 ≤ y ∧ y < (f.length : Int), .c (.int .i64 (cl.getD (en t (f.getD x.toNat 0).toNat (f.getD y.toNat 0).toNat).toNat 0)), []⟩
def quotientTable1_ct : List AD → Option Post
  | [.c (.int .i64 (x)), .c (.int .i64 (y)), .box [.ints .i64 (cl)], .box [.rows .i64 (t)], .box [.ints .i64 (f)]] => some (quotientTable1_p x y cl t f)
  | _ => none
def quotientTable1_G : List (Nat × Ctr) := []
def quotientTable1_V (x : Int) (y : Int) (cl : List Int) (t : List (List Int)) (f : List Int) : Prop :=
  ((Go.Sx.inB x (List.length f)) ∧
  ((Go.Sx.inB (List.getD f (Int.toNat x) (0 : Int)) (List.length t)) ∧
  ((Go.Sx.inB y (List.length f)) ∧
  ((Go.Sx.inB (List.getD f (Int.toNat y) (0 : Int)) (List.length (List.getD t (Int.toNat (List.getD f (Int.toNat x) (0 : Int))) []))) ∧
  ((Go.Sx.inB (List.getD (List.getD t (Int.toNat (List.getD f (Int.toNat x) (0 : Int))) []) (Int.toNat (List.getD f (Int.toNat y) (0 : Int))) (0 : Int)) (List.length cl)) ∧
  ((List.getD cl (Int.toNat (List.getD (List.getD t (Int.toNat (List.getD f (Int.toNat x) (0 : Int))) []) (Int.toNat (List.getD f (Int.toNat y) (0 : Int))) (0 : Int))) (0 : Int) = List.getD cl (Int.toNat (Go.Sx.en t (Int.toNat (List.getD f (Int.toNat x) (0 : Int))) (Int.toNat (List.getD f (Int.toNat y) (0 : Int))))) (0 : Int)) ∧
  (True)))))))
theorem quotientTable1_vc (x : Int) (y : Int) (cl : List Int) (t : List (List Int)) (f : List Int) : runF Try.prog (gam quotientTable1_G) noWr noAnn Try.f121 (bodyOf Try.f121) [] [.c (.int .i64 (x)), .c (.int .i64 (y)), .box [.ints .i64 (cl)], .box [.rows .i64 (t)], .box [.ints .i64 (f)]] (quotientTable1_p x y cl t f) = quotientTable1_V x y cl t f := by kernel_rfl
theorem quotientTable1_ok (x : Int) (y : Int) (cl : List Int) (t : List (List Int)) (f : List Int) (hpre : (quotientTable1_p x y cl t f).pre) : quotientTable1_V x y cl t f := by
  simp only [quotientTable1_p, quotientTable1_V, BrP_iff, true_and, and_true, decide_eq_true_eq, decide_eq_false_iff_not, bne_iff_ne, beq_iff_eq, bne_eq_false_iff_eq, beq_eq_false_iff_ne, Bool.not_eq_true, Bool.not_eq_false, Bool.not_true, Bool.not_false, Bool.not_eq_eq_eq_not, Int.toNat_natCast, List.length_append, List.length_take, List.length_replicate, List.length_set, List.length_map, List.length_drop, List.length_nil, List.length_cons, markL_length, inB, InR, room, bdsOk] at hpre ⊢
  obtain ⟨h1, h2, rfl, x1, x2, y1, y2⟩ := hpre
  obtain ⟨n1, n2, ht⟩ := tabB_of h1
  have fx := foN_in cl cl.length _ (getD_mem (foN cl cl.length) 0 x.toNat (by omega))
  have fy := foN_in cl cl.length _ (getD_mem (foN cl cl.length) 0 y.toNat (by omega))
  have r := ht ((foN cl cl.length).getD x.toNat 0).toNat (by omega)
  have v := r.2 ((foN cl cl.length).getD y.toNat 0).toNat (by omega)
  exact ⟨by omega, by omega, by omega, by omega, by omega, rfl⟩
theorem quotientTable1_fits : Fits Try.prog 121 ⟨[], quotientTable1_ct⟩ := by
  refine fits_fn (Γ := gam quotientTable1_G) gok_nil Try.func121 (by kernel_rfl) (by kernel_rfl) (by kernel_rfl) fun ds p h hp => ?_
  unfold quotientTable1_ct at h
  split at h
  · cases h
    exact ⟨noWr, noAnn, by rw [quotientTable1_vc]; exact quotientTable1_ok _ _ _ _ _  hp⟩
  · cases h

def quotientTable_p (t : List (List Int)) (cl : List Int) : Post := ⟨tabB t = true ∧ cl.length = t.length, .c (.rows 25 2 .i64 (quo t cl)), []⟩
def quotientTable_ct : List AD → Option Post
  | [.c (.rows .i64 (t)), .c (.ints .i64 (cl))] => some (quotientTable_p t cl)
  | _ => none
def quotientTable_G : List (Nat × Ctr) := [(120, ⟨[], firstOf_ct⟩), (96, ⟨[], tableBy_ct⟩), (121, ⟨[], quotientTable1_ct⟩)]
def quotientTable_V (t : List (List Int)) (cl : List Int) : Prop :=
  (((List.length cl ≤ (1000 : Nat)) ∧
  (True)) ∧
  (((((0 : Int) ≤ (↑(List.length (Go.Sx.foN cl (List.length cl))) : Int)) ∧
  (((↑(List.length (Go.Sx.foN cl (List.length cl))) : Int) ≤ (144 : Int)) ∧
  (∀ (x y : Int), (0 : Int) ≤ x → x < (↑(List.length (Go.Sx.foN cl (List.length cl))) : Int) → (0 : Int) ≤ y → y < (↑(List.length (Go.Sx.foN cl (List.length cl))) : Int) → Go.Sx.ctQI (Go.Sx.quotientTable1_ct [Go.Sx.AD.c (Go.Sx.FC.int Go.IntKind.i64 x), Go.Sx.AD.c (Go.Sx.FC.int Go.IntKind.i64 y), Go.Sx.AD.box [Go.Sx.FC.ints Go.IntKind.i64 cl], Go.Sx.AD.box [Go.Sx.FC.rows Go.IntKind.i64 t], Go.Sx.AD.box [Go.Sx.FC.ints Go.IntKind.i64 (Go.Sx.foN cl (List.length cl))]])))) ∧
  (True)) ∧
  (((Go.Sx.tabR (Int.toNat (↑(List.length (Go.Sx.foN cl (List.length cl))) : Int)) fun (x y : Nat) => Go.Sx.ctI (Go.Sx.quotientTable1_ct [Go.Sx.AD.c (Go.Sx.FC.int Go.IntKind.i64 (↑x : Int)), Go.Sx.AD.c (Go.Sx.FC.int Go.IntKind.i64 (↑y : Int)), Go.Sx.AD.box [Go.Sx.FC.ints Go.IntKind.i64 cl], Go.Sx.AD.box [Go.Sx.FC.rows Go.IntKind.i64 t], Go.Sx.AD.box [Go.Sx.FC.ints Go.IntKind.i64 (Go.Sx.foN cl (List.length cl))]])) = Go.Sx.quo t cl) ∧
  (True))))
theorem quotientTable_vc (t : List (List Int)) (cl : List Int) : runF Try.prog (gam quotientTable_G) noWr noAnn Try.f90 (bodyOf Try.f90) [] [.c (.rows .i64 (t)), .c (.ints .i64 (cl))] (quotientTable_p t cl) = quotientTable_V t cl := by kernel_rfl
theorem quotientTable_ok (t : List (List Int)) (cl : List Int) (hpre : (quotientTable_p t cl).pre) : quotientTable_V t cl := by
  simp only [quotientTable_p, quotientTable_V, BrP_iff, true_and, and_true, decide_eq_true_eq, decide_eq_false_iff_not, bne_iff_ne, beq_iff_eq, bne_eq_false_iff_eq, beq_eq_false_iff_ne, Bool.not_eq_true, Bool.not_eq_false, Bool.not_true, Bool.not_false, Bool.not_eq_eq_eq_not, Int.toNat_natCast, List.length_append, List.length_take, List.length_replicate, List.length_set, List.length_map, List.length_drop, List.length_nil, List.length_cons, markL_length, inB, InR, room, bdsOk] at hpre ⊢
  obtain ⟨h1, h2⟩ := hpre
  obtain ⟨n1, n2, ht⟩ := tabB_of h1
  have fl := foN_len cl cl.length
  exact ⟨by omega, ⟨by omega, by omega, fun x y a1 a2 a3 a4 => ⟨h1, h2, rfl, a1, a2, a3, a4⟩⟩, tabR_ext fun x y hx hy => rfl⟩
theorem quotientTable_fits : Fits Try.prog 90 ⟨[], quotientTable_ct⟩ := by
  refine fits_fn (Γ := gam quotientTable_G) (gok_cons firstOf_fits (gok_cons tableBy_fits (gok_cons quotientTable1_fits gok_nil))) Try.func90 (by kernel_rfl) (by kernel_rfl) (by kernel_rfl) fun ds p h hp => ?_
  unfold quotientTable_ct at h
  split at h
  · cases h
    exact ⟨noWr, noAnn, by rw [quotientTable_vc]; exact quotientTable_ok _ _  hp⟩
  · cases h

/-- The row of x in the quotient, up to j; the rows, up to i. -/
def qrJ (t : List (List Int)) (cl : List Int) (x j : Nat) : List Int := (foN cl j).map fun y => cl.getD (en t x y.toNat).toNat 0
def qrI (t : List (List Int)) (cl : List Int) (i : Nat) : List (List Int) := (foN cl i).map fun x => qrJ t cl x.toNat cl.length

theorem qr_quo (t : List (List Int)) (cl : List Int) : qrI t cl cl.length = quo t cl := by
  unfold qrI quo tabR
  rw [← map_getD (foN cl cl.length) 0 (fun x => qrJ t cl x.toNat cl.length)]
  congr 1
  funext x
  unfold qrJ tab
  exact (map_getD (foN cl cl.length) 0 (fun y => cl.getD (en t ((foN cl cl.length).getD x 0).toNat y.toNat).toNat 0)).symm

def l04Quotient_p (t : List (List Int)) (cl : List Int) : Post := ⟨tabB t = true ∧ cl.length = t.length ∧ numB cl, .c (.rows 25 2 .i64 (quo t cl)), []⟩
def l04Quotient_ct : List AD → Option Post
  | [.c (.rows .i64 (t)), .c (.ints .i64 (cl))] => some (l04Quotient_p t cl)
  | _ => none
def l04Quotient_ann (t : List (List Int)) (cl : List Int) : Nat → Option Ann
  | 0 => some (Ann.mk ((Nat)) (fun i => ⟨[(0, .c (.ro (.rows .i64 (t)))), (1, .c (.ro (.ints .i64 (cl)))), (5, .c (.own (9))), (6, .c (.int .i64 ((i : Int))))], [(9, some (.rows 0 25 2 .i64 (qrI t cl i)))]⟩) (fun i => i ≤ t.length) (fun i => t.length - i) (fun i => fun b_ => match b_ with | 2 => some (Ann.mk ((Nat)) (fun j => ⟨[(0, .c (.ro (.rows .i64 (t)))), (1, .c (.ro (.ints .i64 (cl)))), (5, .c (.own (9))), (6, .c (.int .i64 ((i : Int)))), (7, .c (.own (23))), (8, .c (.int .i64 ((j : Int))))], [(9, some (.rows 0 25 2 .i64 (qrI t cl i))), (23, some (.ints 2 .i64 (qrJ t cl i j)))]⟩) (fun j => j ≤ t.length ∧ i < t.length ∧ cl.getD i 0 = ((foN cl i).length : Int)) (fun j => t.length - j) (fun _ => noAnn)) | _ => none))
  | _ => none
def l04Quotient_G : List (Nat × Ctr) := []
def l04Quotient_V (t : List (List Int)) (cl : List Int) : Prop :=
  ((∃ x0 : Nat, ((x0 ≤ List.length t) ∧
  ((t = t) ∧
  ((cl = cl) ∧
  (((0 : Int) = (↑x0 : Int)) ∧
  ([] = Go.Sx.qrI t cl x0)))))) ∧
  (∀ x1 : Nat, ((x1 ≤ List.length t) →
  (BrP (Decidable.decide ((↑x1 : Int) < (↑(List.length t) : Int)))
    ((Go.Sx.inB (↑x1 : Int) (List.length cl)) ∧
    (BrP (Decidable.decide (List.getD cl (Int.toNat (↑x1 : Int)) (0 : Int) < (↑(List.length (Go.Sx.qrI t cl x1)) : Int)))
      ((Go.Sx.InR ((↑x1 : Int) + (1 : Int))) ∧
      (∃ x2 : Nat, ((x2 ≤ List.length t) ∧
      ((List.length t - x2 < List.length t - x1) ∧
      ((t = t) ∧
      ((cl = cl) ∧
      (((↑x1 : Int) + (1 : Int) = (↑x2 : Int)) ∧
      (Go.Sx.qrI t cl x1 = Go.Sx.qrI t cl x2))))))))
      ((∃ x3 : Nat, (((x3 ≤ List.length t) ∧
      ((x1 < List.length t) ∧
      (List.getD cl x1 (0 : Int) = (↑(List.length (Go.Sx.foN cl x1)) : Int)))) ∧
      ((t = t) ∧
      ((cl = cl) ∧
      (((↑x1 : Int) = (↑x1 : Int)) ∧
      (((0 : Int) = (↑x3 : Int)) ∧
      ((Go.Sx.qrI t cl x1 = Go.Sx.qrI t cl x1) ∧
      ([] = Go.Sx.qrJ t cl x1 x3)))))))) ∧
      (∀ x4 : Nat, (((x4 ≤ List.length t) ∧
      ((x1 < List.length t) ∧
      (List.getD cl x1 (0 : Int) = (↑(List.length (Go.Sx.foN cl x1)) : Int)))) →
      (BrP (Decidable.decide ((↑x4 : Int) < (↑(List.length t) : Int)))
        ((Go.Sx.inB (↑x4 : Int) (List.length cl)) ∧
        (BrP (List.getD cl (Int.toNat (↑x4 : Int)) (0 : Int) == (↑(List.length (Go.Sx.qrJ t cl x1 x4)) : Int))
          ((Go.Sx.inB (↑x1 : Int) (List.length t)) ∧
          ((Go.Sx.inB (↑x4 : Int) (List.length (List.getD t (Int.toNat (↑x1 : Int)) []))) ∧
          ((Go.Sx.inB (List.getD (List.getD t (Int.toNat (↑x1 : Int)) []) (Int.toNat (↑x4 : Int)) (0 : Int)) (List.length cl)) ∧
          ((Go.Sx.room (List.length (Go.Sx.qrJ t cl x1 x4) + List.length [List.getD cl (Int.toNat (List.getD (List.getD t (Int.toNat (↑x1 : Int)) []) (Int.toNat (↑x4 : Int)) (0 : Int))) (0 : Int)])) ∧
          ((Go.Sx.InR ((↑x4 : Int) + (1 : Int))) ∧
          (∃ x5 : Nat, (((x5 ≤ List.length t) ∧
          ((x1 < List.length t) ∧
          (List.getD cl x1 (0 : Int) = (↑(List.length (Go.Sx.foN cl x1)) : Int)))) ∧
          ((List.length t - x5 < List.length t - x4) ∧
          ((t = t) ∧
          ((cl = cl) ∧
          (((↑x1 : Int) = (↑x1 : Int)) ∧
          (((↑x4 : Int) + (1 : Int) = (↑x5 : Int)) ∧
          ((Go.Sx.qrI t cl x1 = Go.Sx.qrI t cl x1) ∧
          (Go.Sx.qrJ t cl x1 x4 ++ [List.getD cl (Int.toNat (List.getD (List.getD t (Int.toNat (↑x1 : Int)) []) (Int.toNat (↑x4 : Int)) (0 : Int))) (0 : Int)] = Go.Sx.qrJ t cl x1 x5))))))))))))))
          ((Go.Sx.InR ((↑x4 : Int) + (1 : Int))) ∧
          (∃ x6 : Nat, (((x6 ≤ List.length t) ∧
          ((x1 < List.length t) ∧
          (List.getD cl x1 (0 : Int) = (↑(List.length (Go.Sx.foN cl x1)) : Int)))) ∧
          ((List.length t - x6 < List.length t - x4) ∧
          ((t = t) ∧
          ((cl = cl) ∧
          (((↑x1 : Int) = (↑x1 : Int)) ∧
          (((↑x4 : Int) + (1 : Int) = (↑x6 : Int)) ∧
          ((Go.Sx.qrI t cl x1 = Go.Sx.qrI t cl x1) ∧
          (Go.Sx.qrJ t cl x1 x4 = Go.Sx.qrJ t cl x1 x6))))))))))))
        ((Go.Sx.room (List.length (Go.Sx.qrI t cl x1) + List.length [Go.Sx.qrJ t cl x1 x4])) ∧
        ((Go.Sx.InR ((↑x1 : Int) + (1 : Int))) ∧
        (∃ x7 : Nat, ((x7 ≤ List.length t) ∧
        ((List.length t - x7 < List.length t - x1) ∧
        ((t = t) ∧
        ((cl = cl) ∧
        (((↑x1 : Int) + (1 : Int) = (↑x7 : Int)) ∧
        (Go.Sx.qrI t cl x1 ++ [Go.Sx.qrJ t cl x1 x4] = Go.Sx.qrI t cl x7)))))))))))))))
    ((Go.Sx.qrI t cl x1 = Go.Sx.quo t cl) ∧
    (True))))))
theorem l04Quotient_vc (t : List (List Int)) (cl : List Int) : runF Try.prog (gam l04Quotient_G) noWr (l04Quotient_ann t cl) Try.f84 (bodyOf Try.f84) [] [.c (.rows .i64 (t)), .c (.ints .i64 (cl))] (l04Quotient_p t cl) = l04Quotient_V t cl := by kernel_rfl
theorem l04Quotient_ok (t : List (List Int)) (cl : List Int) (hpre : (l04Quotient_p t cl).pre) : l04Quotient_V t cl := by
  simp only [l04Quotient_p, l04Quotient_V, BrP_iff, true_and, and_true, decide_eq_true_eq, decide_eq_false_iff_not, bne_iff_ne, beq_iff_eq, bne_eq_false_iff_eq, beq_eq_false_iff_ne, Bool.not_eq_true, Bool.not_eq_false, Bool.not_true, Bool.not_false, Bool.not_eq_eq_eq_not, Int.toNat_natCast, List.length_append, List.length_take, List.length_replicate, List.length_set, List.length_map, List.length_drop, List.length_nil, List.length_cons, markL_length, inB, InR, room, bdsOk] at hpre ⊢
  obtain ⟨h1, h2, h3⟩ := hpre
  obtain ⟨n1, n2, ht⟩ := tabB_of h1
  have ql : ∀ i, (qrI t cl i).length = (foN cl i).length := fun i => by simp [qrI]
  have jl : ∀ x j, (qrJ t cl x j).length = (foN cl j).length := fun x j => by simp [qrJ]
  refine ⟨⟨0, by omega, rfl, rfl⟩, fun i hi => ⟨fun h => ?_, fun h => ?_⟩⟩
  · have nm := h3 i (by omega)
    have fl := foN_len cl i
    rw [ql]
    refine ⟨by omega, fun h4 => ⟨by omega, i + 1, by omega, by omega, by omega, ?_⟩, fun h4 => ⟨⟨0, ⟨by omega, by omega, by omega⟩, rfl, rfl⟩, fun j ⟨hj, _, hc⟩ => ⟨fun h5 => ?_, fun h5 => ?_⟩⟩⟩
    · rw [qrI, qrI, foN, if_neg (by omega)]
    · have r := ht i (by omega)
      have v := r.2 j (by omega)
      have fj := foN_len cl j
      rw [jl]
      refine ⟨by omega, fun h6 => ⟨by omega, by omega, by omega, by omega, by omega, j + 1, ⟨by omega, by omega, hc⟩, by omega, by omega, ?_⟩, fun h6 => ⟨by omega, j + 1, ⟨by omega, by omega, hc⟩, by omega, by omega, ?_⟩⟩
      · rw [qrJ, qrJ, foN, if_pos h6, List.map_append]; rfl
      · rw [qrJ, qrJ, foN, if_neg h6]
    · refine ⟨by omega, by omega, i + 1, by omega, by omega, by omega, ?_⟩
      rw [show j = cl.length by omega]
      rw [qrI, qrI, foN, if_pos hc, List.map_append]; rfl
  · rw [show i = cl.length by omega]
    exact qr_quo t cl
theorem l04Quotient_fits : Fits Try.prog 84 ⟨[], l04Quotient_ct⟩ := by
  refine fits_fn (Γ := gam l04Quotient_G) gok_nil Try.func84 (by kernel_rfl) (by kernel_rfl) (by kernel_rfl) fun ds p h hp => ?_
  unfold l04Quotient_ct at h
  split at h
  · cases h
    exact ⟨noWr, l04Quotient_ann _ _ , by rw [l04Quotient_vc]; exact l04Quotient_ok _ _  hp⟩
  · cases h

end Go.Sx

