/- The contract of impl.coboundarySource.  -/
import Derived.Test.YtegeohcghndpcaaSrcK
open Go Go.Proofs
namespace Go.Sx
set_option linter.unusedSimpArgs false
set_option linter.unusedVariables false

theorem pass_next {t : List (List Int)} {m : Int} {f : List (List Int)} {g : List Int} (h : Good t m f g) :
    Good t m f (passG t m f t.length g) ∧ growF t m f g = growF t m f (passG t m f t.length g) ∧
    (decide (negs (passG t m f t.length g) < negs g) = false → growF t m f (passG t m f t.length g) = passG t m f t.length g) ∧
    2 * negs (passG t m f t.length g) + (bif decide (negs (passG t m f t.length g) < negs g) then 1 else 0) < 2 * negs g + 1 := by
  obtain ⟨a, b⟩ := passG_good h t.length (Nat.le_refl _)
  have e := growF_step h
  refine ⟨a, ?_, fun hd => ?_, ?_⟩
  · rw [e]; split
    · rename_i h1; rw [h1, e, if_pos h1]
    · rfl
  · have h1 : passG t m f t.length g = g := b.resolve_right (by simpa using hd)
    rw [h1, e, if_pos h1]
  · rcases b with h1 | h1
    · rw [h1]; simp
    · rw [decide_eq_true h1]; simp only [cond_true]; omega

def iSource_p (t : List (List Int)) (m : Int) (f : List (List Int)) : Post := ⟨tabB t = true ∧ matB (t.length : Int) m f = true, .c (.ints 2 .i64 (srcN t m f t.length)), []⟩
def iSource_ct : List AD → Option Post
  | [.c (.rows .i64 (t)), .c (.int .i64 (m)), .c (.rows .i64 (f))] => some (iSource_p t m f)
  | _ => none
def iSource_ann (t : List (List Int)) (m : Int) (f : List (List Int)) : Nat → Option Ann
  | 0 => some (Ann.mk ((Nat)) (fun i => ⟨[(0, .c (.ro (.rows .i64 (t)))), (1, .c (.int .i64 (m))), (2, .c (.ro (.rows .i64 (f)))), (7, .c (.own (17))), (19, .c (.int .i64 ((t.length : Int)))), (20, .c (.int .i64 ((i : Int))))], [(17, some (.ints 2 .i64 (List.replicate i (-1) ++ List.replicate (t.length - i) 0)))]⟩) (fun i => i ≤ t.length) (fun i => t.length - i) (fun _ => noAnn))
  | 2 => some (Ann.mk ((Nat)) (fun s => ⟨[(0, .c (.ro (.rows .i64 (t)))), (1, .c (.int .i64 (m))), (2, .c (.ro (.rows .i64 (f)))), (7, .c (.own (17))), (28, .c (.int .i64 ((t.length : Int)))), (29, .c (.int .i64 ((s : Int))))], [(17, some (.ints 2 .i64 (srcN t m f s)))]⟩) (fun s => s ≤ t.length ∧ Good t m f (srcN t m f s)) (fun s => t.length - s) (fun s => fun b_ => match b_ with | 4 => some (Ann.mk ((List Int) × (Bool)) (fun x => match x with | (g, gr) => ⟨[(0, .c (.ro (.rows .i64 (t)))), (1, .c (.int .i64 (m))), (2, .c (.ro (.rows .i64 (f)))), (7, .c (.own (17))), (28, .c (.int .i64 ((t.length : Int)))), (29, .c (.int .i64 ((s : Int)))), (9, .c (.int .i64 ((s : Int)))), (10, .c (.bool (gr)))], [(17, some (.ints 2 .i64 (g)))]⟩) (fun x => match x with | (g, gr) => s < t.length ∧ (srcN t m f s).getD s 0 < 0 ∧ Good t m f g ∧ growF t m f ((srcN t m f s).set s 0) = growF t m f g ∧ (gr = false → growF t m f g = g)) (fun x => match x with | (g, gr) => 2 * negs g + (bif gr then 1 else 0)) (fun x => match x with | (g, gr) => fun b_ => match b_ with | 6 => some (Ann.mk ((Nat)) (fun i => ⟨[(0, .c (.ro (.rows .i64 (t)))), (1, .c (.int .i64 (m))), (2, .c (.ro (.rows .i64 (f)))), (7, .c (.own (17))), (28, .c (.int .i64 ((t.length : Int)))), (29, .c (.int .i64 ((s : Int)))), (9, .c (.int .i64 ((s : Int)))), (10, .c (.bool (decide (negs (passG t m f i g) < negs g)))), (41, .c (.ro (.rows .i64 (t)))), (42, .c (.int .i64 ((t.length : Int)))), (43, .c (.int .i64 ((i : Int))))], [(17, some (.ints 2 .i64 (passG t m f i g)))]⟩) (fun i => i ≤ t.length ∧ gr = true) (fun i => t.length - i) (fun i => fun b_ => match b_ with | 8 => some (Ann.mk ((Nat)) (fun j => ⟨[(0, .c (.ro (.rows .i64 (t)))), (1, .c (.int .i64 (m))), (2, .c (.ro (.rows .i64 (f)))), (7, .c (.own (17))), (28, .c (.int .i64 ((t.length : Int)))), (29, .c (.int .i64 ((s : Int)))), (9, .c (.int .i64 ((s : Int)))), (10, .c (.bool (decide (negs (rowG t m f i j (passG t m f i g)) < negs g)))), (41, .c (.ro (.rows .i64 (t)))), (42, .c (.int .i64 ((t.length : Int)))), (43, .c (.int .i64 ((i : Int)))), (11, .c (.int .i64 ((i : Int)))), (12, .c (.ro (.ints .i64 ((t.getD i []))))), (48, .c (.ro (.ints .i64 ((t.getD i []))))), (49, .c (.int .i64 ((t.length : Int)))), (50, .c (.int .i64 ((j : Int))))], [(17, some (.ints 2 .i64 (rowG t m f i j (passG t m f i g))))]⟩) (fun j => j ≤ t.length ∧ i < t.length) (fun j => t.length - j) (fun _ => noAnn)) | _ => none)) | _ => none)) | _ => none))
  | _ => none
def iSource_G : List (Nat × Ctr) := []
def iSource_V (t : List (List Int)) (m : Int) (f : List (List Int)) : Prop :=
  ((((0 : Int) ≤ (↑(List.length t) : Int)) ∧
  (((↑(List.length t) : Int) ≤ (↑(List.length t) : Int)) ∧
  (Go.Sx.room (Int.toNat (↑(List.length t) : Int))))) ∧
  ((∃ x0 : Nat, ((x0 ≤ List.length t) ∧
  ((t = t) ∧
  ((m = m) ∧
  ((f = f) ∧
  (((↑(List.length (List.replicate (Int.toNat (↑(List.length t) : Int)) (0 : Int))) : Int) = (↑(List.length t) : Int)) ∧
  (((0 : Int) = (↑x0 : Int)) ∧
  (List.replicate (Int.toNat (↑(List.length t) : Int)) (0 : Int) = List.replicate x0 (-1 : Int) ++ List.replicate (List.length t - x0) (0 : Int))))))))) ∧
  (∀ x1 : Nat, ((x1 ≤ List.length t) →
  (BrP (Decidable.decide ((↑x1 : Int) < (↑(List.length t) : Int)))
    ((Go.Sx.inB (↑x1 : Int) (List.length (List.replicate x1 (-1 : Int) ++ List.replicate (List.length t - x1) (0 : Int)))) ∧
    ((Go.Sx.InR ((↑x1 : Int) + (1 : Int))) ∧
    (∃ x2 : Nat, ((x2 ≤ List.length t) ∧
    ((List.length t - x2 < List.length t - x1) ∧
    ((t = t) ∧
    ((m = m) ∧
    ((f = f) ∧
    (((↑(List.length t) : Int) = (↑(List.length t) : Int)) ∧
    (((↑x1 : Int) + (1 : Int) = (↑x2 : Int)) ∧
    (List.set (List.replicate x1 (-1 : Int) ++ List.replicate (List.length t - x1) (0 : Int)) (Int.toNat (↑x1 : Int)) (-1 : Int) = List.replicate x2 (-1 : Int) ++ List.replicate (List.length t - x2) (0 : Int))))))))))))
    ((∃ x3 : Nat, (((x3 ≤ List.length t) ∧
    (Go.Sx.Good t m f (Go.Sx.srcN t m f x3))) ∧
    ((t = t) ∧
    ((m = m) ∧
    ((f = f) ∧
    (((↑(List.length (List.replicate x1 (-1 : Int) ++ List.replicate (List.length t - x1) (0 : Int))) : Int) = (↑(List.length t) : Int)) ∧
    (((0 : Int) = (↑x3 : Int)) ∧
    (List.replicate x1 (-1 : Int) ++ List.replicate (List.length t - x1) (0 : Int) = Go.Sx.srcN t m f x3)))))))) ∧
    (∀ x4 : Nat, (((x4 ≤ List.length t) ∧
    (Go.Sx.Good t m f (Go.Sx.srcN t m f x4))) →
    (BrP (Decidable.decide ((↑x4 : Int) < (↑(List.length t) : Int)))
      ((Go.Sx.inB (↑x4 : Int) (List.length (Go.Sx.srcN t m f x4))) ∧
      (BrP (Decidable.decide ((0 : Int) ≤ List.getD (Go.Sx.srcN t m f x4) (Int.toNat (↑x4 : Int)) (0 : Int)))
        ((Go.Sx.InR ((↑x4 : Int) + (1 : Int))) ∧
        (∃ x5 : Nat, (((x5 ≤ List.length t) ∧
        (Go.Sx.Good t m f (Go.Sx.srcN t m f x5))) ∧
        ((List.length t - x5 < List.length t - x4) ∧
        ((t = t) ∧
        ((m = m) ∧
        ((f = f) ∧
        (((↑(List.length t) : Int) = (↑(List.length t) : Int)) ∧
        (((↑x4 : Int) + (1 : Int) = (↑x5 : Int)) ∧
        (Go.Sx.srcN t m f x4 = Go.Sx.srcN t m f x5))))))))))
        ((Go.Sx.inB (↑x4 : Int) (List.length (Go.Sx.srcN t m f x4))) ∧
        ((∃ x6 : List Int × Bool, (((x4 < List.length t) ∧
        ((List.getD (Go.Sx.srcN t m f x4) x4 (0 : Int) < (0 : Int)) ∧
        ((Go.Sx.Good t m f (Prod.fst x6)) ∧
        ((Go.Sx.growF t m f (List.set (Go.Sx.srcN t m f x4) x4 (0 : Int)) = Go.Sx.growF t m f (Prod.fst x6)) ∧
        (Prod.snd x6 = Bool.false → Go.Sx.growF t m f (Prod.fst x6) = Prod.fst x6))))) ∧
        ((t = t) ∧
        ((m = m) ∧
        ((f = f) ∧
        (((↑(List.length t) : Int) = (↑(List.length t) : Int)) ∧
        (((↑x4 : Int) = (↑x4 : Int)) ∧
        (((↑x4 : Int) = (↑x4 : Int)) ∧
        ((Bool.true = x6.2) ∧
        (List.set (Go.Sx.srcN t m f x4) (Int.toNat (↑x4 : Int)) (0 : Int) = x6.1)))))))))) ∧
        (∀ x7 : List Int × Bool, (((x4 < List.length t) ∧
        ((List.getD (Go.Sx.srcN t m f x4) x4 (0 : Int) < (0 : Int)) ∧
        ((Go.Sx.Good t m f (Prod.fst x7)) ∧
        ((Go.Sx.growF t m f (List.set (Go.Sx.srcN t m f x4) x4 (0 : Int)) = Go.Sx.growF t m f (Prod.fst x7)) ∧
        (Prod.snd x7 = Bool.false → Go.Sx.growF t m f (Prod.fst x7) = Prod.fst x7))))) →
        (BrP (x7.2)
          ((∃ x8 : Nat, (((x8 ≤ List.length t) ∧
          (x7.2 = Bool.true)) ∧
          ((t = t) ∧
          ((m = m) ∧
          ((f = f) ∧
          (((↑(List.length t) : Int) = (↑(List.length t) : Int)) ∧
          (((↑x4 : Int) = (↑x4 : Int)) ∧
          (((↑x4 : Int) = (↑x4 : Int)) ∧
          ((Bool.false = Decidable.decide (Go.Sx.negs (Go.Sx.passG t m f x8 x7.1) < Go.Sx.negs x7.1)) ∧
          ((t = t) ∧
          (((↑(List.length t) : Int) = (↑(List.length t) : Int)) ∧
          (((0 : Int) = (↑x8 : Int)) ∧
          (x7.1 = Go.Sx.passG t m f x8 x7.1))))))))))))) ∧
          (∀ x9 : Nat, (((x9 ≤ List.length t) ∧
          (x7.2 = Bool.true)) →
          (BrP (Decidable.decide ((↑x9 : Int) < (↑(List.length t) : Int)))
            ((Go.Sx.inB (↑x9 : Int) (List.length t)) ∧
            ((∃ x10 : Nat, (((x10 ≤ List.length t) ∧
            (x9 < List.length t)) ∧
            ((t = t) ∧
            ((m = m) ∧
            ((f = f) ∧
            (((↑(List.length t) : Int) = (↑(List.length t) : Int)) ∧
            (((↑x4 : Int) = (↑x4 : Int)) ∧
            (((↑x4 : Int) = (↑x4 : Int)) ∧
            ((Decidable.decide (Go.Sx.negs (Go.Sx.passG t m f x9 x7.1) < Go.Sx.negs x7.1) = Decidable.decide (Go.Sx.negs (Go.Sx.rowG t m f x9 x10 (Go.Sx.passG t m f x9 x7.1)) < Go.Sx.negs x7.1)) ∧
            ((t = t) ∧
            (((↑(List.length t) : Int) = (↑(List.length t) : Int)) ∧
            (((↑x9 : Int) = (↑x9 : Int)) ∧
            (((↑x9 : Int) = (↑x9 : Int)) ∧
            ((List.getD t (Int.toNat (↑x9 : Int)) [] = List.getD t x9 []) ∧
            ((List.getD t (Int.toNat (↑x9 : Int)) [] = List.getD t x9 []) ∧
            (((↑(List.length (List.getD t (Int.toNat (↑x9 : Int)) [])) : Int) = (↑(List.length t) : Int)) ∧
            (((0 : Int) = (↑x10 : Int)) ∧
            (Go.Sx.passG t m f x9 x7.1 = Go.Sx.rowG t m f x9 x10 (Go.Sx.passG t m f x9 x7.1))))))))))))))))))) ∧
            (∀ x11 : Nat, (((x11 ≤ List.length t) ∧
            (x9 < List.length t)) →
            (BrP (Decidable.decide ((↑x11 : Int) < (↑(List.length t) : Int)))
              ((Go.Sx.inB (↑x11 : Int) (List.length (List.getD t x9 []))) ∧
              ((Go.Sx.inB (↑x11 : Int) (List.length (Go.Sx.rowG t m f x9 x11 (Go.Sx.passG t m f x9 x7.1)))) ∧
              (BrP (Decidable.decide ((0 : Int) ≤ List.getD (Go.Sx.rowG t m f x9 x11 (Go.Sx.passG t m f x9 x7.1)) (Int.toNat (↑x11 : Int)) (0 : Int)))
                ((Go.Sx.inB (List.getD (List.getD t x9 []) (Int.toNat (↑x11 : Int)) (0 : Int)) (List.length (Go.Sx.rowG t m f x9 x11 (Go.Sx.passG t m f x9 x7.1)))) ∧
                (BrP (Decidable.decide (List.getD (Go.Sx.rowG t m f x9 x11 (Go.Sx.passG t m f x9 x7.1)) (Int.toNat (List.getD (List.getD t x9 []) (Int.toNat (↑x11 : Int)) (0 : Int))) (0 : Int) < (0 : Int)))
                  ((Go.Sx.inB (↑x11 : Int) (List.length (Go.Sx.rowG t m f x9 x11 (Go.Sx.passG t m f x9 x7.1)))) ∧
                  ((Go.Sx.inB (↑x9 : Int) (List.length f)) ∧
                  ((Go.Sx.inB (↑x11 : Int) (List.length (List.getD f (Int.toNat (↑x9 : Int)) []))) ∧
                  ((Go.Sx.InR (List.getD (Go.Sx.rowG t m f x9 x11 (Go.Sx.passG t m f x9 x7.1)) (Int.toNat (↑x11 : Int)) (0 : Int) + List.getD (List.getD f (Int.toNat (↑x9 : Int)) []) (Int.toNat (↑x11 : Int)) (0 : Int))) ∧
                  ((m ≠ (0 : Int)) ∧
                  ((Go.Sx.inB (List.getD (List.getD t x9 []) (Int.toNat (↑x11 : Int)) (0 : Int)) (List.length (Go.Sx.rowG t m f x9 x11 (Go.Sx.passG t m f x9 x7.1)))) ∧
                  ((Go.Sx.InR ((↑x11 : Int) + (1 : Int))) ∧
                  (∃ x12 : Nat, (((x12 ≤ List.length t) ∧
                  (x9 < List.length t)) ∧
                  ((List.length t - x12 < List.length t - x11) ∧
                  ((t = t) ∧
                  ((m = m) ∧
                  ((f = f) ∧
                  (((↑(List.length t) : Int) = (↑(List.length t) : Int)) ∧
                  (((↑x4 : Int) = (↑x4 : Int)) ∧
                  (((↑x4 : Int) = (↑x4 : Int)) ∧
                  ((Bool.true = Decidable.decide (Go.Sx.negs (Go.Sx.rowG t m f x9 x12 (Go.Sx.passG t m f x9 x7.1)) < Go.Sx.negs x7.1)) ∧
                  ((t = t) ∧
                  (((↑(List.length t) : Int) = (↑(List.length t) : Int)) ∧
                  (((↑x9 : Int) = (↑x9 : Int)) ∧
                  (((↑x9 : Int) = (↑x9 : Int)) ∧
                  ((List.getD t x9 [] = List.getD t x9 []) ∧
                  ((List.getD t x9 [] = List.getD t x9 []) ∧
                  (((↑(List.length t) : Int) = (↑(List.length t) : Int)) ∧
                  (((↑x11 : Int) + (1 : Int) = (↑x12 : Int)) ∧
                  (List.set (Go.Sx.rowG t m f x9 x11 (Go.Sx.passG t m f x9 x7.1)) (Int.toNat (List.getD (List.getD t x9 []) (Int.toNat (↑x11 : Int)) (0 : Int))) (Int.tmod (List.getD (Go.Sx.rowG t m f x9 x11 (Go.Sx.passG t m f x9 x7.1)) (Int.toNat (↑x11 : Int)) (0 : Int) + List.getD (List.getD f (Int.toNat (↑x9 : Int)) []) (Int.toNat (↑x11 : Int)) (0 : Int)) m) = Go.Sx.rowG t m f x9 x12 (Go.Sx.passG t m f x9 x7.1)))))))))))))))))))))))))))
                  ((Go.Sx.inB (List.getD (List.getD t x9 []) (Int.toNat (↑x11 : Int)) (0 : Int)) (List.length (Go.Sx.rowG t m f x9 x11 (Go.Sx.passG t m f x9 x7.1)))) ∧
                  (BrP (Decidable.decide ((0 : Int) ≤ List.getD (Go.Sx.rowG t m f x9 x11 (Go.Sx.passG t m f x9 x7.1)) (Int.toNat (List.getD (List.getD t x9 []) (Int.toNat (↑x11 : Int)) (0 : Int))) (0 : Int)))
                    ((Go.Sx.inB (↑x11 : Int) (List.length (Go.Sx.rowG t m f x9 x11 (Go.Sx.passG t m f x9 x7.1)))) ∧
                    (BrP (Decidable.decide (List.getD (Go.Sx.rowG t m f x9 x11 (Go.Sx.passG t m f x9 x7.1)) (Int.toNat (↑x11 : Int)) (0 : Int) < (0 : Int)))
                      ((Go.Sx.inB (List.getD (List.getD t x9 []) (Int.toNat (↑x11 : Int)) (0 : Int)) (List.length (Go.Sx.rowG t m f x9 x11 (Go.Sx.passG t m f x9 x7.1)))) ∧
                      ((Go.Sx.inB (↑x9 : Int) (List.length f)) ∧
                      ((Go.Sx.inB (↑x11 : Int) (List.length (List.getD f (Int.toNat (↑x9 : Int)) []))) ∧
                      ((Go.Sx.InR (List.getD (Go.Sx.rowG t m f x9 x11 (Go.Sx.passG t m f x9 x7.1)) (Int.toNat (List.getD (List.getD t x9 []) (Int.toNat (↑x11 : Int)) (0 : Int))) (0 : Int) - List.getD (List.getD f (Int.toNat (↑x9 : Int)) []) (Int.toNat (↑x11 : Int)) (0 : Int))) ∧
                      ((Go.Sx.InR (List.getD (Go.Sx.rowG t m f x9 x11 (Go.Sx.passG t m f x9 x7.1)) (Int.toNat (List.getD (List.getD t x9 []) (Int.toNat (↑x11 : Int)) (0 : Int))) (0 : Int) - List.getD (List.getD f (Int.toNat (↑x9 : Int)) []) (Int.toNat (↑x11 : Int)) (0 : Int) + m)) ∧
                      ((m ≠ (0 : Int)) ∧
                      ((Go.Sx.inB (↑x11 : Int) (List.length (Go.Sx.rowG t m f x9 x11 (Go.Sx.passG t m f x9 x7.1)))) ∧
                      ((Go.Sx.InR ((↑x11 : Int) + (1 : Int))) ∧
                      (∃ x13 : Nat, (((x13 ≤ List.length t) ∧
                      (x9 < List.length t)) ∧
                      ((List.length t - x13 < List.length t - x11) ∧
                      ((t = t) ∧
                      ((m = m) ∧
                      ((f = f) ∧
                      (((↑(List.length t) : Int) = (↑(List.length t) : Int)) ∧
                      (((↑x4 : Int) = (↑x4 : Int)) ∧
                      (((↑x4 : Int) = (↑x4 : Int)) ∧
                      ((Bool.true = Decidable.decide (Go.Sx.negs (Go.Sx.rowG t m f x9 x13 (Go.Sx.passG t m f x9 x7.1)) < Go.Sx.negs x7.1)) ∧
                      ((t = t) ∧
                      (((↑(List.length t) : Int) = (↑(List.length t) : Int)) ∧
                      (((↑x9 : Int) = (↑x9 : Int)) ∧
                      (((↑x9 : Int) = (↑x9 : Int)) ∧
                      ((List.getD t x9 [] = List.getD t x9 []) ∧
                      ((List.getD t x9 [] = List.getD t x9 []) ∧
                      (((↑(List.length t) : Int) = (↑(List.length t) : Int)) ∧
                      (((↑x11 : Int) + (1 : Int) = (↑x13 : Int)) ∧
                      (List.set (Go.Sx.rowG t m f x9 x11 (Go.Sx.passG t m f x9 x7.1)) (Int.toNat (↑x11 : Int)) (Int.tmod (List.getD (Go.Sx.rowG t m f x9 x11 (Go.Sx.passG t m f x9 x7.1)) (Int.toNat (List.getD (List.getD t x9 []) (Int.toNat (↑x11 : Int)) (0 : Int))) (0 : Int) - List.getD (List.getD f (Int.toNat (↑x9 : Int)) []) (Int.toNat (↑x11 : Int)) (0 : Int) + m) m) = Go.Sx.rowG t m f x9 x13 (Go.Sx.passG t m f x9 x7.1))))))))))))))))))))))))))))
                      ((Go.Sx.InR ((↑x11 : Int) + (1 : Int))) ∧
                      (∃ x14 : Nat, (((x14 ≤ List.length t) ∧
                      (x9 < List.length t)) ∧
                      ((List.length t - x14 < List.length t - x11) ∧
                      ((t = t) ∧
                      ((m = m) ∧
                      ((f = f) ∧
                      (((↑(List.length t) : Int) = (↑(List.length t) : Int)) ∧
                      (((↑x4 : Int) = (↑x4 : Int)) ∧
                      (((↑x4 : Int) = (↑x4 : Int)) ∧
                      ((Decidable.decide (Go.Sx.negs (Go.Sx.rowG t m f x9 x11 (Go.Sx.passG t m f x9 x7.1)) < Go.Sx.negs x7.1) = Decidable.decide (Go.Sx.negs (Go.Sx.rowG t m f x9 x14 (Go.Sx.passG t m f x9 x7.1)) < Go.Sx.negs x7.1)) ∧
                      ((t = t) ∧
                      (((↑(List.length t) : Int) = (↑(List.length t) : Int)) ∧
                      (((↑x9 : Int) = (↑x9 : Int)) ∧
                      (((↑x9 : Int) = (↑x9 : Int)) ∧
                      ((List.getD t x9 [] = List.getD t x9 []) ∧
                      ((List.getD t x9 [] = List.getD t x9 []) ∧
                      (((↑(List.length t) : Int) = (↑(List.length t) : Int)) ∧
                      (((↑x11 : Int) + (1 : Int) = (↑x14 : Int)) ∧
                      (Go.Sx.rowG t m f x9 x11 (Go.Sx.passG t m f x9 x7.1) = Go.Sx.rowG t m f x9 x14 (Go.Sx.passG t m f x9 x7.1)))))))))))))))))))))))
                    ((Go.Sx.InR ((↑x11 : Int) + (1 : Int))) ∧
                    (∃ x15 : Nat, (((x15 ≤ List.length t) ∧
                    (x9 < List.length t)) ∧
                    ((List.length t - x15 < List.length t - x11) ∧
                    ((t = t) ∧
                    ((m = m) ∧
                    ((f = f) ∧
                    (((↑(List.length t) : Int) = (↑(List.length t) : Int)) ∧
                    (((↑x4 : Int) = (↑x4 : Int)) ∧
                    (((↑x4 : Int) = (↑x4 : Int)) ∧
                    ((Decidable.decide (Go.Sx.negs (Go.Sx.rowG t m f x9 x11 (Go.Sx.passG t m f x9 x7.1)) < Go.Sx.negs x7.1) = Decidable.decide (Go.Sx.negs (Go.Sx.rowG t m f x9 x15 (Go.Sx.passG t m f x9 x7.1)) < Go.Sx.negs x7.1)) ∧
                    ((t = t) ∧
                    (((↑(List.length t) : Int) = (↑(List.length t) : Int)) ∧
                    (((↑x9 : Int) = (↑x9 : Int)) ∧
                    (((↑x9 : Int) = (↑x9 : Int)) ∧
                    ((List.getD t x9 [] = List.getD t x9 []) ∧
                    ((List.getD t x9 [] = List.getD t x9 []) ∧
                    (((↑(List.length t) : Int) = (↑(List.length t) : Int)) ∧
                    (((↑x11 : Int) + (1 : Int) = (↑x15 : Int)) ∧
                    (Go.Sx.rowG t m f x9 x11 (Go.Sx.passG t m f x9 x7.1) = Go.Sx.rowG t m f x9 x15 (Go.Sx.passG t m f x9 x7.1)))))))))))))))))))))))))
                ((Go.Sx.inB (List.getD (List.getD t x9 []) (Int.toNat (↑x11 : Int)) (0 : Int)) (List.length (Go.Sx.rowG t m f x9 x11 (Go.Sx.passG t m f x9 x7.1)))) ∧
                (BrP (Decidable.decide ((0 : Int) ≤ List.getD (Go.Sx.rowG t m f x9 x11 (Go.Sx.passG t m f x9 x7.1)) (Int.toNat (List.getD (List.getD t x9 []) (Int.toNat (↑x11 : Int)) (0 : Int))) (0 : Int)))
                  ((Go.Sx.inB (↑x11 : Int) (List.length (Go.Sx.rowG t m f x9 x11 (Go.Sx.passG t m f x9 x7.1)))) ∧
                  (BrP (Decidable.decide (List.getD (Go.Sx.rowG t m f x9 x11 (Go.Sx.passG t m f x9 x7.1)) (Int.toNat (↑x11 : Int)) (0 : Int) < (0 : Int)))
                    ((Go.Sx.inB (List.getD (List.getD t x9 []) (Int.toNat (↑x11 : Int)) (0 : Int)) (List.length (Go.Sx.rowG t m f x9 x11 (Go.Sx.passG t m f x9 x7.1)))) ∧
                    ((Go.Sx.inB (↑x9 : Int) (List.length f)) ∧
                    ((Go.Sx.inB (↑x11 : Int) (List.length (List.getD f (Int.toNat (↑x9 : Int)) []))) ∧
                    ((Go.Sx.InR (List.getD (Go.Sx.rowG t m f x9 x11 (Go.Sx.passG t m f x9 x7.1)) (Int.toNat (List.getD (List.getD t x9 []) (Int.toNat (↑x11 : Int)) (0 : Int))) (0 : Int) - List.getD (List.getD f (Int.toNat (↑x9 : Int)) []) (Int.toNat (↑x11 : Int)) (0 : Int))) ∧
                    ((Go.Sx.InR (List.getD (Go.Sx.rowG t m f x9 x11 (Go.Sx.passG t m f x9 x7.1)) (Int.toNat (List.getD (List.getD t x9 []) (Int.toNat (↑x11 : Int)) (0 : Int))) (0 : Int) - List.getD (List.getD f (Int.toNat (↑x9 : Int)) []) (Int.toNat (↑x11 : Int)) (0 : Int) + m)) ∧
                    ((m ≠ (0 : Int)) ∧
                    ((Go.Sx.inB (↑x11 : Int) (List.length (Go.Sx.rowG t m f x9 x11 (Go.Sx.passG t m f x9 x7.1)))) ∧
                    ((Go.Sx.InR ((↑x11 : Int) + (1 : Int))) ∧
                    (∃ x16 : Nat, (((x16 ≤ List.length t) ∧
                    (x9 < List.length t)) ∧
                    ((List.length t - x16 < List.length t - x11) ∧
                    ((t = t) ∧
                    ((m = m) ∧
                    ((f = f) ∧
                    (((↑(List.length t) : Int) = (↑(List.length t) : Int)) ∧
                    (((↑x4 : Int) = (↑x4 : Int)) ∧
                    (((↑x4 : Int) = (↑x4 : Int)) ∧
                    ((Bool.true = Decidable.decide (Go.Sx.negs (Go.Sx.rowG t m f x9 x16 (Go.Sx.passG t m f x9 x7.1)) < Go.Sx.negs x7.1)) ∧
                    ((t = t) ∧
                    (((↑(List.length t) : Int) = (↑(List.length t) : Int)) ∧
                    (((↑x9 : Int) = (↑x9 : Int)) ∧
                    (((↑x9 : Int) = (↑x9 : Int)) ∧
                    ((List.getD t x9 [] = List.getD t x9 []) ∧
                    ((List.getD t x9 [] = List.getD t x9 []) ∧
                    (((↑(List.length t) : Int) = (↑(List.length t) : Int)) ∧
                    (((↑x11 : Int) + (1 : Int) = (↑x16 : Int)) ∧
                    (List.set (Go.Sx.rowG t m f x9 x11 (Go.Sx.passG t m f x9 x7.1)) (Int.toNat (↑x11 : Int)) (Int.tmod (List.getD (Go.Sx.rowG t m f x9 x11 (Go.Sx.passG t m f x9 x7.1)) (Int.toNat (List.getD (List.getD t x9 []) (Int.toNat (↑x11 : Int)) (0 : Int))) (0 : Int) - List.getD (List.getD f (Int.toNat (↑x9 : Int)) []) (Int.toNat (↑x11 : Int)) (0 : Int) + m) m) = Go.Sx.rowG t m f x9 x16 (Go.Sx.passG t m f x9 x7.1))))))))))))))))))))))))))))
                    ((Go.Sx.InR ((↑x11 : Int) + (1 : Int))) ∧
                    (∃ x17 : Nat, (((x17 ≤ List.length t) ∧
                    (x9 < List.length t)) ∧
                    ((List.length t - x17 < List.length t - x11) ∧
                    ((t = t) ∧
                    ((m = m) ∧
                    ((f = f) ∧
                    (((↑(List.length t) : Int) = (↑(List.length t) : Int)) ∧
                    (((↑x4 : Int) = (↑x4 : Int)) ∧
                    (((↑x4 : Int) = (↑x4 : Int)) ∧
                    ((Decidable.decide (Go.Sx.negs (Go.Sx.rowG t m f x9 x11 (Go.Sx.passG t m f x9 x7.1)) < Go.Sx.negs x7.1) = Decidable.decide (Go.Sx.negs (Go.Sx.rowG t m f x9 x17 (Go.Sx.passG t m f x9 x7.1)) < Go.Sx.negs x7.1)) ∧
                    ((t = t) ∧
                    (((↑(List.length t) : Int) = (↑(List.length t) : Int)) ∧
                    (((↑x9 : Int) = (↑x9 : Int)) ∧
                    (((↑x9 : Int) = (↑x9 : Int)) ∧
                    ((List.getD t x9 [] = List.getD t x9 []) ∧
                    ((List.getD t x9 [] = List.getD t x9 []) ∧
                    (((↑(List.length t) : Int) = (↑(List.length t) : Int)) ∧
                    (((↑x11 : Int) + (1 : Int) = (↑x17 : Int)) ∧
                    (Go.Sx.rowG t m f x9 x11 (Go.Sx.passG t m f x9 x7.1) = Go.Sx.rowG t m f x9 x17 (Go.Sx.passG t m f x9 x7.1)))))))))))))))))))))))
                  ((Go.Sx.InR ((↑x11 : Int) + (1 : Int))) ∧
                  (∃ x18 : Nat, (((x18 ≤ List.length t) ∧
                  (x9 < List.length t)) ∧
                  ((List.length t - x18 < List.length t - x11) ∧
                  ((t = t) ∧
                  ((m = m) ∧
                  ((f = f) ∧
                  (((↑(List.length t) : Int) = (↑(List.length t) : Int)) ∧
                  (((↑x4 : Int) = (↑x4 : Int)) ∧
                  (((↑x4 : Int) = (↑x4 : Int)) ∧
                  ((Decidable.decide (Go.Sx.negs (Go.Sx.rowG t m f x9 x11 (Go.Sx.passG t m f x9 x7.1)) < Go.Sx.negs x7.1) = Decidable.decide (Go.Sx.negs (Go.Sx.rowG t m f x9 x18 (Go.Sx.passG t m f x9 x7.1)) < Go.Sx.negs x7.1)) ∧
                  ((t = t) ∧
                  (((↑(List.length t) : Int) = (↑(List.length t) : Int)) ∧
                  (((↑x9 : Int) = (↑x9 : Int)) ∧
                  (((↑x9 : Int) = (↑x9 : Int)) ∧
                  ((List.getD t x9 [] = List.getD t x9 []) ∧
                  ((List.getD t x9 [] = List.getD t x9 []) ∧
                  (((↑(List.length t) : Int) = (↑(List.length t) : Int)) ∧
                  (((↑x11 : Int) + (1 : Int) = (↑x18 : Int)) ∧
                  (Go.Sx.rowG t m f x9 x11 (Go.Sx.passG t m f x9 x7.1) = Go.Sx.rowG t m f x9 x18 (Go.Sx.passG t m f x9 x7.1))))))))))))))))))))))))))
              ((Go.Sx.InR ((↑x9 : Int) + (1 : Int))) ∧
              (∃ x19 : Nat, (((x19 ≤ List.length t) ∧
              (x7.2 = Bool.true)) ∧
              ((List.length t - x19 < List.length t - x9) ∧
              ((t = t) ∧
              ((m = m) ∧
              ((f = f) ∧
              (((↑(List.length t) : Int) = (↑(List.length t) : Int)) ∧
              (((↑x4 : Int) = (↑x4 : Int)) ∧
              (((↑x4 : Int) = (↑x4 : Int)) ∧
              ((Decidable.decide (Go.Sx.negs (Go.Sx.rowG t m f x9 x11 (Go.Sx.passG t m f x9 x7.1)) < Go.Sx.negs x7.1) = Decidable.decide (Go.Sx.negs (Go.Sx.passG t m f x19 x7.1) < Go.Sx.negs x7.1)) ∧
              ((t = t) ∧
              (((↑(List.length t) : Int) = (↑(List.length t) : Int)) ∧
              (((↑x9 : Int) + (1 : Int) = (↑x19 : Int)) ∧
              (Go.Sx.rowG t m f x9 x11 (Go.Sx.passG t m f x9 x7.1) = Go.Sx.passG t m f x19 x7.1))))))))))))))))))))
            (∃ x20 : List Int × Bool, (((x4 < List.length t) ∧
            ((List.getD (Go.Sx.srcN t m f x4) x4 (0 : Int) < (0 : Int)) ∧
            ((Go.Sx.Good t m f (Prod.fst x20)) ∧
            ((Go.Sx.growF t m f (List.set (Go.Sx.srcN t m f x4) x4 (0 : Int)) = Go.Sx.growF t m f (Prod.fst x20)) ∧
            (Prod.snd x20 = Bool.false → Go.Sx.growF t m f (Prod.fst x20) = Prod.fst x20))))) ∧
            ((((2 : Nat) * Go.Sx.negs (Prod.fst x20) + bif Prod.snd x20 then (1 : Nat) else (0 : Nat)) < (2 : Nat) * Go.Sx.negs (Prod.fst x7) + bif Prod.snd x7 then (1 : Nat) else (0 : Nat)) ∧
            ((t = t) ∧
            ((m = m) ∧
            ((f = f) ∧
            (((↑(List.length t) : Int) = (↑(List.length t) : Int)) ∧
            (((↑x4 : Int) = (↑x4 : Int)) ∧
            (((↑x4 : Int) = (↑x4 : Int)) ∧
            ((Decidable.decide (Go.Sx.negs (Go.Sx.passG t m f x9 x7.1) < Go.Sx.negs x7.1) = x20.2) ∧
            (Go.Sx.passG t m f x9 x7.1 = x20.1)))))))))))))))
          ((Go.Sx.InR ((↑x4 : Int) + (1 : Int))) ∧
          (∃ x21 : Nat, (((x21 ≤ List.length t) ∧
          (Go.Sx.Good t m f (Go.Sx.srcN t m f x21))) ∧
          ((List.length t - x21 < List.length t - x4) ∧
          ((t = t) ∧
          ((m = m) ∧
          ((f = f) ∧
          (((↑(List.length t) : Int) = (↑(List.length t) : Int)) ∧
          (((↑x4 : Int) + (1 : Int) = (↑x21 : Int)) ∧
          (x7.1 = Go.Sx.srcN t m f x21)))))))))))))))))
      ((Go.Sx.srcN t m f x4 = Go.Sx.srcN t m f (List.length t)) ∧
      (True)))))))))))
theorem iSource_vc (t : List (List Int)) (m : Int) (f : List (List Int)) : runF Try.prog (gam iSource_G) noWr (iSource_ann t m f) Try.f59 (bodyOf Try.f59) [] [.c (.rows .i64 (t)), .c (.int .i64 (m)), .c (.rows .i64 (f))] (iSource_p t m f) = iSource_V t m f := by kernel_rfl
theorem iSource_ok (t : List (List Int)) (m : Int) (f : List (List Int)) (hpre : (iSource_p t m f).pre) : iSource_V t m f := by
  simp only [iSource_p, iSource_V, BrP_iff, true_and, and_true, decide_eq_true_eq, decide_eq_false_iff_not, bne_iff_ne, beq_iff_eq, bne_eq_false_iff_eq, beq_eq_false_iff_ne, Bool.not_eq_true, Bool.not_eq_false, Bool.not_true, Bool.not_false, Bool.not_eq_eq_eq_not, Int.toNat_natCast, List.length_append, List.length_take, List.length_replicate, List.length_set, List.length_map, List.length_drop, List.length_nil, List.length_cons, markL_length, inB, InR, room, bdsOk] at hpre ⊢
  obtain ⟨h1, h2⟩ := hpre
  obtain ⟨n1, n2, ht⟩ := tabB_of h1
  obtain ⟨m1, m2, m3, hf⟩ := matB_of h2
  refine ⟨by omega, ⟨0, by omega, rfl, by simp⟩, fun i hi => ⟨fun h => ⟨by omega, by omega, i + 1, by omega, by omega, by omega, ?_⟩, fun h => ⟨⟨0, ⟨by omega, srcN_good h1 h2 0⟩, by omega, rfl, ?_⟩, fun s hs => ⟨fun h3 => ?_, fun h3 => ?_⟩⟩⟩⟩
  · have e : List.replicate (t.length - i) (0 : Int) = 0 :: List.replicate (t.length - (i + 1)) 0 := by rw [show t.length - i = (t.length - (i + 1)) + 1 by omega]; rfl
    rw [e, at_set _ _ _ _ _ (by simp), List.replicate_succ', List.append_assoc]; rfl
  · rw [show t.length - i = 0 by omega, show i = t.length by omega]; simp [srcN]
  · obtain ⟨hs, hg⟩ := hs
    have hl := hg.len
    have e1 : srcN t m f (s + 1) = if 0 ≤ (srcN t m f s).getD s 0 then srcN t m f s else growF t m f ((srcN t m f s).set s 0) := rfl
    refine ⟨by omega, fun h4 => ⟨by omega, s + 1, ⟨by omega, by rw [e1, if_pos h4]; exact hg⟩, by omega, by omega, by rw [e1, if_pos h4]⟩, fun h4 => ⟨by omega, ?_, fun x ⟨hx0, hx1, hx2, hx3, hx4⟩ => ⟨fun h5 => ?_, fun h5 => ?_⟩⟩⟩
    · exact ⟨((srcN t m f s).set s 0, true), ⟨by omega, by omega, set0_good hg s, rfl, fun h => by cases h⟩, rfl, rfl⟩
    · obtain ⟨g, gr⟩ := x
      dsimp only at hx0 hx1 hx2 hx3 hx4 h5 ⊢
      refine ⟨⟨0, ⟨by omega, h5⟩, by simp [passG], rfl, rfl⟩, fun i hi => ⟨fun h6 => ?_, fun h6 => ?_⟩⟩
      · refine ⟨by omega, ⟨0, by omega, rfl, by have := (ht i (by omega)).1; omega, rfl, rfl⟩, fun j hj => ⟨fun h7 => ?_, fun h7 => ?_⟩⟩
        · have hP := passG_good hx2 i (by omega)
          have hR := rowG_good hP.1 i (by omega) j (by omega)
          have hL := hP.2.trans hR.2
          have st := rowG_step t m f i j (passG t m f i g)
          generalize rowG t m f i j (passG t m f i g) = G at hR hL st ⊢
          have hG := hR.1
          have gl := hG.len
          have tr := ht i (by omega)
          have tv := tr.2 j (by omega)
          have fr := hf i (by omega)
          have fv := fr.2 j (by omega)
          have vy := hG.val j (by omega)
          have vz := hG.val ((t.getD i []).getD j 0).toNat (by omega)
          have ee : en t i j = (t.getD i []).getD j 0 := rfl
          have ef : en f i j = (f.getD i []).getD j 0 := rfl
          have same : sg t m f G i j = G → ∃ x12, (x12 ≤ t.length ∧ i < t.length) ∧ t.length - x12 < t.length - j ∧ decide (negs G < negs g) = decide (negs (rowG t m f i x12 (passG t m f i g)) < negs g) ∧ (j : Int) + 1 = (x12 : Int) ∧ G = rowG t m f i x12 (passG t m f i g) := fun h => ⟨j + 1, by omega, by omega, by rw [st, h], by omega, by rw [st, h]⟩
          have grow : negs (sg t m f G i j) + 1 = negs G → true = decide (negs (rowG t m f i (j + 1) (passG t m f i g)) < negs g) := fun h => by
            rw [st]
            rcases hL with rfl | hL
            · exact (decide_eq_true (by omega)).symm
            · exact (decide_eq_true (by omega)).symm
          have neg := sg_negs h1 h2 hG.val gl i j (by omega) (by omega)
          refine ⟨by omega, by omega, fun h8 => ⟨by omega, fun h9 => ?_, fun h9 => ⟨by omega, fun h10 => ⟨by omega, fun h11 => by omega, fun h11 => ⟨by omega, same ?_⟩⟩, fun h10 => ⟨by omega, same ?_⟩⟩⟩, fun h8 => ⟨by omega, fun h9 => ⟨by omega, fun h10 => ?_, fun h10 => ⟨by omega, same ?_⟩⟩, fun h9 => ⟨by omega, same ?_⟩⟩⟩
          · have e : sg t m f G i j = G.set ((t.getD i []).getD j 0).toNat ((G.getD j 0 + (f.getD i []).getD j 0).tmod m) := by
              simp only [sg, ee, ef]; rw [if_pos ⟨h8, h9⟩]
            have n : negs (sg t m f G i j) + 1 = negs G := by
              rw [e]; exact negs_set (by omega) h9 (tmod_in (by omega) m1).1
            exact ⟨by omega, by omega, by omega, by omega, by omega, by omega, by omega, j + 1, by omega, by omega, grow n, by omega, by rw [st, e]⟩
          · simp only [sg, ee, ef]; rw [if_neg (by omega), if_neg (by omega)]
          · simp only [sg, ee, ef]; rw [if_neg (by omega), if_neg (by omega)]
          · have e : sg t m f G i j = G.set j ((G.getD ((t.getD i []).getD j 0).toNat 0 - (f.getD i []).getD j 0 + m).tmod m) := by
              simp only [sg, ee, ef]; rw [if_neg (by omega), if_pos ⟨h9, h10⟩]
            have n : negs (sg t m f G i j) + 1 = negs G := by
              rw [e]; exact negs_set (by omega) h10 (tmod_in (by omega) m1).1
            exact ⟨by omega, by omega, by omega, by omega, by omega, by omega, by omega, by omega, j + 1, by omega, by omega, grow n, by omega, by rw [st, e]⟩
          · simp only [sg, ee, ef]; rw [if_neg (by omega), if_neg (by omega)]
          · simp only [sg, ee, ef]; rw [if_neg (by omega), if_neg (by omega)]
        · exact ⟨by omega, i + 1, ⟨by omega, h5⟩, by omega, by rw [passG_step, show j = t.length by omega], by omega, by rw [passG_step, show j = t.length by omega]⟩
      · obtain ⟨p1, p2, p3, p4⟩ := pass_next hx2
        have ei : i = t.length := by omega
        subst h5
        rw [ei]
        exact ⟨(passG t m f t.length g, decide (negs (passG t m f t.length g) < negs g)), ⟨by omega, hx1, p1, by rw [hx3, p2], p3⟩, by simpa using p4, rfl, rfl⟩
    · obtain ⟨g, gr⟩ := x
      dsimp only at hx0 hx1 hx2 hx3 hx4 h5 ⊢
      have e : srcN t m f (s + 1) = g := by rw [e1, if_neg h4, hx3, hx4 (by simpa using h5)]
      exact ⟨by omega, s + 1, ⟨by omega, by rw [e]; exact hx2⟩, by omega, by omega, by rw [e]⟩
  · rw [show s = t.length by omega]
theorem iSource_fits : Fits Try.prog 59 ⟨[], iSource_ct⟩ := by
  refine fits_fn (Γ := gam iSource_G) gok_nil Try.func59 (by kernel_rfl) (by kernel_rfl) (by kernel_rfl) fun ds p h hp => ?_
  unfold iSource_ct at h
  split at h
  · cases h
    exact ⟨noWr, iSource_ann _ _ _ , by rw [iSource_vc]; exact iSource_ok _ _ _  hp⟩
  · cases h

end Go.Sx

