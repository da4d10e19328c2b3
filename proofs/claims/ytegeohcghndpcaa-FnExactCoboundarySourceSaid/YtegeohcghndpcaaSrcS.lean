/- The contract of spec.l14Source. -/
import Derived.Test.YtegeohcghndpcaaSrcI
import Derived.Test.YtegeohcghndpcaaOwn
open Go Go.Proofs
namespace Go.Sx
set_option linter.unusedSimpArgs false
set_option linter.unusedVariables false

def lsC (t : List (List Int)) (m : Int) (f : List (List Int)) (g : List Int) : List Int × Bool := if growKF t m f g = true then (growF t m f g, true) else ([], false)

theorem lsC_no {t : List (List Int)} {m : Int} {f : List (List Int)} {g : List Int} (h : growKF t m f g = false) : [] = (lsC t m f g).1 ∧ false = (lsC t m f g).2 := by simp [lsC, h]
theorem lsC_yes {t : List (List Int)} {m : Int} {f : List (List Int)} {g h : List Int} (e : growKF t m f g = true) (k : growF t m f g = h) : h = (lsC t m f g).1 ∧ true = (lsC t m f g).2 := by simp [lsC, e, k]

theorem passK_next {t : List (List Int)} {m : Int} {f : List (List Int)} {g : List Int} (h : Good t m f g) (k : passK t m f t.length g = true) :
    growKF t m f g = growKF t m f (passG t m f t.length g) ∧ (decide (negs (passG t m f t.length g) < negs g) = false → growKF t m f (passG t m f t.length g) = true) := by
  obtain ⟨a, b⟩ := passG_good h t.length (Nat.le_refl _)
  have e := growKF_step h
  rw [k, Bool.true_and] at e
  refine ⟨?_, fun hd => ?_⟩
  · by_cases h1 : passG t m f t.length g = g
    · rw [h1]
    · rw [e, if_neg h1]
  · have h1 : passG t m f t.length g = g := b.resolve_right (by simpa using hd)
    rw [h1, e, if_pos h1]

theorem growKF_bad {t : List (List Int)} {m : Int} {f : List (List Int)} {g : List Int} (h : Good t m f g) (k : passK t m f t.length g = false) : growKF t m f g = false := by
  rw [growKF_step h, k, Bool.false_and]

def l14Source_p (t : List (List Int)) (m : Int) (f : List (List Int)) (g : List Int) : Post := ⟨Good t m f g, .tup [.inl (.ints 2 .i64 ((lsC t m f g).1)), .inl (.bool ((lsC t m f g).2))], []⟩
def l14Source_ct : List AD → Option Post
  | [.c (.rows .i64 (t)), .c (.int .i64 (m)), .c (.rows .i64 (f)), .c (.ints .i64 (g))] => some (l14Source_p t m f g)
  | _ => none
def l14Source_ann (t : List (List Int)) (m : Int) (f : List (List Int)) (g : List Int) : Nat → Option Ann
  | 0 => some (Ann.mk ((List Int) × (Bool)) (fun x => match x with | (h, gr) => ⟨[(0, .c (.ro (.rows .i64 (t)))), (1, .c (.int .i64 (m))), (2, .c (.ro (.rows .i64 (f)))), (10, .c (.own (16))), (11, .c (.bool (gr)))], [(16, some (.ints 2 .i64 (h)))]⟩) (fun x => match x with | (h, gr) => Good t m f h ∧ growF t m f g = growF t m f h ∧ growKF t m f g = growKF t m f h ∧ (gr = false → growF t m f h = h ∧ growKF t m f h = true)) (fun x => match x with | (h, gr) => 2 * negs h + (bif gr then 1 else 0)) (fun x => match x with | (h, gr) => fun b_ => match b_ with | 2 => some (Ann.mk ((Nat)) (fun i => ⟨[(0, .c (.ro (.rows .i64 (t)))), (1, .c (.int .i64 (m))), (2, .c (.ro (.rows .i64 (f)))), (10, .c (.own (16))), (11, .c (.bool (decide (negs (passG t m f i h) < negs h)))), (12, .c (.int .i64 ((i : Int))))], [(16, some (.ints 2 .i64 (passG t m f i h)))]⟩) (fun i => i ≤ t.length ∧ gr = true ∧ passK t m f i h = true) (fun i => t.length - i) (fun i => fun b_ => match b_ with | 4 => some (Ann.mk ((Nat)) (fun j => ⟨[(0, .c (.ro (.rows .i64 (t)))), (1, .c (.int .i64 (m))), (2, .c (.ro (.rows .i64 (f)))), (10, .c (.own (16))), (11, .c (.bool (decide (negs (rowG t m f i j (passG t m f i h)) < negs h)))), (12, .c (.int .i64 ((i : Int)))), (13, .c (.int .i64 ((j : Int))))], [(16, some (.ints 2 .i64 (rowG t m f i j (passG t m f i h))))]⟩) (fun j => j ≤ t.length ∧ i < t.length ∧ rowK t m f i j (passG t m f i h) = true) (fun j => t.length - j) (fun _ => noAnn)) | _ => none)) | _ => none))
  | _ => none
def l14Source_G : List (Nat × Ctr) := [(91, ⟨[], l01Own_ct⟩)]
def l14Source_V (t : List (List Int)) (m : Int) (f : List (List Int)) (g : List Int) : Prop :=
  (((Go.Sx.room (List.length g)) ∧
  (True)) ∧
  ((∃ x0 : List Int × Bool, (((Go.Sx.Good t m f (Prod.fst x0)) ∧
  ((Go.Sx.growF t m f g = Go.Sx.growF t m f (Prod.fst x0)) ∧
  ((Go.Sx.growKF t m f g = Go.Sx.growKF t m f (Prod.fst x0)) ∧
  (Prod.snd x0 = Bool.false → Go.Sx.growF t m f (Prod.fst x0) = Prod.fst x0 ∧ Go.Sx.growKF t m f (Prod.fst x0) = Bool.true)))) ∧
  ((t = t) ∧
  ((m = m) ∧
  ((f = f) ∧
  ((Bool.true = x0.2) ∧
  (g = x0.1))))))) ∧
  (∀ x1 : List Int × Bool, (((Go.Sx.Good t m f (Prod.fst x1)) ∧
  ((Go.Sx.growF t m f g = Go.Sx.growF t m f (Prod.fst x1)) ∧
  ((Go.Sx.growKF t m f g = Go.Sx.growKF t m f (Prod.fst x1)) ∧
  (Prod.snd x1 = Bool.false → Go.Sx.growF t m f (Prod.fst x1) = Prod.fst x1 ∧ Go.Sx.growKF t m f (Prod.fst x1) = Bool.true)))) →
  (BrP (x1.2)
    ((∃ x2 : Nat, (((x2 ≤ List.length t) ∧
    ((x1.2 = Bool.true) ∧
    (Go.Sx.passK t m f x2 x1.1 = Bool.true))) ∧
    ((t = t) ∧
    ((m = m) ∧
    ((f = f) ∧
    ((Bool.false = Decidable.decide (Go.Sx.negs (Go.Sx.passG t m f x2 x1.1) < Go.Sx.negs x1.1)) ∧
    (((0 : Int) = (↑x2 : Int)) ∧
    (x1.1 = Go.Sx.passG t m f x2 x1.1)))))))) ∧
    (∀ x3 : Nat, (((x3 ≤ List.length t) ∧
    ((x1.2 = Bool.true) ∧
    (Go.Sx.passK t m f x3 x1.1 = Bool.true))) →
    (BrP (Decidable.decide ((↑x3 : Int) < (↑(List.length t) : Int)))
      ((∃ x4 : Nat, (((x4 ≤ List.length t) ∧
      ((x3 < List.length t) ∧
      (Go.Sx.rowK t m f x3 x4 (Go.Sx.passG t m f x3 x1.1) = Bool.true))) ∧
      ((t = t) ∧
      ((m = m) ∧
      ((f = f) ∧
      ((Decidable.decide (Go.Sx.negs (Go.Sx.passG t m f x3 x1.1) < Go.Sx.negs x1.1) = Decidable.decide (Go.Sx.negs (Go.Sx.rowG t m f x3 x4 (Go.Sx.passG t m f x3 x1.1)) < Go.Sx.negs x1.1)) ∧
      (((↑x3 : Int) = (↑x3 : Int)) ∧
      (((0 : Int) = (↑x4 : Int)) ∧
      (Go.Sx.passG t m f x3 x1.1 = Go.Sx.rowG t m f x3 x4 (Go.Sx.passG t m f x3 x1.1)))))))))) ∧
      (∀ x5 : Nat, (((x5 ≤ List.length t) ∧
      ((x3 < List.length t) ∧
      (Go.Sx.rowK t m f x3 x5 (Go.Sx.passG t m f x3 x1.1) = Bool.true))) →
      (BrP (Decidable.decide ((↑x5 : Int) < (↑(List.length t) : Int)))
        ((Go.Sx.inB (↑x3 : Int) (List.length t)) ∧
        ((Go.Sx.inB (↑x5 : Int) (List.length (List.getD t (Int.toNat (↑x3 : Int)) []))) ∧
        ((Go.Sx.inB (↑x5 : Int) (List.length (Go.Sx.rowG t m f x3 x5 (Go.Sx.passG t m f x3 x1.1)))) ∧
        (BrP (Decidable.decide ((0 : Int) ≤ List.getD (Go.Sx.rowG t m f x3 x5 (Go.Sx.passG t m f x3 x1.1)) (Int.toNat (↑x5 : Int)) (0 : Int)))
          ((Go.Sx.inB (List.getD (List.getD t (Int.toNat (↑x3 : Int)) []) (Int.toNat (↑x5 : Int)) (0 : Int)) (List.length (Go.Sx.rowG t m f x3 x5 (Go.Sx.passG t m f x3 x1.1)))) ∧
          (BrP (Decidable.decide (List.getD (Go.Sx.rowG t m f x3 x5 (Go.Sx.passG t m f x3 x1.1)) (Int.toNat (List.getD (List.getD t (Int.toNat (↑x3 : Int)) []) (Int.toNat (↑x5 : Int)) (0 : Int))) (0 : Int) < (0 : Int)))
            ((Go.Sx.inB (↑x5 : Int) (List.length (Go.Sx.rowG t m f x3 x5 (Go.Sx.passG t m f x3 x1.1)))) ∧
            ((Go.Sx.inB (↑x3 : Int) (List.length f)) ∧
            ((Go.Sx.inB (↑x5 : Int) (List.length (List.getD f (Int.toNat (↑x3 : Int)) []))) ∧
            ((Go.Sx.InR (List.getD (Go.Sx.rowG t m f x3 x5 (Go.Sx.passG t m f x3 x1.1)) (Int.toNat (↑x5 : Int)) (0 : Int) + List.getD (List.getD f (Int.toNat (↑x3 : Int)) []) (Int.toNat (↑x5 : Int)) (0 : Int))) ∧
            ((m ≠ (0 : Int)) ∧
            ((Go.Sx.inB (List.getD (List.getD t (Int.toNat (↑x3 : Int)) []) (Int.toNat (↑x5 : Int)) (0 : Int)) (List.length (Go.Sx.rowG t m f x3 x5 (Go.Sx.passG t m f x3 x1.1)))) ∧
            ((Go.Sx.InR ((↑x5 : Int) + (1 : Int))) ∧
            (∃ x6 : Nat, (((x6 ≤ List.length t) ∧
            ((x3 < List.length t) ∧
            (Go.Sx.rowK t m f x3 x6 (Go.Sx.passG t m f x3 x1.1) = Bool.true))) ∧
            ((List.length t - x6 < List.length t - x5) ∧
            ((t = t) ∧
            ((m = m) ∧
            ((f = f) ∧
            ((Bool.true = Decidable.decide (Go.Sx.negs (Go.Sx.rowG t m f x3 x6 (Go.Sx.passG t m f x3 x1.1)) < Go.Sx.negs x1.1)) ∧
            (((↑x3 : Int) = (↑x3 : Int)) ∧
            (((↑x5 : Int) + (1 : Int) = (↑x6 : Int)) ∧
            (List.set (Go.Sx.rowG t m f x3 x5 (Go.Sx.passG t m f x3 x1.1)) (Int.toNat (List.getD (List.getD t (Int.toNat (↑x3 : Int)) []) (Int.toNat (↑x5 : Int)) (0 : Int))) (Int.tmod (List.getD (Go.Sx.rowG t m f x3 x5 (Go.Sx.passG t m f x3 x1.1)) (Int.toNat (↑x5 : Int)) (0 : Int) + List.getD (List.getD f (Int.toNat (↑x3 : Int)) []) (Int.toNat (↑x5 : Int)) (0 : Int)) m) = Go.Sx.rowG t m f x3 x6 (Go.Sx.passG t m f x3 x1.1))))))))))))))))))
            ((Go.Sx.inB (↑x5 : Int) (List.length (Go.Sx.rowG t m f x3 x5 (Go.Sx.passG t m f x3 x1.1)))) ∧
            (BrP (Decidable.decide (List.getD (Go.Sx.rowG t m f x3 x5 (Go.Sx.passG t m f x3 x1.1)) (Int.toNat (↑x5 : Int)) (0 : Int) < (0 : Int)))
              ((Go.Sx.inB (List.getD (List.getD t (Int.toNat (↑x3 : Int)) []) (Int.toNat (↑x5 : Int)) (0 : Int)) (List.length (Go.Sx.rowG t m f x3 x5 (Go.Sx.passG t m f x3 x1.1)))) ∧
              (BrP (Decidable.decide ((0 : Int) ≤ List.getD (Go.Sx.rowG t m f x3 x5 (Go.Sx.passG t m f x3 x1.1)) (Int.toNat (List.getD (List.getD t (Int.toNat (↑x3 : Int)) []) (Int.toNat (↑x5 : Int)) (0 : Int))) (0 : Int)))
                ((Go.Sx.inB (List.getD (List.getD t (Int.toNat (↑x3 : Int)) []) (Int.toNat (↑x5 : Int)) (0 : Int)) (List.length (Go.Sx.rowG t m f x3 x5 (Go.Sx.passG t m f x3 x1.1)))) ∧
                ((Go.Sx.inB (↑x3 : Int) (List.length f)) ∧
                ((Go.Sx.inB (↑x5 : Int) (List.length (List.getD f (Int.toNat (↑x3 : Int)) []))) ∧
                ((Go.Sx.InR (List.getD (Go.Sx.rowG t m f x3 x5 (Go.Sx.passG t m f x3 x1.1)) (Int.toNat (List.getD (List.getD t (Int.toNat (↑x3 : Int)) []) (Int.toNat (↑x5 : Int)) (0 : Int))) (0 : Int) - List.getD (List.getD f (Int.toNat (↑x3 : Int)) []) (Int.toNat (↑x5 : Int)) (0 : Int))) ∧
                ((Go.Sx.InR (List.getD (Go.Sx.rowG t m f x3 x5 (Go.Sx.passG t m f x3 x1.1)) (Int.toNat (List.getD (List.getD t (Int.toNat (↑x3 : Int)) []) (Int.toNat (↑x5 : Int)) (0 : Int))) (0 : Int) - List.getD (List.getD f (Int.toNat (↑x3 : Int)) []) (Int.toNat (↑x5 : Int)) (0 : Int) + m)) ∧
                ((m ≠ (0 : Int)) ∧
                ((Go.Sx.inB (↑x5 : Int) (List.length (Go.Sx.rowG t m f x3 x5 (Go.Sx.passG t m f x3 x1.1)))) ∧
                ((Go.Sx.InR ((↑x5 : Int) + (1 : Int))) ∧
                (∃ x7 : Nat, (((x7 ≤ List.length t) ∧
                ((x3 < List.length t) ∧
                (Go.Sx.rowK t m f x3 x7 (Go.Sx.passG t m f x3 x1.1) = Bool.true))) ∧
                ((List.length t - x7 < List.length t - x5) ∧
                ((t = t) ∧
                ((m = m) ∧
                ((f = f) ∧
                ((Bool.true = Decidable.decide (Go.Sx.negs (Go.Sx.rowG t m f x3 x7 (Go.Sx.passG t m f x3 x1.1)) < Go.Sx.negs x1.1)) ∧
                (((↑x3 : Int) = (↑x3 : Int)) ∧
                (((↑x5 : Int) + (1 : Int) = (↑x7 : Int)) ∧
                (List.set (Go.Sx.rowG t m f x3 x5 (Go.Sx.passG t m f x3 x1.1)) (Int.toNat (↑x5 : Int)) (Int.tmod (List.getD (Go.Sx.rowG t m f x3 x5 (Go.Sx.passG t m f x3 x1.1)) (Int.toNat (List.getD (List.getD t (Int.toNat (↑x3 : Int)) []) (Int.toNat (↑x5 : Int)) (0 : Int))) (0 : Int) - List.getD (List.getD f (Int.toNat (↑x3 : Int)) []) (Int.toNat (↑x5 : Int)) (0 : Int) + m) m) = Go.Sx.rowG t m f x3 x7 (Go.Sx.passG t m f x3 x1.1)))))))))))))))))))
                ((Go.Sx.inB (↑x5 : Int) (List.length (Go.Sx.rowG t m f x3 x5 (Go.Sx.passG t m f x3 x1.1)))) ∧
                (BrP (Decidable.decide ((0 : Int) ≤ List.getD (Go.Sx.rowG t m f x3 x5 (Go.Sx.passG t m f x3 x1.1)) (Int.toNat (↑x5 : Int)) (0 : Int)))
                  ((Go.Sx.inB (List.getD (List.getD t (Int.toNat (↑x3 : Int)) []) (Int.toNat (↑x5 : Int)) (0 : Int)) (List.length (Go.Sx.rowG t m f x3 x5 (Go.Sx.passG t m f x3 x1.1)))) ∧
                  (BrP (Decidable.decide ((0 : Int) ≤ List.getD (Go.Sx.rowG t m f x3 x5 (Go.Sx.passG t m f x3 x1.1)) (Int.toNat (List.getD (List.getD t (Int.toNat (↑x3 : Int)) []) (Int.toNat (↑x5 : Int)) (0 : Int))) (0 : Int)))
                    ((Go.Sx.inB (↑x5 : Int) (List.length (Go.Sx.rowG t m f x3 x5 (Go.Sx.passG t m f x3 x1.1)))) ∧
                    ((Go.Sx.inB (↑x3 : Int) (List.length f)) ∧
                    ((Go.Sx.inB (↑x5 : Int) (List.length (List.getD f (Int.toNat (↑x3 : Int)) []))) ∧
                    ((Go.Sx.InR (List.getD (Go.Sx.rowG t m f x3 x5 (Go.Sx.passG t m f x3 x1.1)) (Int.toNat (↑x5 : Int)) (0 : Int) + List.getD (List.getD f (Int.toNat (↑x3 : Int)) []) (Int.toNat (↑x5 : Int)) (0 : Int))) ∧
                    ((m ≠ (0 : Int)) ∧
                    ((Go.Sx.inB (List.getD (List.getD t (Int.toNat (↑x3 : Int)) []) (Int.toNat (↑x5 : Int)) (0 : Int)) (List.length (Go.Sx.rowG t m f x3 x5 (Go.Sx.passG t m f x3 x1.1)))) ∧
                    (BrP (Int.tmod (List.getD (Go.Sx.rowG t m f x3 x5 (Go.Sx.passG t m f x3 x1.1)) (Int.toNat (↑x5 : Int)) (0 : Int) + List.getD (List.getD f (Int.toNat (↑x3 : Int)) []) (Int.toNat (↑x5 : Int)) (0 : Int)) m != List.getD (Go.Sx.rowG t m f x3 x5 (Go.Sx.passG t m f x3 x1.1)) (Int.toNat (List.getD (List.getD t (Int.toNat (↑x3 : Int)) []) (Int.toNat (↑x5 : Int)) (0 : Int))) (0 : Int))
                      ((([] = Prod.fst (Go.Sx.lsC t m f g)) ∧
                      ((Bool.false = Prod.snd (Go.Sx.lsC t m f g)) ∧
                      (True))) ∧
                      (True))
                      ((Go.Sx.InR ((↑x5 : Int) + (1 : Int))) ∧
                      (∃ x8 : Nat, (((x8 ≤ List.length t) ∧
                      ((x3 < List.length t) ∧
                      (Go.Sx.rowK t m f x3 x8 (Go.Sx.passG t m f x3 x1.1) = Bool.true))) ∧
                      ((List.length t - x8 < List.length t - x5) ∧
                      ((t = t) ∧
                      ((m = m) ∧
                      ((f = f) ∧
                      ((Decidable.decide (Go.Sx.negs (Go.Sx.rowG t m f x3 x5 (Go.Sx.passG t m f x3 x1.1)) < Go.Sx.negs x1.1) = Decidable.decide (Go.Sx.negs (Go.Sx.rowG t m f x3 x8 (Go.Sx.passG t m f x3 x1.1)) < Go.Sx.negs x1.1)) ∧
                      (((↑x3 : Int) = (↑x3 : Int)) ∧
                      (((↑x5 : Int) + (1 : Int) = (↑x8 : Int)) ∧
                      (Go.Sx.rowG t m f x3 x5 (Go.Sx.passG t m f x3 x1.1) = Go.Sx.rowG t m f x3 x8 (Go.Sx.passG t m f x3 x1.1)))))))))))))))))))
                    ((Go.Sx.InR ((↑x5 : Int) + (1 : Int))) ∧
                    (∃ x9 : Nat, (((x9 ≤ List.length t) ∧
                    ((x3 < List.length t) ∧
                    (Go.Sx.rowK t m f x3 x9 (Go.Sx.passG t m f x3 x1.1) = Bool.true))) ∧
                    ((List.length t - x9 < List.length t - x5) ∧
                    ((t = t) ∧
                    ((m = m) ∧
                    ((f = f) ∧
                    ((Decidable.decide (Go.Sx.negs (Go.Sx.rowG t m f x3 x5 (Go.Sx.passG t m f x3 x1.1)) < Go.Sx.negs x1.1) = Decidable.decide (Go.Sx.negs (Go.Sx.rowG t m f x3 x9 (Go.Sx.passG t m f x3 x1.1)) < Go.Sx.negs x1.1)) ∧
                    (((↑x3 : Int) = (↑x3 : Int)) ∧
                    (((↑x5 : Int) + (1 : Int) = (↑x9 : Int)) ∧
                    (Go.Sx.rowG t m f x3 x5 (Go.Sx.passG t m f x3 x1.1) = Go.Sx.rowG t m f x3 x9 (Go.Sx.passG t m f x3 x1.1))))))))))))))
                  ((Go.Sx.InR ((↑x5 : Int) + (1 : Int))) ∧
                  (∃ x10 : Nat, (((x10 ≤ List.length t) ∧
                  ((x3 < List.length t) ∧
                  (Go.Sx.rowK t m f x3 x10 (Go.Sx.passG t m f x3 x1.1) = Bool.true))) ∧
                  ((List.length t - x10 < List.length t - x5) ∧
                  ((t = t) ∧
                  ((m = m) ∧
                  ((f = f) ∧
                  ((Decidable.decide (Go.Sx.negs (Go.Sx.rowG t m f x3 x5 (Go.Sx.passG t m f x3 x1.1)) < Go.Sx.negs x1.1) = Decidable.decide (Go.Sx.negs (Go.Sx.rowG t m f x3 x10 (Go.Sx.passG t m f x3 x1.1)) < Go.Sx.negs x1.1)) ∧
                  (((↑x3 : Int) = (↑x3 : Int)) ∧
                  (((↑x5 : Int) + (1 : Int) = (↑x10 : Int)) ∧
                  (Go.Sx.rowG t m f x3 x5 (Go.Sx.passG t m f x3 x1.1) = Go.Sx.rowG t m f x3 x10 (Go.Sx.passG t m f x3 x1.1))))))))))))))))
              ((Go.Sx.inB (↑x5 : Int) (List.length (Go.Sx.rowG t m f x3 x5 (Go.Sx.passG t m f x3 x1.1)))) ∧
              (BrP (Decidable.decide ((0 : Int) ≤ List.getD (Go.Sx.rowG t m f x3 x5 (Go.Sx.passG t m f x3 x1.1)) (Int.toNat (↑x5 : Int)) (0 : Int)))
                ((Go.Sx.inB (List.getD (List.getD t (Int.toNat (↑x3 : Int)) []) (Int.toNat (↑x5 : Int)) (0 : Int)) (List.length (Go.Sx.rowG t m f x3 x5 (Go.Sx.passG t m f x3 x1.1)))) ∧
                (BrP (Decidable.decide ((0 : Int) ≤ List.getD (Go.Sx.rowG t m f x3 x5 (Go.Sx.passG t m f x3 x1.1)) (Int.toNat (List.getD (List.getD t (Int.toNat (↑x3 : Int)) []) (Int.toNat (↑x5 : Int)) (0 : Int))) (0 : Int)))
                  ((Go.Sx.inB (↑x5 : Int) (List.length (Go.Sx.rowG t m f x3 x5 (Go.Sx.passG t m f x3 x1.1)))) ∧
                  ((Go.Sx.inB (↑x3 : Int) (List.length f)) ∧
                  ((Go.Sx.inB (↑x5 : Int) (List.length (List.getD f (Int.toNat (↑x3 : Int)) []))) ∧
                  ((Go.Sx.InR (List.getD (Go.Sx.rowG t m f x3 x5 (Go.Sx.passG t m f x3 x1.1)) (Int.toNat (↑x5 : Int)) (0 : Int) + List.getD (List.getD f (Int.toNat (↑x3 : Int)) []) (Int.toNat (↑x5 : Int)) (0 : Int))) ∧
                  ((m ≠ (0 : Int)) ∧
                  ((Go.Sx.inB (List.getD (List.getD t (Int.toNat (↑x3 : Int)) []) (Int.toNat (↑x5 : Int)) (0 : Int)) (List.length (Go.Sx.rowG t m f x3 x5 (Go.Sx.passG t m f x3 x1.1)))) ∧
                  (BrP (Int.tmod (List.getD (Go.Sx.rowG t m f x3 x5 (Go.Sx.passG t m f x3 x1.1)) (Int.toNat (↑x5 : Int)) (0 : Int) + List.getD (List.getD f (Int.toNat (↑x3 : Int)) []) (Int.toNat (↑x5 : Int)) (0 : Int)) m != List.getD (Go.Sx.rowG t m f x3 x5 (Go.Sx.passG t m f x3 x1.1)) (Int.toNat (List.getD (List.getD t (Int.toNat (↑x3 : Int)) []) (Int.toNat (↑x5 : Int)) (0 : Int))) (0 : Int))
                    ((([] = Prod.fst (Go.Sx.lsC t m f g)) ∧
                    ((Bool.false = Prod.snd (Go.Sx.lsC t m f g)) ∧
                    (True))) ∧
                    (True))
                    ((Go.Sx.InR ((↑x5 : Int) + (1 : Int))) ∧
                    (∃ x11 : Nat, (((x11 ≤ List.length t) ∧
                    ((x3 < List.length t) ∧
                    (Go.Sx.rowK t m f x3 x11 (Go.Sx.passG t m f x3 x1.1) = Bool.true))) ∧
                    ((List.length t - x11 < List.length t - x5) ∧
                    ((t = t) ∧
                    ((m = m) ∧
                    ((f = f) ∧
                    ((Decidable.decide (Go.Sx.negs (Go.Sx.rowG t m f x3 x5 (Go.Sx.passG t m f x3 x1.1)) < Go.Sx.negs x1.1) = Decidable.decide (Go.Sx.negs (Go.Sx.rowG t m f x3 x11 (Go.Sx.passG t m f x3 x1.1)) < Go.Sx.negs x1.1)) ∧
                    (((↑x3 : Int) = (↑x3 : Int)) ∧
                    (((↑x5 : Int) + (1 : Int) = (↑x11 : Int)) ∧
                    (Go.Sx.rowG t m f x3 x5 (Go.Sx.passG t m f x3 x1.1) = Go.Sx.rowG t m f x3 x11 (Go.Sx.passG t m f x3 x1.1)))))))))))))))))))
                  ((Go.Sx.InR ((↑x5 : Int) + (1 : Int))) ∧
                  (∃ x12 : Nat, (((x12 ≤ List.length t) ∧
                  ((x3 < List.length t) ∧
                  (Go.Sx.rowK t m f x3 x12 (Go.Sx.passG t m f x3 x1.1) = Bool.true))) ∧
                  ((List.length t - x12 < List.length t - x5) ∧
                  ((t = t) ∧
                  ((m = m) ∧
                  ((f = f) ∧
                  ((Decidable.decide (Go.Sx.negs (Go.Sx.rowG t m f x3 x5 (Go.Sx.passG t m f x3 x1.1)) < Go.Sx.negs x1.1) = Decidable.decide (Go.Sx.negs (Go.Sx.rowG t m f x3 x12 (Go.Sx.passG t m f x3 x1.1)) < Go.Sx.negs x1.1)) ∧
                  (((↑x3 : Int) = (↑x3 : Int)) ∧
                  (((↑x5 : Int) + (1 : Int) = (↑x12 : Int)) ∧
                  (Go.Sx.rowG t m f x3 x5 (Go.Sx.passG t m f x3 x1.1) = Go.Sx.rowG t m f x3 x12 (Go.Sx.passG t m f x3 x1.1))))))))))))))
                ((Go.Sx.InR ((↑x5 : Int) + (1 : Int))) ∧
                (∃ x13 : Nat, (((x13 ≤ List.length t) ∧
                ((x3 < List.length t) ∧
                (Go.Sx.rowK t m f x3 x13 (Go.Sx.passG t m f x3 x1.1) = Bool.true))) ∧
                ((List.length t - x13 < List.length t - x5) ∧
                ((t = t) ∧
                ((m = m) ∧
                ((f = f) ∧
                ((Decidable.decide (Go.Sx.negs (Go.Sx.rowG t m f x3 x5 (Go.Sx.passG t m f x3 x1.1)) < Go.Sx.negs x1.1) = Decidable.decide (Go.Sx.negs (Go.Sx.rowG t m f x3 x13 (Go.Sx.passG t m f x3 x1.1)) < Go.Sx.negs x1.1)) ∧
                (((↑x3 : Int) = (↑x3 : Int)) ∧
                (((↑x5 : Int) + (1 : Int) = (↑x13 : Int)) ∧
                (Go.Sx.rowG t m f x3 x5 (Go.Sx.passG t m f x3 x1.1) = Go.Sx.rowG t m f x3 x13 (Go.Sx.passG t m f x3 x1.1))))))))))))))))))
          ((Go.Sx.inB (↑x5 : Int) (List.length (Go.Sx.rowG t m f x3 x5 (Go.Sx.passG t m f x3 x1.1)))) ∧
          (BrP (Decidable.decide (List.getD (Go.Sx.rowG t m f x3 x5 (Go.Sx.passG t m f x3 x1.1)) (Int.toNat (↑x5 : Int)) (0 : Int) < (0 : Int)))
            ((Go.Sx.inB (List.getD (List.getD t (Int.toNat (↑x3 : Int)) []) (Int.toNat (↑x5 : Int)) (0 : Int)) (List.length (Go.Sx.rowG t m f x3 x5 (Go.Sx.passG t m f x3 x1.1)))) ∧
            (BrP (Decidable.decide ((0 : Int) ≤ List.getD (Go.Sx.rowG t m f x3 x5 (Go.Sx.passG t m f x3 x1.1)) (Int.toNat (List.getD (List.getD t (Int.toNat (↑x3 : Int)) []) (Int.toNat (↑x5 : Int)) (0 : Int))) (0 : Int)))
              ((Go.Sx.inB (List.getD (List.getD t (Int.toNat (↑x3 : Int)) []) (Int.toNat (↑x5 : Int)) (0 : Int)) (List.length (Go.Sx.rowG t m f x3 x5 (Go.Sx.passG t m f x3 x1.1)))) ∧
              ((Go.Sx.inB (↑x3 : Int) (List.length f)) ∧
              ((Go.Sx.inB (↑x5 : Int) (List.length (List.getD f (Int.toNat (↑x3 : Int)) []))) ∧
              ((Go.Sx.InR (List.getD (Go.Sx.rowG t m f x3 x5 (Go.Sx.passG t m f x3 x1.1)) (Int.toNat (List.getD (List.getD t (Int.toNat (↑x3 : Int)) []) (Int.toNat (↑x5 : Int)) (0 : Int))) (0 : Int) - List.getD (List.getD f (Int.toNat (↑x3 : Int)) []) (Int.toNat (↑x5 : Int)) (0 : Int))) ∧
              ((Go.Sx.InR (List.getD (Go.Sx.rowG t m f x3 x5 (Go.Sx.passG t m f x3 x1.1)) (Int.toNat (List.getD (List.getD t (Int.toNat (↑x3 : Int)) []) (Int.toNat (↑x5 : Int)) (0 : Int))) (0 : Int) - List.getD (List.getD f (Int.toNat (↑x3 : Int)) []) (Int.toNat (↑x5 : Int)) (0 : Int) + m)) ∧
              ((m ≠ (0 : Int)) ∧
              ((Go.Sx.inB (↑x5 : Int) (List.length (Go.Sx.rowG t m f x3 x5 (Go.Sx.passG t m f x3 x1.1)))) ∧
              ((Go.Sx.InR ((↑x5 : Int) + (1 : Int))) ∧
              (∃ x14 : Nat, (((x14 ≤ List.length t) ∧
              ((x3 < List.length t) ∧
              (Go.Sx.rowK t m f x3 x14 (Go.Sx.passG t m f x3 x1.1) = Bool.true))) ∧
              ((List.length t - x14 < List.length t - x5) ∧
              ((t = t) ∧
              ((m = m) ∧
              ((f = f) ∧
              ((Bool.true = Decidable.decide (Go.Sx.negs (Go.Sx.rowG t m f x3 x14 (Go.Sx.passG t m f x3 x1.1)) < Go.Sx.negs x1.1)) ∧
              (((↑x3 : Int) = (↑x3 : Int)) ∧
              (((↑x5 : Int) + (1 : Int) = (↑x14 : Int)) ∧
              (List.set (Go.Sx.rowG t m f x3 x5 (Go.Sx.passG t m f x3 x1.1)) (Int.toNat (↑x5 : Int)) (Int.tmod (List.getD (Go.Sx.rowG t m f x3 x5 (Go.Sx.passG t m f x3 x1.1)) (Int.toNat (List.getD (List.getD t (Int.toNat (↑x3 : Int)) []) (Int.toNat (↑x5 : Int)) (0 : Int))) (0 : Int) - List.getD (List.getD f (Int.toNat (↑x3 : Int)) []) (Int.toNat (↑x5 : Int)) (0 : Int) + m) m) = Go.Sx.rowG t m f x3 x14 (Go.Sx.passG t m f x3 x1.1)))))))))))))))))))
              ((Go.Sx.inB (↑x5 : Int) (List.length (Go.Sx.rowG t m f x3 x5 (Go.Sx.passG t m f x3 x1.1)))) ∧
              (BrP (Decidable.decide ((0 : Int) ≤ List.getD (Go.Sx.rowG t m f x3 x5 (Go.Sx.passG t m f x3 x1.1)) (Int.toNat (↑x5 : Int)) (0 : Int)))
                ((Go.Sx.inB (List.getD (List.getD t (Int.toNat (↑x3 : Int)) []) (Int.toNat (↑x5 : Int)) (0 : Int)) (List.length (Go.Sx.rowG t m f x3 x5 (Go.Sx.passG t m f x3 x1.1)))) ∧
                (BrP (Decidable.decide ((0 : Int) ≤ List.getD (Go.Sx.rowG t m f x3 x5 (Go.Sx.passG t m f x3 x1.1)) (Int.toNat (List.getD (List.getD t (Int.toNat (↑x3 : Int)) []) (Int.toNat (↑x5 : Int)) (0 : Int))) (0 : Int)))
                  ((Go.Sx.inB (↑x5 : Int) (List.length (Go.Sx.rowG t m f x3 x5 (Go.Sx.passG t m f x3 x1.1)))) ∧
                  ((Go.Sx.inB (↑x3 : Int) (List.length f)) ∧
                  ((Go.Sx.inB (↑x5 : Int) (List.length (List.getD f (Int.toNat (↑x3 : Int)) []))) ∧
                  ((Go.Sx.InR (List.getD (Go.Sx.rowG t m f x3 x5 (Go.Sx.passG t m f x3 x1.1)) (Int.toNat (↑x5 : Int)) (0 : Int) + List.getD (List.getD f (Int.toNat (↑x3 : Int)) []) (Int.toNat (↑x5 : Int)) (0 : Int))) ∧
                  ((m ≠ (0 : Int)) ∧
                  ((Go.Sx.inB (List.getD (List.getD t (Int.toNat (↑x3 : Int)) []) (Int.toNat (↑x5 : Int)) (0 : Int)) (List.length (Go.Sx.rowG t m f x3 x5 (Go.Sx.passG t m f x3 x1.1)))) ∧
                  (BrP (Int.tmod (List.getD (Go.Sx.rowG t m f x3 x5 (Go.Sx.passG t m f x3 x1.1)) (Int.toNat (↑x5 : Int)) (0 : Int) + List.getD (List.getD f (Int.toNat (↑x3 : Int)) []) (Int.toNat (↑x5 : Int)) (0 : Int)) m != List.getD (Go.Sx.rowG t m f x3 x5 (Go.Sx.passG t m f x3 x1.1)) (Int.toNat (List.getD (List.getD t (Int.toNat (↑x3 : Int)) []) (Int.toNat (↑x5 : Int)) (0 : Int))) (0 : Int))
                    ((([] = Prod.fst (Go.Sx.lsC t m f g)) ∧
                    ((Bool.false = Prod.snd (Go.Sx.lsC t m f g)) ∧
                    (True))) ∧
                    (True))
                    ((Go.Sx.InR ((↑x5 : Int) + (1 : Int))) ∧
                    (∃ x15 : Nat, (((x15 ≤ List.length t) ∧
                    ((x3 < List.length t) ∧
                    (Go.Sx.rowK t m f x3 x15 (Go.Sx.passG t m f x3 x1.1) = Bool.true))) ∧
                    ((List.length t - x15 < List.length t - x5) ∧
                    ((t = t) ∧
                    ((m = m) ∧
                    ((f = f) ∧
                    ((Decidable.decide (Go.Sx.negs (Go.Sx.rowG t m f x3 x5 (Go.Sx.passG t m f x3 x1.1)) < Go.Sx.negs x1.1) = Decidable.decide (Go.Sx.negs (Go.Sx.rowG t m f x3 x15 (Go.Sx.passG t m f x3 x1.1)) < Go.Sx.negs x1.1)) ∧
                    (((↑x3 : Int) = (↑x3 : Int)) ∧
                    (((↑x5 : Int) + (1 : Int) = (↑x15 : Int)) ∧
                    (Go.Sx.rowG t m f x3 x5 (Go.Sx.passG t m f x3 x1.1) = Go.Sx.rowG t m f x3 x15 (Go.Sx.passG t m f x3 x1.1)))))))))))))))))))
                  ((Go.Sx.InR ((↑x5 : Int) + (1 : Int))) ∧
                  (∃ x16 : Nat, (((x16 ≤ List.length t) ∧
                  ((x3 < List.length t) ∧
                  (Go.Sx.rowK t m f x3 x16 (Go.Sx.passG t m f x3 x1.1) = Bool.true))) ∧
                  ((List.length t - x16 < List.length t - x5) ∧
                  ((t = t) ∧
                  ((m = m) ∧
                  ((f = f) ∧
                  ((Decidable.decide (Go.Sx.negs (Go.Sx.rowG t m f x3 x5 (Go.Sx.passG t m f x3 x1.1)) < Go.Sx.negs x1.1) = Decidable.decide (Go.Sx.negs (Go.Sx.rowG t m f x3 x16 (Go.Sx.passG t m f x3 x1.1)) < Go.Sx.negs x1.1)) ∧
                  (((↑x3 : Int) = (↑x3 : Int)) ∧
                  (((↑x5 : Int) + (1 : Int) = (↑x16 : Int)) ∧
                  (Go.Sx.rowG t m f x3 x5 (Go.Sx.passG t m f x3 x1.1) = Go.Sx.rowG t m f x3 x16 (Go.Sx.passG t m f x3 x1.1))))))))))))))
                ((Go.Sx.InR ((↑x5 : Int) + (1 : Int))) ∧
                (∃ x17 : Nat, (((x17 ≤ List.length t) ∧
                ((x3 < List.length t) ∧
                (Go.Sx.rowK t m f x3 x17 (Go.Sx.passG t m f x3 x1.1) = Bool.true))) ∧
                ((List.length t - x17 < List.length t - x5) ∧
                ((t = t) ∧
                ((m = m) ∧
                ((f = f) ∧
                ((Decidable.decide (Go.Sx.negs (Go.Sx.rowG t m f x3 x5 (Go.Sx.passG t m f x3 x1.1)) < Go.Sx.negs x1.1) = Decidable.decide (Go.Sx.negs (Go.Sx.rowG t m f x3 x17 (Go.Sx.passG t m f x3 x1.1)) < Go.Sx.negs x1.1)) ∧
                (((↑x3 : Int) = (↑x3 : Int)) ∧
                (((↑x5 : Int) + (1 : Int) = (↑x17 : Int)) ∧
                (Go.Sx.rowG t m f x3 x5 (Go.Sx.passG t m f x3 x1.1) = Go.Sx.rowG t m f x3 x17 (Go.Sx.passG t m f x3 x1.1))))))))))))))))
            ((Go.Sx.inB (↑x5 : Int) (List.length (Go.Sx.rowG t m f x3 x5 (Go.Sx.passG t m f x3 x1.1)))) ∧
            (BrP (Decidable.decide ((0 : Int) ≤ List.getD (Go.Sx.rowG t m f x3 x5 (Go.Sx.passG t m f x3 x1.1)) (Int.toNat (↑x5 : Int)) (0 : Int)))
              ((Go.Sx.inB (List.getD (List.getD t (Int.toNat (↑x3 : Int)) []) (Int.toNat (↑x5 : Int)) (0 : Int)) (List.length (Go.Sx.rowG t m f x3 x5 (Go.Sx.passG t m f x3 x1.1)))) ∧
              (BrP (Decidable.decide ((0 : Int) ≤ List.getD (Go.Sx.rowG t m f x3 x5 (Go.Sx.passG t m f x3 x1.1)) (Int.toNat (List.getD (List.getD t (Int.toNat (↑x3 : Int)) []) (Int.toNat (↑x5 : Int)) (0 : Int))) (0 : Int)))
                ((Go.Sx.inB (↑x5 : Int) (List.length (Go.Sx.rowG t m f x3 x5 (Go.Sx.passG t m f x3 x1.1)))) ∧
                ((Go.Sx.inB (↑x3 : Int) (List.length f)) ∧
                ((Go.Sx.inB (↑x5 : Int) (List.length (List.getD f (Int.toNat (↑x3 : Int)) []))) ∧
                ((Go.Sx.InR (List.getD (Go.Sx.rowG t m f x3 x5 (Go.Sx.passG t m f x3 x1.1)) (Int.toNat (↑x5 : Int)) (0 : Int) + List.getD (List.getD f (Int.toNat (↑x3 : Int)) []) (Int.toNat (↑x5 : Int)) (0 : Int))) ∧
                ((m ≠ (0 : Int)) ∧
                ((Go.Sx.inB (List.getD (List.getD t (Int.toNat (↑x3 : Int)) []) (Int.toNat (↑x5 : Int)) (0 : Int)) (List.length (Go.Sx.rowG t m f x3 x5 (Go.Sx.passG t m f x3 x1.1)))) ∧
                (BrP (Int.tmod (List.getD (Go.Sx.rowG t m f x3 x5 (Go.Sx.passG t m f x3 x1.1)) (Int.toNat (↑x5 : Int)) (0 : Int) + List.getD (List.getD f (Int.toNat (↑x3 : Int)) []) (Int.toNat (↑x5 : Int)) (0 : Int)) m != List.getD (Go.Sx.rowG t m f x3 x5 (Go.Sx.passG t m f x3 x1.1)) (Int.toNat (List.getD (List.getD t (Int.toNat (↑x3 : Int)) []) (Int.toNat (↑x5 : Int)) (0 : Int))) (0 : Int))
                  ((([] = Prod.fst (Go.Sx.lsC t m f g)) ∧
                  ((Bool.false = Prod.snd (Go.Sx.lsC t m f g)) ∧
                  (True))) ∧
                  (True))
                  ((Go.Sx.InR ((↑x5 : Int) + (1 : Int))) ∧
                  (∃ x18 : Nat, (((x18 ≤ List.length t) ∧
                  ((x3 < List.length t) ∧
                  (Go.Sx.rowK t m f x3 x18 (Go.Sx.passG t m f x3 x1.1) = Bool.true))) ∧
                  ((List.length t - x18 < List.length t - x5) ∧
                  ((t = t) ∧
                  ((m = m) ∧
                  ((f = f) ∧
                  ((Decidable.decide (Go.Sx.negs (Go.Sx.rowG t m f x3 x5 (Go.Sx.passG t m f x3 x1.1)) < Go.Sx.negs x1.1) = Decidable.decide (Go.Sx.negs (Go.Sx.rowG t m f x3 x18 (Go.Sx.passG t m f x3 x1.1)) < Go.Sx.negs x1.1)) ∧
                  (((↑x3 : Int) = (↑x3 : Int)) ∧
                  (((↑x5 : Int) + (1 : Int) = (↑x18 : Int)) ∧
                  (Go.Sx.rowG t m f x3 x5 (Go.Sx.passG t m f x3 x1.1) = Go.Sx.rowG t m f x3 x18 (Go.Sx.passG t m f x3 x1.1)))))))))))))))))))
                ((Go.Sx.InR ((↑x5 : Int) + (1 : Int))) ∧
                (∃ x19 : Nat, (((x19 ≤ List.length t) ∧
                ((x3 < List.length t) ∧
                (Go.Sx.rowK t m f x3 x19 (Go.Sx.passG t m f x3 x1.1) = Bool.true))) ∧
                ((List.length t - x19 < List.length t - x5) ∧
                ((t = t) ∧
                ((m = m) ∧
                ((f = f) ∧
                ((Decidable.decide (Go.Sx.negs (Go.Sx.rowG t m f x3 x5 (Go.Sx.passG t m f x3 x1.1)) < Go.Sx.negs x1.1) = Decidable.decide (Go.Sx.negs (Go.Sx.rowG t m f x3 x19 (Go.Sx.passG t m f x3 x1.1)) < Go.Sx.negs x1.1)) ∧
                (((↑x3 : Int) = (↑x3 : Int)) ∧
                (((↑x5 : Int) + (1 : Int) = (↑x19 : Int)) ∧
                (Go.Sx.rowG t m f x3 x5 (Go.Sx.passG t m f x3 x1.1) = Go.Sx.rowG t m f x3 x19 (Go.Sx.passG t m f x3 x1.1))))))))))))))
              ((Go.Sx.InR ((↑x5 : Int) + (1 : Int))) ∧
              (∃ x20 : Nat, (((x20 ≤ List.length t) ∧
              ((x3 < List.length t) ∧
              (Go.Sx.rowK t m f x3 x20 (Go.Sx.passG t m f x3 x1.1) = Bool.true))) ∧
              ((List.length t - x20 < List.length t - x5) ∧
              ((t = t) ∧
              ((m = m) ∧
              ((f = f) ∧
              ((Decidable.decide (Go.Sx.negs (Go.Sx.rowG t m f x3 x5 (Go.Sx.passG t m f x3 x1.1)) < Go.Sx.negs x1.1) = Decidable.decide (Go.Sx.negs (Go.Sx.rowG t m f x3 x20 (Go.Sx.passG t m f x3 x1.1)) < Go.Sx.negs x1.1)) ∧
              (((↑x3 : Int) = (↑x3 : Int)) ∧
              (((↑x5 : Int) + (1 : Int) = (↑x20 : Int)) ∧
              (Go.Sx.rowG t m f x3 x5 (Go.Sx.passG t m f x3 x1.1) = Go.Sx.rowG t m f x3 x20 (Go.Sx.passG t m f x3 x1.1))))))))))))))))))))
        ((Go.Sx.InR ((↑x3 : Int) + (1 : Int))) ∧
        (∃ x21 : Nat, (((x21 ≤ List.length t) ∧
        ((x1.2 = Bool.true) ∧
        (Go.Sx.passK t m f x21 x1.1 = Bool.true))) ∧
        ((List.length t - x21 < List.length t - x3) ∧
        ((t = t) ∧
        ((m = m) ∧
        ((f = f) ∧
        ((Decidable.decide (Go.Sx.negs (Go.Sx.rowG t m f x3 x5 (Go.Sx.passG t m f x3 x1.1)) < Go.Sx.negs x1.1) = Decidable.decide (Go.Sx.negs (Go.Sx.passG t m f x21 x1.1) < Go.Sx.negs x1.1)) ∧
        (((↑x3 : Int) + (1 : Int) = (↑x21 : Int)) ∧
        (Go.Sx.rowG t m f x3 x5 (Go.Sx.passG t m f x3 x1.1) = Go.Sx.passG t m f x21 x1.1))))))))))))))
      (∃ x22 : List Int × Bool, (((Go.Sx.Good t m f (Prod.fst x22)) ∧
      ((Go.Sx.growF t m f g = Go.Sx.growF t m f (Prod.fst x22)) ∧
      ((Go.Sx.growKF t m f g = Go.Sx.growKF t m f (Prod.fst x22)) ∧
      (Prod.snd x22 = Bool.false → Go.Sx.growF t m f (Prod.fst x22) = Prod.fst x22 ∧ Go.Sx.growKF t m f (Prod.fst x22) = Bool.true)))) ∧
      ((((2 : Nat) * Go.Sx.negs (Prod.fst x22) + bif Prod.snd x22 then (1 : Nat) else (0 : Nat)) < (2 : Nat) * Go.Sx.negs (Prod.fst x1) + bif Prod.snd x1 then (1 : Nat) else (0 : Nat)) ∧
      ((t = t) ∧
      ((m = m) ∧
      ((f = f) ∧
      ((Decidable.decide (Go.Sx.negs (Go.Sx.passG t m f x3 x1.1) < Go.Sx.negs x1.1) = x22.2) ∧
      (Go.Sx.passG t m f x3 x1.1 = x22.1))))))))))))
    (((x1.1 = Prod.fst (Go.Sx.lsC t m f g)) ∧
    ((Bool.true = Prod.snd (Go.Sx.lsC t m f g)) ∧
    (True))) ∧
    (True)))))))
theorem l14Source_vc (t : List (List Int)) (m : Int) (f : List (List Int)) (g : List Int) : runF Try.prog (gam l14Source_G) noWr (l14Source_ann t m f g) Try.f54 (bodyOf Try.f54) [] [.c (.rows .i64 (t)), .c (.int .i64 (m)), .c (.rows .i64 (f)), .c (.ints .i64 (g))] (l14Source_p t m f g) = l14Source_V t m f g := by kernel_rfl
theorem l14Source_ok (t : List (List Int)) (m : Int) (f : List (List Int)) (g : List Int) (hpre : (l14Source_p t m f g).pre) : l14Source_V t m f g := by
  simp only [l14Source_p, l14Source_V, BrP_iff, true_and, and_true, decide_eq_true_eq, decide_eq_false_iff_not, bne_iff_ne, beq_iff_eq, bne_eq_false_iff_eq, beq_eq_false_iff_ne, Bool.not_eq_true, Bool.not_eq_false, Bool.not_true, Bool.not_false, Bool.not_eq_eq_eq_not, Int.toNat_natCast, List.length_append, List.length_take, List.length_replicate, List.length_set, List.length_map, List.length_drop, List.length_nil, List.length_cons, markL_length, inB, InR, room, bdsOk] at hpre ⊢
  have h1 := hpre.tab
  have h2 := hpre.mat
  obtain ⟨n1, n2, ht⟩ := tabB_of h1
  obtain ⟨m1, m2, m3, hf⟩ := matB_of h2
  have gl0 := hpre.len
  refine ⟨?_, ⟨(g, true), ⟨hpre, rfl, rfl, fun h => by cases h⟩, rfl, rfl⟩, fun x ⟨hx2, hx3, hx5, hx4⟩ => ⟨fun h5 => ?_, fun h5 => ?_⟩⟩
  · omega
  · obtain ⟨g', gr⟩ := x
    dsimp only at hx2 hx3 hx4 hx5 h5 ⊢
    refine ⟨⟨0, ⟨by omega, h5, rfl⟩, by simp [passG], rfl, rfl⟩, fun i ⟨hi, _, hik⟩ => ⟨fun h6 => ?_, fun h6 => ?_⟩⟩
    · refine ⟨⟨0, ⟨by omega, by omega, rfl⟩, rfl, rfl, rfl⟩, fun j ⟨hj, _, hjk⟩ => ⟨fun h7 => ?_, fun h7 => ?_⟩⟩
      · have hP := passG_good hx2 i (by omega)
        have hR := rowG_good hP.1 i (by omega) j (by omega)
        have hL := hP.2.trans hR.2
        have st := rowG_step t m f i j (passG t m f i g')
        have sk := rowK_step t m f i j (passG t m f i g')
        have bad : lkB t m f (rowG t m f i j (passG t m f i g')) i j = true → growKF t m f g = false := fun h => by
          rw [hx5]; exact growKF_bad hx2 (passK_bad (by omega) (rowK_bad (by omega) h))
        generalize rowG t m f i j (passG t m f i g') = G at hR hL st sk bad ⊢
        have hG := hR.1
        have gl := hG.len
        have tr := ht i (by omega)
        have tv := tr.2 j (by omega)
        have fr := hf i (by omega)
        have fv := fr.2 j (by omega)
        have vy := hG.val j (by omega)
        have vz := hG.val ((t.getD i []).getD j 0).toNat (by omega)
        have ee : en t i j = (t.getD i []).getD j 0 := rfl
        have ef : en f i j = (f.getD i []).getD j 0 := rfl
        have keep : sg t m f G i j = G → lkB t m f G i j = false → ∃ x8, (x8 ≤ t.length ∧ i < t.length ∧ rowK t m f i x8 (passG t m f i g') = true) ∧ t.length - x8 < t.length - j ∧ decide (negs G < negs g') = decide (negs (rowG t m f i x8 (passG t m f i g')) < negs g') ∧ (j : Int) + 1 = (x8 : Int) ∧ G = rowG t m f i x8 (passG t m f i g') := fun h k => ⟨j + 1, ⟨by omega, by omega, by rw [sk, hjk, k]; rfl⟩, by omega, by rw [st, h], by omega, by rw [st, h]⟩
        have grow : ∀ W, sg t m f G i j = W → lkB t m f G i j = false → negs W + 1 = negs G → ∃ x6, (x6 ≤ t.length ∧ i < t.length ∧ rowK t m f i x6 (passG t m f i g') = true) ∧ t.length - x6 < t.length - j ∧ true = decide (negs (rowG t m f i x6 (passG t m f i g')) < negs g') ∧ (j : Int) + 1 = (x6 : Int) ∧ W = rowG t m f i x6 (passG t m f i g') := fun W h k n => ⟨j + 1, ⟨by omega, by omega, by rw [sk, hjk, k]; rfl⟩, by omega, by
          rw [st, h]
          rcases hL with rfl | hL
          · exact (decide_eq_true (by omega)).symm
          · exact (decide_eq_true (by omega)).symm, by omega, by rw [st, h]⟩
        refine ⟨by omega, by omega, by omega, ?_⟩
        by_cases hy : 0 ≤ G.getD j 0
        · have ny : ¬ G.getD j 0 < 0 := by omega
          by_cases hz : 0 ≤ G.getD ((t.getD i []).getD j 0).toNat 0
          · have nz : ¬ G.getD ((t.getD i []).getD j 0).toNat 0 < 0 := by omega
            simp only [hy, hz, ny, nz, not_true_eq_false, not_false_eq_true, forall_const, false_implies, and_true, true_and]
            have e : sg t m f G i j = G := by simp only [sg, ee, ef]; rw [if_neg (by omega), if_neg (by omega)]
            refine ⟨by omega, by omega, by omega, by omega, by omega, by omega, by omega, by omega, by omega, by omega, fun hb => lsC_no (bad ?_), fun hb => ⟨by omega, keep e ?_⟩⟩
            · simp only [lkB, ee, ef]; exact decide_eq_true ⟨hy, hz, hb⟩
            · simp only [lkB, ee, ef]; exact decide_eq_false fun h => h.2.2 hb
          · have nz : G.getD ((t.getD i []).getD j 0).toNat 0 < 0 := by omega
            simp only [hy, hz, ny, nz, not_true_eq_false, not_false_eq_true, forall_const, false_implies, and_true, true_and]
            refine ⟨by omega, by omega, by omega, by omega, by omega, by omega, by omega, by omega, grow _ ?_ ?_ ?_⟩
            · simp only [sg, ee, ef]; rw [if_pos ⟨hy, nz⟩]
            · simp only [lkB, ee, ef]; exact decide_eq_false fun h => hz h.2.1
            · exact negs_set (by omega) nz (tmod_in (by omega) m1).1
        · have ny : G.getD j 0 < 0 := by omega
          by_cases hz : 0 ≤ G.getD ((t.getD i []).getD j 0).toNat 0
          · have nz : ¬ G.getD ((t.getD i []).getD j 0).toNat 0 < 0 := by omega
            simp only [hy, hz, ny, nz, not_true_eq_false, not_false_eq_true, forall_const, false_implies, and_true, true_and]
            refine ⟨by omega, by omega, by omega, by omega, by omega, by omega, by omega, by omega, by omega, by omega, grow _ ?_ ?_ ?_⟩
            · simp only [sg, ee, ef]; rw [if_neg (by omega), if_pos ⟨hz, ny⟩]
            · simp only [lkB, ee, ef]; exact decide_eq_false fun h => hy h.1
            · exact negs_set (by omega) ny (tmod_in (by omega) m1).1
          · have nz : G.getD ((t.getD i []).getD j 0).toNat 0 < 0 := by omega
            simp only [hy, hz, ny, nz, not_true_eq_false, not_false_eq_true, forall_const, false_implies, and_true, true_and]
            have e : sg t m f G i j = G := by simp only [sg, ee, ef]; rw [if_neg (by omega), if_neg (by omega)]
            refine ⟨by omega, by omega, by omega, by omega, keep e ?_⟩
            simp only [lkB, ee, ef]; exact decide_eq_false fun h => hy h.1
      · exact ⟨by omega, i + 1, ⟨by omega, h5, by rw [passK_step, hik, show t.length = j by omega, hjk]; rfl⟩, by omega, by rw [passG_step, show j = t.length by omega], by omega, by rw [passG_step, show j = t.length by omega]⟩
    · obtain ⟨p1, p2, p3, p4⟩ := pass_next hx2
      have ei : i = t.length := by omega
      rw [ei] at hik
      obtain ⟨q1, q2⟩ := passK_next hx2 hik
      subst h5
      rw [ei]
      exact ⟨(passG t m f t.length g', decide (negs (passG t m f t.length g') < negs g')), ⟨p1, by rw [hx3, p2], by rw [hx5, q1], fun h => ⟨p3 h, q2 h⟩⟩, by simpa using p4, rfl, rfl⟩
  · obtain ⟨g', gr⟩ := x
    dsimp only at hx2 hx3 hx4 hx5 h5 ⊢
    obtain ⟨a, b⟩ := hx4 (by simpa using h5)
    exact lsC_yes (by rw [hx5, b]) (by rw [hx3, a])
theorem l14Source_fits : Fits Try.prog 54 ⟨[], l14Source_ct⟩ := by
  refine fits_fn (Γ := gam l14Source_G) (gok_cons l01Own_fits gok_nil) Try.func54 (by kernel_rfl) (by kernel_rfl) (by kernel_rfl) fun ds p h hp => ?_
  unfold l14Source_ct at h
  split at h
  · cases h
    exact ⟨noWr, l14Source_ann _ _ _ _ , by rw [l14Source_vc]; exact l14Source_ok _ _ _ _  hp⟩
  · cases h

end Go.Sx

