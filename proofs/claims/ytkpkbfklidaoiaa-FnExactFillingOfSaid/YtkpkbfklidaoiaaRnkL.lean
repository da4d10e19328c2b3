/- Contracts on the way of BoundaryRank, RackBetti and QuandleBetti. -/
import Derived.Test.YtkpkbfklidaoiaaRnkC
import Derived.Test.YtkpkbfklidaoiaaLists
open Go Go.Proofs
namespace Go.Sx
set_option linter.unusedSimpArgs false
set_option linter.unusedVariables false

theorem spN_len (p : Int) (R : List (List Int)) : ∀ i, (spN p R i).1.length ≤ i
  | 0 => Nat.le_refl _
  | i + 1 => by
    have := spN_len p R i
    simp only [spN]
    split
    · simp; omega
    · omega

def l15Rank_p (R : List (List Int)) (p : Int) : Post := ⟨primeB p = true ∧ (∃ N, rwsP p N R ∧ 1 ≤ N ∧ N ≤ 512) ∧ R.length ≤ 512, .c (.int .i64 (((spN p R R.length).1.length : Nat))), []⟩
def l15Rank_ct : List AD → Option Post
  | [.c (.rows .i64 (R)), .c (.int .i64 (p))] => some (l15Rank_p R p)
  | _ => none
def l15Rank_ann (R : List (List Int)) (p : Int) : Nat → Option Ann
  | 0 => some (Ann.mk ((Nat)) (fun i => ⟨[(0, .c (.ro (.rows .i64 (R)))), (1, .c (.int .i64 (p))), (5, .c (.own (100))), (6, .c (.own (102))), (7, .c (.int .i64 ((i : Int))))], [(100, some (.rows 0 22 2 .i64 ((spN p R i).1))), (102, some (.ints 2 .i64 ((spN p R i).2)))]⟩) (fun i => i ≤ R.length) (fun i => R.length - i) (fun i => fun b_ => match b_ with | 2 => some (Ann.mk ((Nat)) (fun k => ⟨[(0, .c (.ro (.rows .i64 (R)))), (1, .c (.int .i64 (p))), (5, .c (.own (100))), (6, .c (.own (102))), (7, .c (.int .i64 ((i : Int)))), (8, .c (.own (101))), (9, .c (.int .i64 ((k : Int))))], [(100, some (.rows 0 22 2 .i64 ((spN p R i).1))), (102, some (.ints 2 .i64 ((spN p R i).2))), (101, some (.ints 2 .i64 (redN p (spN p R i).1 (pvN (spN p R i).2) (R.getD i []) k)))]⟩) (fun k => k ≤ (spN p R i).1.length ∧ i < R.length) (fun k => (spN p R i).1.length - k) (fun _ => noAnn)) | _ => none))
  | _ => none
def l15Rank_G : List (Nat × Ctr) := [(57, ⟨[], l01Own_ct⟩), (54, ⟨[], l15Less_ct⟩), (55, ⟨[], l15First_ct⟩), (56, ⟨[], l15Inverse_ct⟩)]
def l15Rank_V (R : List (List Int)) (p : Int) : Prop :=
  ((∃ x0 : Nat, ((x0 ≤ List.length R) ∧
  ((R = R) ∧
  ((p = p) ∧
  (((0 : Int) = (↑x0 : Int)) ∧
  (([] = Prod.fst (Go.Sx.spN p R x0)) ∧
  ([] = Prod.snd (Go.Sx.spN p R x0)))))))) ∧
  (∀ x1 : Nat, ((x1 ≤ List.length R) →
  (BrP (Decidable.decide ((↑x1 : Int) < (↑(List.length R) : Int)))
    ((Go.Sx.inB (↑x1 : Int) (List.length R)) ∧
    (((Go.Sx.room (List.length (List.getD R (Int.toNat (↑x1 : Int)) []))) ∧
    (True)) ∧
    ((∃ x2 : Nat, (((x2 ≤ List.length (Prod.fst (Go.Sx.spN p R x1))) ∧
    (x1 < List.length R)) ∧
    ((R = R) ∧
    ((p = p) ∧
    (((↑x1 : Int) = (↑x1 : Int)) ∧
    (((0 : Int) = (↑x2 : Int)) ∧
    ((Prod.fst (Go.Sx.spN p R x1) = Prod.fst (Go.Sx.spN p R x1)) ∧
    ((Prod.snd (Go.Sx.spN p R x1) = Prod.snd (Go.Sx.spN p R x1)) ∧
    (List.getD R (Int.toNat (↑x1 : Int)) [] = Go.Sx.redN p (Prod.fst (Go.Sx.spN p R x1)) (Go.Sx.pvN (Prod.snd (Go.Sx.spN p R x1))) (List.getD R x1 []) x2))))))))) ∧
    (∀ x3 : Nat, (((x3 ≤ List.length (Prod.fst (Go.Sx.spN p R x1))) ∧
    (x1 < List.length R)) →
    (BrP (Decidable.decide ((↑x3 : Int) < (↑(List.length (Prod.fst (Go.Sx.spN p R x1))) : Int)))
      ((Go.Sx.inB (↑x3 : Int) (List.length (Prod.snd (Go.Sx.spN p R x1)))) ∧
      ((Go.Sx.inB (List.getD (Prod.snd (Go.Sx.spN p R x1)) (Int.toNat (↑x3 : Int)) (0 : Int)) (List.length (Go.Sx.redN p (Prod.fst (Go.Sx.spN p R x1)) (Go.Sx.pvN (Prod.snd (Go.Sx.spN p R x1))) (List.getD R x1 []) x3))) ∧
      (BrP (List.getD (Go.Sx.redN p (Prod.fst (Go.Sx.spN p R x1)) (Go.Sx.pvN (Prod.snd (Go.Sx.spN p R x1))) (List.getD R x1 []) x3) (Int.toNat (List.getD (Prod.snd (Go.Sx.spN p R x1)) (Int.toNat (↑x3 : Int)) (0 : Int))) (0 : Int) != (0 : Int))
        ((Go.Sx.inB (↑x3 : Int) (List.length (Prod.fst (Go.Sx.spN p R x1)))) ∧
        ((Go.Sx.inB (↑x3 : Int) (List.length (Prod.snd (Go.Sx.spN p R x1)))) ∧
        ((Go.Sx.inB (List.getD (Prod.snd (Go.Sx.spN p R x1)) (Int.toNat (↑x3 : Int)) (0 : Int)) (List.length (Go.Sx.redN p (Prod.fst (Go.Sx.spN p R x1)) (Go.Sx.pvN (Prod.snd (Go.Sx.spN p R x1))) (List.getD R x1 []) x3))) ∧
        ((((Go.Sx.twR p (Go.Sx.redN p (Prod.fst (Go.Sx.spN p R x1)) (Go.Sx.pvN (Prod.snd (Go.Sx.spN p R x1))) (List.getD R x1 []) x3) (List.getD (Prod.fst (Go.Sx.spN p R x1)) (Int.toNat (↑x3 : Int)) [])) ∧
        (((0 : Int) ≤ p - List.getD (Go.Sx.redN p (Prod.fst (Go.Sx.spN p R x1)) (Go.Sx.pvN (Prod.snd (Go.Sx.spN p R x1))) (List.getD R x1 []) x3) (Int.toNat (List.getD (Prod.snd (Go.Sx.spN p R x1)) (Int.toNat (↑x3 : Int)) (0 : Int))) (0 : Int)) ∧
        ((p - List.getD (Go.Sx.redN p (Prod.fst (Go.Sx.spN p R x1)) (Go.Sx.pvN (Prod.snd (Go.Sx.spN p R x1))) (List.getD R x1 []) x3) (Int.toNat (List.getD (Prod.snd (Go.Sx.spN p R x1)) (Int.toNat (↑x3 : Int)) (0 : Int))) (0 : Int) ≤ (7 : Int)) ∧
        (((-100 : Int) ≤ List.getD (Go.Sx.redN p (Prod.fst (Go.Sx.spN p R x1)) (Go.Sx.pvN (Prod.snd (Go.Sx.spN p R x1))) (List.getD R x1 []) x3) (Int.toNat (List.getD (Prod.snd (Go.Sx.spN p R x1)) (Int.toNat (↑x3 : Int)) (0 : Int))) (0 : Int)) ∧
        (List.getD (Go.Sx.redN p (Prod.fst (Go.Sx.spN p R x1)) (Go.Sx.pvN (Prod.snd (Go.Sx.spN p R x1))) (List.getD R x1 []) x3) (Int.toNat (List.getD (Prod.snd (Go.Sx.spN p R x1)) (Int.toNat (↑x3 : Int)) (0 : Int))) (0 : Int) ≤ (100 : Int)))))) ∧
        (True)) ∧
        ((Go.Sx.InR ((↑x3 : Int) + (1 : Int))) ∧
        (∃ x4 : Nat, (((x4 ≤ List.length (Prod.fst (Go.Sx.spN p R x1))) ∧
        (x1 < List.length R)) ∧
        ((List.length (Prod.fst (Go.Sx.spN p R x1)) - x4 < List.length (Prod.fst (Go.Sx.spN p R x1)) - x3) ∧
        ((R = R) ∧
        ((p = p) ∧
        (((↑x1 : Int) = (↑x1 : Int)) ∧
        (((↑x3 : Int) + (1 : Int) = (↑x4 : Int)) ∧
        ((Prod.fst (Go.Sx.spN p R x1) = Prod.fst (Go.Sx.spN p R x1)) ∧
        ((Prod.snd (Go.Sx.spN p R x1) = Prod.snd (Go.Sx.spN p R x1)) ∧
        (Go.Sx.stF p (p - List.getD (Go.Sx.redN p (Prod.fst (Go.Sx.spN p R x1)) (Go.Sx.pvN (Prod.snd (Go.Sx.spN p R x1))) (List.getD R x1 []) x3) (Int.toNat (List.getD (Prod.snd (Go.Sx.spN p R x1)) (Int.toNat (↑x3 : Int)) (0 : Int))) (0 : Int)) (List.getD (Prod.fst (Go.Sx.spN p R x1)) (Int.toNat (↑x3 : Int)) []) (Go.Sx.redN p (Prod.fst (Go.Sx.spN p R x1)) (Go.Sx.pvN (Prod.snd (Go.Sx.spN p R x1))) (List.getD R x1 []) x3) = Go.Sx.redN p (Prod.fst (Go.Sx.spN p R x1)) (Go.Sx.pvN (Prod.snd (Go.Sx.spN p R x1))) (List.getD R x1 []) x4)))))))))))))))
        ((Go.Sx.InR ((↑x3 : Int) + (1 : Int))) ∧
        (∃ x5 : Nat, (((x5 ≤ List.length (Prod.fst (Go.Sx.spN p R x1))) ∧
        (x1 < List.length R)) ∧
        ((List.length (Prod.fst (Go.Sx.spN p R x1)) - x5 < List.length (Prod.fst (Go.Sx.spN p R x1)) - x3) ∧
        ((R = R) ∧
        ((p = p) ∧
        (((↑x1 : Int) = (↑x1 : Int)) ∧
        (((↑x3 : Int) + (1 : Int) = (↑x5 : Int)) ∧
        ((Prod.fst (Go.Sx.spN p R x1) = Prod.fst (Go.Sx.spN p R x1)) ∧
        ((Prod.snd (Go.Sx.spN p R x1) = Prod.snd (Go.Sx.spN p R x1)) ∧
        (Go.Sx.redN p (Prod.fst (Go.Sx.spN p R x1)) (Go.Sx.pvN (Prod.snd (Go.Sx.spN p R x1))) (List.getD R x1 []) x3 = Go.Sx.redN p (Prod.fst (Go.Sx.spN p R x1)) (Go.Sx.pvN (Prod.snd (Go.Sx.spN p R x1))) (List.getD R x1 []) x5))))))))))))))
      (((List.length (Go.Sx.redN p (Prod.fst (Go.Sx.spN p R x1)) (Go.Sx.pvN (Prod.snd (Go.Sx.spN p R x1))) (List.getD R x1 []) x3) ≤ (1000 : Nat)) ∧
      (True)) ∧
      (BrP (Decidable.decide ((0 : Int) ≤ Go.Sx.ldF (Go.Sx.redN p (Prod.fst (Go.Sx.spN p R x1)) (Go.Sx.pvN (Prod.snd (Go.Sx.spN p R x1))) (List.getD R x1 []) x3)))
        ((((0 : Int) ≤ (↑(List.length (Go.Sx.redN p (Prod.fst (Go.Sx.spN p R x1)) (Go.Sx.pvN (Prod.snd (Go.Sx.spN p R x1))) (List.getD R x1 []) x3)) : Int)) ∧
        (((↑(List.length (Go.Sx.redN p (Prod.fst (Go.Sx.spN p R x1)) (Go.Sx.pvN (Prod.snd (Go.Sx.spN p R x1))) (List.getD R x1 []) x3)) : Int) ≤ (↑(List.length (Go.Sx.redN p (Prod.fst (Go.Sx.spN p R x1)) (Go.Sx.pvN (Prod.snd (Go.Sx.spN p R x1))) (List.getD R x1 []) x3)) : Int)) ∧
        (Go.Sx.room (Int.toNat (↑(List.length (Go.Sx.redN p (Prod.fst (Go.Sx.spN p R x1)) (Go.Sx.pvN (Prod.snd (Go.Sx.spN p R x1))) (List.getD R x1 []) x3)) : Int))))) ∧
        ((Go.Sx.inB (Go.Sx.ldF (Go.Sx.redN p (Prod.fst (Go.Sx.spN p R x1)) (Go.Sx.pvN (Prod.snd (Go.Sx.spN p R x1))) (List.getD R x1 []) x3)) (List.length (Go.Sx.redN p (Prod.fst (Go.Sx.spN p R x1)) (Go.Sx.pvN (Prod.snd (Go.Sx.spN p R x1))) (List.getD R x1 []) x3))) ∧
        ((((Go.Sx.primeB p = Bool.true) ∧
        (((1 : Int) ≤ List.getD (Go.Sx.redN p (Prod.fst (Go.Sx.spN p R x1)) (Go.Sx.pvN (Prod.snd (Go.Sx.spN p R x1))) (List.getD R x1 []) x3) (Int.toNat (Go.Sx.ldF (Go.Sx.redN p (Prod.fst (Go.Sx.spN p R x1)) (Go.Sx.pvN (Prod.snd (Go.Sx.spN p R x1))) (List.getD R x1 []) x3))) (0 : Int)) ∧
        (List.getD (Go.Sx.redN p (Prod.fst (Go.Sx.spN p R x1)) (Go.Sx.pvN (Prod.snd (Go.Sx.spN p R x1))) (List.getD R x1 []) x3) (Int.toNat (Go.Sx.ldF (Go.Sx.redN p (Prod.fst (Go.Sx.spN p R x1)) (Go.Sx.pvN (Prod.snd (Go.Sx.spN p R x1))) (List.getD R x1 []) x3))) (0 : Int) ≤ p - (1 : Int)))) ∧
        (True)) ∧
        ((Go.Sx.InR (p - Go.Sx.ivM p (List.getD (Go.Sx.redN p (Prod.fst (Go.Sx.spN p R x1)) (Go.Sx.pvN (Prod.snd (Go.Sx.spN p R x1))) (List.getD R x1 []) x3) (Int.toNat (Go.Sx.ldF (Go.Sx.redN p (Prod.fst (Go.Sx.spN p R x1)) (Go.Sx.pvN (Prod.snd (Go.Sx.spN p R x1))) (List.getD R x1 []) x3))) (0 : Int)))) ∧
        ((((Go.Sx.twR p (List.replicate (Int.toNat (↑(List.length (Go.Sx.redN p (Prod.fst (Go.Sx.spN p R x1)) (Go.Sx.pvN (Prod.snd (Go.Sx.spN p R x1))) (List.getD R x1 []) x3)) : Int)) (0 : Int)) (Go.Sx.redN p (Prod.fst (Go.Sx.spN p R x1)) (Go.Sx.pvN (Prod.snd (Go.Sx.spN p R x1))) (List.getD R x1 []) x3)) ∧
        (((0 : Int) ≤ p - (p - Go.Sx.ivM p (List.getD (Go.Sx.redN p (Prod.fst (Go.Sx.spN p R x1)) (Go.Sx.pvN (Prod.snd (Go.Sx.spN p R x1))) (List.getD R x1 []) x3) (Int.toNat (Go.Sx.ldF (Go.Sx.redN p (Prod.fst (Go.Sx.spN p R x1)) (Go.Sx.pvN (Prod.snd (Go.Sx.spN p R x1))) (List.getD R x1 []) x3))) (0 : Int)))) ∧
        ((p - (p - Go.Sx.ivM p (List.getD (Go.Sx.redN p (Prod.fst (Go.Sx.spN p R x1)) (Go.Sx.pvN (Prod.snd (Go.Sx.spN p R x1))) (List.getD R x1 []) x3) (Int.toNat (Go.Sx.ldF (Go.Sx.redN p (Prod.fst (Go.Sx.spN p R x1)) (Go.Sx.pvN (Prod.snd (Go.Sx.spN p R x1))) (List.getD R x1 []) x3))) (0 : Int))) ≤ (7 : Int)) ∧
        (((-100 : Int) ≤ p - Go.Sx.ivM p (List.getD (Go.Sx.redN p (Prod.fst (Go.Sx.spN p R x1)) (Go.Sx.pvN (Prod.snd (Go.Sx.spN p R x1))) (List.getD R x1 []) x3) (Int.toNat (Go.Sx.ldF (Go.Sx.redN p (Prod.fst (Go.Sx.spN p R x1)) (Go.Sx.pvN (Prod.snd (Go.Sx.spN p R x1))) (List.getD R x1 []) x3))) (0 : Int))) ∧
        (p - Go.Sx.ivM p (List.getD (Go.Sx.redN p (Prod.fst (Go.Sx.spN p R x1)) (Go.Sx.pvN (Prod.snd (Go.Sx.spN p R x1))) (List.getD R x1 []) x3) (Int.toNat (Go.Sx.ldF (Go.Sx.redN p (Prod.fst (Go.Sx.spN p R x1)) (Go.Sx.pvN (Prod.snd (Go.Sx.spN p R x1))) (List.getD R x1 []) x3))) (0 : Int)) ≤ (100 : Int)))))) ∧
        (True)) ∧
        ((Go.Sx.room (List.length (Prod.fst (Go.Sx.spN p R x1)) + List.length [Go.Sx.stF p (p - (p - Go.Sx.ivM p (List.getD (Go.Sx.redN p (Prod.fst (Go.Sx.spN p R x1)) (Go.Sx.pvN (Prod.snd (Go.Sx.spN p R x1))) (List.getD R x1 []) x3) (Int.toNat (Go.Sx.ldF (Go.Sx.redN p (Prod.fst (Go.Sx.spN p R x1)) (Go.Sx.pvN (Prod.snd (Go.Sx.spN p R x1))) (List.getD R x1 []) x3))) (0 : Int)))) (Go.Sx.redN p (Prod.fst (Go.Sx.spN p R x1)) (Go.Sx.pvN (Prod.snd (Go.Sx.spN p R x1))) (List.getD R x1 []) x3) (List.replicate (Int.toNat (↑(List.length (Go.Sx.redN p (Prod.fst (Go.Sx.spN p R x1)) (Go.Sx.pvN (Prod.snd (Go.Sx.spN p R x1))) (List.getD R x1 []) x3)) : Int)) (0 : Int))])) ∧
        ((Go.Sx.room (List.length (Prod.snd (Go.Sx.spN p R x1)) + List.length [Go.Sx.ldF (Go.Sx.redN p (Prod.fst (Go.Sx.spN p R x1)) (Go.Sx.pvN (Prod.snd (Go.Sx.spN p R x1))) (List.getD R x1 []) x3)])) ∧
        ((Go.Sx.InR ((↑x1 : Int) + (1 : Int))) ∧
        (∃ x6 : Nat, ((x6 ≤ List.length R) ∧
        ((List.length R - x6 < List.length R - x1) ∧
        ((R = R) ∧
        ((p = p) ∧
        (((↑x1 : Int) + (1 : Int) = (↑x6 : Int)) ∧
        ((Prod.fst (Go.Sx.spN p R x1) ++ [Go.Sx.stF p (p - (p - Go.Sx.ivM p (List.getD (Go.Sx.redN p (Prod.fst (Go.Sx.spN p R x1)) (Go.Sx.pvN (Prod.snd (Go.Sx.spN p R x1))) (List.getD R x1 []) x3) (Int.toNat (Go.Sx.ldF (Go.Sx.redN p (Prod.fst (Go.Sx.spN p R x1)) (Go.Sx.pvN (Prod.snd (Go.Sx.spN p R x1))) (List.getD R x1 []) x3))) (0 : Int)))) (Go.Sx.redN p (Prod.fst (Go.Sx.spN p R x1)) (Go.Sx.pvN (Prod.snd (Go.Sx.spN p R x1))) (List.getD R x1 []) x3) (List.replicate (Int.toNat (↑(List.length (Go.Sx.redN p (Prod.fst (Go.Sx.spN p R x1)) (Go.Sx.pvN (Prod.snd (Go.Sx.spN p R x1))) (List.getD R x1 []) x3)) : Int)) (0 : Int))] = Prod.fst (Go.Sx.spN p R x6)) ∧
        (Prod.snd (Go.Sx.spN p R x1) ++ [Go.Sx.ldF (Go.Sx.redN p (Prod.fst (Go.Sx.spN p R x1)) (Go.Sx.pvN (Prod.snd (Go.Sx.spN p R x1))) (List.getD R x1 []) x3)] = Prod.snd (Go.Sx.spN p R x6)))))))))))))))))
        ((Go.Sx.InR ((↑x1 : Int) + (1 : Int))) ∧
        (∃ x7 : Nat, ((x7 ≤ List.length R) ∧
        ((List.length R - x7 < List.length R - x1) ∧
        ((R = R) ∧
        ((p = p) ∧
        (((↑x1 : Int) + (1 : Int) = (↑x7 : Int)) ∧
        ((Prod.fst (Go.Sx.spN p R x1) = Prod.fst (Go.Sx.spN p R x7)) ∧
        (Prod.snd (Go.Sx.spN p R x1) = Prod.snd (Go.Sx.spN p R x7))))))))))))))))))
    (((↑(List.length (Prod.fst (Go.Sx.spN p R x1))) : Int) = (↑(List.length (Prod.fst (Go.Sx.spN p R (List.length R)))) : Int)) ∧
    (True))))))
theorem l15Rank_vc (R : List (List Int)) (p : Int) : runF Try.prog (gam l15Rank_G) noWr (l15Rank_ann R p) Try.f68 (bodyOf Try.f68) [] [.c (.rows .i64 (R)), .c (.int .i64 (p))] (l15Rank_p R p) = l15Rank_V R p := by kernel_rfl
theorem l15Rank_ok (R : List (List Int)) (p : Int) (hpre : (l15Rank_p R p).pre) : l15Rank_V R p := by
  simp only [l15Rank_p, l15Rank_V, BrP_iff, true_and, and_true, decide_eq_true_eq, decide_eq_false_iff_not, bne_iff_ne, beq_iff_eq, bne_eq_false_iff_eq, beq_eq_false_iff_ne, Bool.not_eq_true, Bool.not_eq_false, Bool.not_true, Bool.not_false, Bool.not_eq_eq_eq_not, Int.toNat_natCast, List.length_append, List.length_take, List.length_replicate, List.length_set, List.length_map, List.length_drop, List.length_nil, List.length_cons, markL_length, inB, InR, room, bdsOk] at hpre ⊢
  obtain ⟨hp, ⟨N, hR, N1, N2⟩, hl⟩ := hpre
  obtain ⟨p2, p7⟩ := primeB_le hp
  refine ⟨⟨0, by omega, rfl, rfl, rfl⟩, fun i hi => ⟨fun h => ?_, fun h => by rw [show i = R.length by omega]⟩⟩
  obtain ⟨l1, nn, B, _⟩ := spN_ok hp hR i hi
  have L := spN_len p R i
  have row := hR i (by omega)
  have row1 := row.1
  refine ⟨by omega, by omega, ⟨0, ⟨Nat.zero_le _, by omega⟩, rfl, rfl⟩, fun j ⟨hj, _⟩ => ⟨fun h3 => ?_, fun h3 => ?_⟩⟩
  · have rj := (red_ok p2 B row j hj).1
    have rj1 := rj.1
    have bj := B.row j (by omega)
    have bj1 := bj.1
    have pj := B.piv j (by omega)
    have nj := nn j (by omega)
    have pe : ((spN p R i).2.getD j 0).toNat = pvN (spN p R i).2 j := rfl
    have pi : (spN p R i).2.getD j 0 < ((redN p (spN p R i).1 (pvN (spN p R i).2) (R.getD i []) j).length : Int) := by rw [rj1]; omega
    rw [pe]
    have c := rj.2 (pvN (spN p R i).2 j) (by omega)
    have tw : twR p (redN p (spN p R i).1 (pvN (spN p R i).2) (R.getD i []) j) ((spN p R i).1.getD j []) := ⟨p2, p7, rj.2, bj.2, by omega, by omega⟩
    refine ⟨by omega, ⟨nj, pi⟩, fun h4 => ⟨by omega, by omega, ⟨nj, pi⟩, ⟨tw, by omega, by omega, by omega, by omega⟩, by omega, j + 1, ⟨by omega, by omega⟩, by omega, by omega, ?_⟩, fun h4 => ⟨by omega, j + 1, ⟨by omega, by omega⟩, by omega, by omega, ?_⟩⟩
    · rw [redN, if_pos h4]
    · rw [redN, if_neg (by omega)]
  · have e : j = (spN p R i).1.length := by omega
    subst e
    have st : spN p R (i + 1) = if 0 ≤ ldF (redN p (spN p R i).1 (pvN (spN p R i).2) (R.getD i []) (spN p R i).1.length) then ((spN p R i).1 ++ [stF p (p - (p - ivM p ((redN p (spN p R i).1 (pvN (spN p R i).2) (R.getD i []) (spN p R i).1.length).getD (ldF (redN p (spN p R i).1 (pvN (spN p R i).2) (R.getD i []) (spN p R i).1.length)).toNat 0))) (redN p (spN p R i).1 (pvN (spN p R i).2) (R.getD i []) (spN p R i).1.length) (List.replicate (redN p (spN p R i).1 (pvN (spN p R i).2) (R.getD i []) (spN p R i).1.length).length 0)], (spN p R i).2 ++ [ldF (redN p (spN p R i).1 (pvN (spN p R i).2) (R.getD i []) (spN p R i).1.length)]) else spN p R i := rfl
    have r1 := (red_ok p2 B row (spN p R i).1.length (Nat.le_refl _)).1
    generalize hr : redN p (spN p R i).1 (pvN (spN p R i).2) (R.getD i []) (spN p R i).1.length = r at *
    have r11 := r1.1
    refine ⟨by omega, fun h4 => ?_, fun h4 => ⟨by omega, i + 1, by omega, by omega, by omega, by rw [st, if_neg h4], by rw [st, if_neg h4]⟩⟩
    have y := ld_yes h4
    have c := r1.2 _ y.1
    have iv := ivM_ok hp (a := r.getD (ldF r).toNat 0) (by omega) (by omega)
    have rp : inP p (List.replicate r.length 0) := rep_in (by omega) _
    exact ⟨by omega, by omega, ⟨hp, by omega, by omega⟩, by omega, ⟨⟨p2, p7, rp, r1.2, by rw [List.length_replicate], by rw [List.length_replicate]; omega⟩, by omega, by omega, by omega, by omega⟩, by omega, by omega, by omega, i + 1, by omega, by omega, by omega, by rw [st, if_pos h4], by rw [st, if_pos h4]⟩
theorem l15Rank_fits : Fits Try.prog 68 ⟨[], l15Rank_ct⟩ := by
  refine fits_fn (Γ := gam l15Rank_G) (gok_cons l01Own_fits (gok_cons l15Less_fits (gok_cons l15First_fits (gok_cons l15Inverse_fits gok_nil)))) Try.func68 (by kernel_rfl) (by kernel_rfl) (by kernel_rfl) fun ds p h hp => ?_
  unfold l15Rank_ct at h
  split at h
  · cases h
    exact ⟨noWr, l15Rank_ann _ _ , by rw [l15Rank_vc]; exact l15Rank_ok _ _  hp⟩
  · cases h

/-- The row of a tuple; the rows of all tuples up to i, of those that are not flat only if q. -/
def rowQ (t : List (List Int)) (p : Int) (k : Nat) (q : Bool) (i : Nat) : List Int :=
  if q = true then clrN (t.length : Int) ((k : Int) - 1) (ptF t p (digN (t.length : Int) k (i : Int)) k) (ptF t p (digN (t.length : Int) k (i : Int)) k).length else ptF t p (digN (t.length : Int) k (i : Int)) k
def rkR (t : List (List Int)) (p : Int) (k : Nat) (q : Bool) : Nat → List (List Int)
  | 0 => []
  | i + 1 => if q = true ∧ flB (digN (t.length : Int) k (i : Int)) = true then rkR t p k q i else rkR t p k q i ++ [rowQ t p k q i]
def rkA (t : List (List Int)) (p : Int) (k : Int) (q : Bool) : List (List Int) := rkR t p k.toNat q (t.length ^ k.toNat)
def brV (t : List (List Int)) (p : Int) (k : Int) (q : Bool) : Int := if k = 0 then 0 else ((imN p (rkA t p k q) (rkA t p k q).length).length : Int)

theorem rk_facts {t : List (List Int)} {k : Int} (h1 : tabB t = true) (hd : degB (t.length : Int) k = true) : 0 ≤ k ∧ k ≤ 1000 ∧ t.length ^ k.toNat ≤ 512 ∧ (t.length : Int) ^ k.toNat = ((t.length ^ k.toNat : Nat) : Int) ∧ 1 ≤ t.length ^ k.toNat := by
  have d := degB_of hd
  have hn := (tabB_of h1).1
  have e : (t.length : Int) ^ k.toNat = ((t.length ^ k.toNat : Nat) : Int) := (Int.natCast_pow _ _).symm
  rw [e] at d
  exact ⟨d.1, d.2.1, by omega, e, Nat.pow_pos (by omega)⟩

theorem clrN_in {p : Int} (hp : 1 ≤ p) {n k : Int} {c : List Int} (hc : inP p c) (i : Nat) : inP p (clrN n k c i) := fun q hq => by
  rw [clrN_length] at hq
  have := hc q hq
  rw [clrN, tab_getD _ _ _ hq]
  split
  · omega
  · exact this

theorem rowQ_ok {t : List (List Int)} {p : Int} (hp : 2 ≤ p) (k : Nat) (q : Bool) (i : Nat) : rwP p (t.length ^ (k - 1)) (rowQ t p k q i) := by
  unfold rowQ
  split
  · exact ⟨by rw [clrN_length, ptF_length, digN_length], clrN_in (by omega) (ptF_in t hp _ _) _⟩
  · exact ⟨by rw [ptF_length, digN_length], ptF_in t hp _ _⟩

theorem rkR_ok {t : List (List Int)} {p : Int} {k : Nat} {q : Bool} (hp : 2 ≤ p) : ∀ i, (rkR t p k q i).length ≤ i ∧ rwsP p (t.length ^ (k - 1)) (rkR t p k q i)
  | 0 => ⟨Nat.le_refl _, fun j hj => by simp [rkR] at hj⟩
  | i + 1 => by
    obtain ⟨a, b⟩ := rkR_ok (t := t) (k := k) (q := q) hp i
    simp only [rkR]
    split
    · exact ⟨by omega, b⟩
    · refine ⟨by simp; omega, fun j hj => ?_⟩
      by_cases e : j < (rkR t p k q i).length
      · rw [snoc_get _ _ e]; exact b j e
      · have : j = (rkR t p k q i).length := by simp at hj; omega
        subst this
        rw [show (rkR t p k q i ++ [rowQ t p k q i]).getD (rkR t p k q i).length [] = rowQ t p k q i by simp [List.getD]]
        exact rowQ_ok hp k q i

theorem brV_le {t : List (List Int)} {p k : Int} {q : Bool} (h1 : tabB t = true) (hp : primeB p = true) (hd : degB (t.length : Int) k = true) : 0 ≤ brV t p k q ∧ brV t p k q ≤ 512 := by
  obtain ⟨p2, p7⟩ := primeB_le hp
  obtain ⟨k0, k1, N1, eN, N2⟩ := rk_facts h1 hd
  unfold brV
  split
  · omega
  · have := imN_len p (rkA t p k q) (rkA t p k q).length
    have := (rkR_ok (t := t) (p := p) (k := k.toNat) (q := q) p2 (t.length ^ k.toNat)).1
    unfold rkA at *
    omega

def boundaryRank_p (t : List (List Int)) (p : Int) (k : Int) (q : Bool) : Post := ⟨tabB t = true ∧ primeB p = true ∧ degB (t.length : Int) k = true, .c (.int .i64 (brV t p k q)), []⟩
def boundaryRank_ct : List AD → Option Post
  | [.c (.rows .i64 (t)), .c (.int .i64 (p)), .c (.int .i64 (k)), .c (.bool (q))] => some (boundaryRank_p t p k q)
  | _ => none
def boundaryRank_ann (t : List (List Int)) (p : Int) (k : Int) (q : Bool) : Nat → Option Ann
  | 0 => some (Ann.mk ((Nat)) (fun i => ⟨[(0, .c (.ro (.rows .i64 (t)))), (1, .c (.int .i64 (p))), (2, .c (.int .i64 (k))), (3, .c (.bool (q))), (9, .c (.int .i64 ((t.length : Int)))), (10, .c (.own (100))), (20, .c (.int .i64 (((t.length ^ k.toNat : Nat) : Int)))), (21, .c (.int .i64 ((i : Int))))], [(100, some (.rows 0 22 2 .i64 (rkR t p k.toNat q i)))]⟩) (fun i => i ≤ t.length ^ k.toNat ∧ k ≠ 0) (fun i => t.length ^ k.toNat - i) (fun _ => noAnn))
  | _ => none
def boundaryRank_G : List (Nat × Ctr) := [(44, ⟨[], tuplesOf_ct⟩), (50, ⟨[], tupleOf_ct⟩), (49, ⟨[], isDegenerate_ct⟩), (71, ⟨[(4, 0)], addBoundary_ct⟩), (72, ⟨[(2, 0)], withoutDegenerate_ct⟩), (73, ⟨[], reducedRows_ct⟩)]
def boundaryRank_V (t : List (List Int)) (p : Int) (k : Int) (q : Bool) : Prop :=
  (BrP (k == (0 : Int))
    (((0 : Int) = Go.Sx.brV t p k q) ∧
    (True))
    (((((1 : Int) ≤ (↑(List.length t) : Int)) ∧
    (((↑(List.length t) : Int) ≤ (12 : Int)) ∧
    (Go.Sx.degB (↑(List.length t) : Int) k = Bool.true))) ∧
    (True)) ∧
    ((∃ x0 : Nat, (((x0 ≤ List.length t ^ Int.toNat k) ∧
    (k ≠ (0 : Int))) ∧
    ((t = t) ∧
    ((p = p) ∧
    ((k = k) ∧
    ((q = q) ∧
    (((↑(List.length t) : Int) = (↑(List.length t) : Int)) ∧
    (((↑(List.length t) : Int) ^ Int.toNat k = (↑(List.length t ^ Int.toNat k) : Int)) ∧
    (((0 : Int) = (↑x0 : Int)) ∧
    (Go.Sx.rkR t p (Int.toNat k) q x0 = [])))))))))) ∧
    (∀ x1 : Nat, (((x1 ≤ List.length t ^ Int.toNat k) ∧
    (k ≠ (0 : Int))) →
    (BrP (Decidable.decide ((↑x1 : Int) < (↑(List.length t ^ Int.toNat k) : Int)))
      (((((1 : Int) ≤ (↑(List.length t) : Int)) ∧
      (((0 : Int) ≤ k) ∧
      ((k ≤ (1000 : Int)) ∧
      (((0 : Int) ≤ (↑x1 : Int)) ∧
      ((↑x1 : Int) ≤ (1000000 : Int)))))) ∧
      (True)) ∧
      (BrP (q)
        (((List.length (Go.Sx.digN (↑(List.length t) : Int) (Int.toNat k) (↑x1 : Int)) ≤ (1000 : Nat)) ∧
        (True)) ∧
        (BrP (Go.Sx.flB (Go.Sx.digN (↑(List.length t) : Int) (Int.toNat k) (↑x1 : Int)))
          ((Go.Sx.InR ((↑x1 : Int) + (1 : Int))) ∧
          (∃ x2 : Nat, (((x2 ≤ List.length t ^ Int.toNat k) ∧
          (k ≠ (0 : Int))) ∧
          ((List.length t ^ Int.toNat k - x2 < List.length t ^ Int.toNat k - x1) ∧
          ((t = t) ∧
          ((p = p) ∧
          ((k = k) ∧
          ((q = q) ∧
          (((↑(List.length t) : Int) = (↑(List.length t) : Int)) ∧
          (((↑(List.length t ^ Int.toNat k) : Int) = (↑(List.length t ^ Int.toNat k) : Int)) ∧
          (((↑x1 : Int) + (1 : Int) = (↑x2 : Int)) ∧
          (Go.Sx.rkR t p (Int.toNat k) q x1 = Go.Sx.rkR t p (Int.toNat k) q x2))))))))))))
          ((Go.Sx.InR (k - (1 : Int))) ∧
          (((((1 : Int) ≤ (↑(List.length t) : Int)) ∧
          (((↑(List.length t) : Int) ≤ (12 : Int)) ∧
          (Go.Sx.degB (↑(List.length t) : Int) (k - (1 : Int)) = Bool.true))) ∧
          (True)) ∧
          ((((0 : Int) ≤ (↑(List.length t) : Int) ^ Int.toNat (k - (1 : Int))) ∧
          (((↑(List.length t) : Int) ^ Int.toNat (k - (1 : Int)) ≤ (↑(List.length t) : Int) ^ Int.toNat (k - (1 : Int))) ∧
          (Go.Sx.room (Int.toNat ((↑(List.length t) : Int) ^ Int.toNat (k - (1 : Int))))))) ∧
          ((((Go.Sx.bdOk t p (Go.Sx.digN (↑(List.length t) : Int) (Int.toNat k) (↑x1 : Int))) ∧
          (((0 : Int) ≤ (1 : Int)) ∧
          (((1 : Int) ≤ p - (1 : Int)) ∧
          ((Go.Sx.inP p (List.replicate (Int.toNat ((↑(List.length t) : Int) ^ Int.toNat (k - (1 : Int)))) (0 : Int))) ∧
          (List.length (List.replicate (Int.toNat ((↑(List.length t) : Int) ^ Int.toNat (k - (1 : Int)))) (0 : Int)) = List.length t ^ (List.length (Go.Sx.digN (↑(List.length t) : Int) (Int.toNat k) (↑x1 : Int)) - (1 : Nat))))))) ∧
          ((List.length (Go.Sx.adF t p (Go.Sx.digN (↑(List.length t) : Int) (Int.toNat k) (↑x1 : Int)) (1 : Int) (List.replicate (Int.toNat ((↑(List.length t) : Int) ^ Int.toNat (k - (1 : Int)))) (0 : Int)) (List.length (Go.Sx.digN (↑(List.length t) : Int) (Int.toNat k) (↑x1 : Int)))) = List.length (List.replicate (Int.toNat ((↑(List.length t) : Int) ^ Int.toNat (k - (1 : Int)))) (0 : Int))) ∧
          (True))) ∧
          (BrP (q)
            ((Go.Sx.InR (k - (1 : Int))) ∧
            (((((1 : Int) ≤ (↑(List.length t) : Int)) ∧
            (((0 : Int) ≤ k - (1 : Int)) ∧
            ((k - (1 : Int) ≤ (1000 : Int)) ∧
            (List.length (Go.Sx.adF t p (Go.Sx.digN (↑(List.length t) : Int) (Int.toNat k) (↑x1 : Int)) (1 : Int) (List.replicate (Int.toNat ((↑(List.length t) : Int) ^ Int.toNat (k - (1 : Int)))) (0 : Int)) (List.length (Go.Sx.digN (↑(List.length t) : Int) (Int.toNat k) (↑x1 : Int)))) ≤ (1000000 : Nat))))) ∧
            ((List.length (Go.Sx.clrN (↑(List.length t) : Int) (k - (1 : Int)) (Go.Sx.adF t p (Go.Sx.digN (↑(List.length t) : Int) (Int.toNat k) (↑x1 : Int)) (1 : Int) (List.replicate (Int.toNat ((↑(List.length t) : Int) ^ Int.toNat (k - (1 : Int)))) (0 : Int)) (List.length (Go.Sx.digN (↑(List.length t) : Int) (Int.toNat k) (↑x1 : Int)))) (List.length (Go.Sx.adF t p (Go.Sx.digN (↑(List.length t) : Int) (Int.toNat k) (↑x1 : Int)) (1 : Int) (List.replicate (Int.toNat ((↑(List.length t) : Int) ^ Int.toNat (k - (1 : Int)))) (0 : Int)) (List.length (Go.Sx.digN (↑(List.length t) : Int) (Int.toNat k) (↑x1 : Int)))))) = List.length (Go.Sx.adF t p (Go.Sx.digN (↑(List.length t) : Int) (Int.toNat k) (↑x1 : Int)) (1 : Int) (List.replicate (Int.toNat ((↑(List.length t) : Int) ^ Int.toNat (k - (1 : Int)))) (0 : Int)) (List.length (Go.Sx.digN (↑(List.length t) : Int) (Int.toNat k) (↑x1 : Int))))) ∧
            (True))) ∧
            ((Go.Sx.room (List.length (Go.Sx.rkR t p (Int.toNat k) q x1) + List.length [Go.Sx.clrN (↑(List.length t) : Int) (k - (1 : Int)) (Go.Sx.adF t p (Go.Sx.digN (↑(List.length t) : Int) (Int.toNat k) (↑x1 : Int)) (1 : Int) (List.replicate (Int.toNat ((↑(List.length t) : Int) ^ Int.toNat (k - (1 : Int)))) (0 : Int)) (List.length (Go.Sx.digN (↑(List.length t) : Int) (Int.toNat k) (↑x1 : Int)))) (List.length (Go.Sx.adF t p (Go.Sx.digN (↑(List.length t) : Int) (Int.toNat k) (↑x1 : Int)) (1 : Int) (List.replicate (Int.toNat ((↑(List.length t) : Int) ^ Int.toNat (k - (1 : Int)))) (0 : Int)) (List.length (Go.Sx.digN (↑(List.length t) : Int) (Int.toNat k) (↑x1 : Int)))))])) ∧
            ((Go.Sx.InR ((↑x1 : Int) + (1 : Int))) ∧
            (∃ x3 : Nat, (((x3 ≤ List.length t ^ Int.toNat k) ∧
            (k ≠ (0 : Int))) ∧
            ((List.length t ^ Int.toNat k - x3 < List.length t ^ Int.toNat k - x1) ∧
            ((t = t) ∧
            ((p = p) ∧
            ((k = k) ∧
            ((q = q) ∧
            (((↑(List.length t) : Int) = (↑(List.length t) : Int)) ∧
            (((↑(List.length t ^ Int.toNat k) : Int) = (↑(List.length t ^ Int.toNat k) : Int)) ∧
            (((↑x1 : Int) + (1 : Int) = (↑x3 : Int)) ∧
            (Go.Sx.rkR t p (Int.toNat k) q x1 ++ [Go.Sx.clrN (↑(List.length t) : Int) (k - (1 : Int)) (Go.Sx.adF t p (Go.Sx.digN (↑(List.length t) : Int) (Int.toNat k) (↑x1 : Int)) (1 : Int) (List.replicate (Int.toNat ((↑(List.length t) : Int) ^ Int.toNat (k - (1 : Int)))) (0 : Int)) (List.length (Go.Sx.digN (↑(List.length t) : Int) (Int.toNat k) (↑x1 : Int)))) (List.length (Go.Sx.adF t p (Go.Sx.digN (↑(List.length t) : Int) (Int.toNat k) (↑x1 : Int)) (1 : Int) (List.replicate (Int.toNat ((↑(List.length t) : Int) ^ Int.toNat (k - (1 : Int)))) (0 : Int)) (List.length (Go.Sx.digN (↑(List.length t) : Int) (Int.toNat k) (↑x1 : Int)))))] = Go.Sx.rkR t p (Int.toNat k) q x3)))))))))))))))
            ((Go.Sx.room (List.length (Go.Sx.rkR t p (Int.toNat k) q x1) + List.length [Go.Sx.adF t p (Go.Sx.digN (↑(List.length t) : Int) (Int.toNat k) (↑x1 : Int)) (1 : Int) (List.replicate (Int.toNat ((↑(List.length t) : Int) ^ Int.toNat (k - (1 : Int)))) (0 : Int)) (List.length (Go.Sx.digN (↑(List.length t) : Int) (Int.toNat k) (↑x1 : Int)))])) ∧
            ((Go.Sx.InR ((↑x1 : Int) + (1 : Int))) ∧
            (∃ x4 : Nat, (((x4 ≤ List.length t ^ Int.toNat k) ∧
            (k ≠ (0 : Int))) ∧
            ((List.length t ^ Int.toNat k - x4 < List.length t ^ Int.toNat k - x1) ∧
            ((t = t) ∧
            ((p = p) ∧
            ((k = k) ∧
            ((q = q) ∧
            (((↑(List.length t) : Int) = (↑(List.length t) : Int)) ∧
            (((↑(List.length t ^ Int.toNat k) : Int) = (↑(List.length t ^ Int.toNat k) : Int)) ∧
            (((↑x1 : Int) + (1 : Int) = (↑x4 : Int)) ∧
            (Go.Sx.rkR t p (Int.toNat k) q x1 ++ [Go.Sx.adF t p (Go.Sx.digN (↑(List.length t) : Int) (Int.toNat k) (↑x1 : Int)) (1 : Int) (List.replicate (Int.toNat ((↑(List.length t) : Int) ^ Int.toNat (k - (1 : Int)))) (0 : Int)) (List.length (Go.Sx.digN (↑(List.length t) : Int) (Int.toNat k) (↑x1 : Int)))] = Go.Sx.rkR t p (Int.toNat k) q x4))))))))))))))))))))
        ((Go.Sx.InR (k - (1 : Int))) ∧
        (((((1 : Int) ≤ (↑(List.length t) : Int)) ∧
        (((↑(List.length t) : Int) ≤ (12 : Int)) ∧
        (Go.Sx.degB (↑(List.length t) : Int) (k - (1 : Int)) = Bool.true))) ∧
        (True)) ∧
        ((((0 : Int) ≤ (↑(List.length t) : Int) ^ Int.toNat (k - (1 : Int))) ∧
        (((↑(List.length t) : Int) ^ Int.toNat (k - (1 : Int)) ≤ (↑(List.length t) : Int) ^ Int.toNat (k - (1 : Int))) ∧
        (Go.Sx.room (Int.toNat ((↑(List.length t) : Int) ^ Int.toNat (k - (1 : Int))))))) ∧
        ((((Go.Sx.bdOk t p (Go.Sx.digN (↑(List.length t) : Int) (Int.toNat k) (↑x1 : Int))) ∧
        (((0 : Int) ≤ (1 : Int)) ∧
        (((1 : Int) ≤ p - (1 : Int)) ∧
        ((Go.Sx.inP p (List.replicate (Int.toNat ((↑(List.length t) : Int) ^ Int.toNat (k - (1 : Int)))) (0 : Int))) ∧
        (List.length (List.replicate (Int.toNat ((↑(List.length t) : Int) ^ Int.toNat (k - (1 : Int)))) (0 : Int)) = List.length t ^ (List.length (Go.Sx.digN (↑(List.length t) : Int) (Int.toNat k) (↑x1 : Int)) - (1 : Nat))))))) ∧
        ((List.length (Go.Sx.adF t p (Go.Sx.digN (↑(List.length t) : Int) (Int.toNat k) (↑x1 : Int)) (1 : Int) (List.replicate (Int.toNat ((↑(List.length t) : Int) ^ Int.toNat (k - (1 : Int)))) (0 : Int)) (List.length (Go.Sx.digN (↑(List.length t) : Int) (Int.toNat k) (↑x1 : Int)))) = List.length (List.replicate (Int.toNat ((↑(List.length t) : Int) ^ Int.toNat (k - (1 : Int)))) (0 : Int))) ∧
        (True))) ∧
        (BrP (q)
          ((Go.Sx.InR (k - (1 : Int))) ∧
          (((((1 : Int) ≤ (↑(List.length t) : Int)) ∧
          (((0 : Int) ≤ k - (1 : Int)) ∧
          ((k - (1 : Int) ≤ (1000 : Int)) ∧
          (List.length (Go.Sx.adF t p (Go.Sx.digN (↑(List.length t) : Int) (Int.toNat k) (↑x1 : Int)) (1 : Int) (List.replicate (Int.toNat ((↑(List.length t) : Int) ^ Int.toNat (k - (1 : Int)))) (0 : Int)) (List.length (Go.Sx.digN (↑(List.length t) : Int) (Int.toNat k) (↑x1 : Int)))) ≤ (1000000 : Nat))))) ∧
          ((List.length (Go.Sx.clrN (↑(List.length t) : Int) (k - (1 : Int)) (Go.Sx.adF t p (Go.Sx.digN (↑(List.length t) : Int) (Int.toNat k) (↑x1 : Int)) (1 : Int) (List.replicate (Int.toNat ((↑(List.length t) : Int) ^ Int.toNat (k - (1 : Int)))) (0 : Int)) (List.length (Go.Sx.digN (↑(List.length t) : Int) (Int.toNat k) (↑x1 : Int)))) (List.length (Go.Sx.adF t p (Go.Sx.digN (↑(List.length t) : Int) (Int.toNat k) (↑x1 : Int)) (1 : Int) (List.replicate (Int.toNat ((↑(List.length t) : Int) ^ Int.toNat (k - (1 : Int)))) (0 : Int)) (List.length (Go.Sx.digN (↑(List.length t) : Int) (Int.toNat k) (↑x1 : Int)))))) = List.length (Go.Sx.adF t p (Go.Sx.digN (↑(List.length t) : Int) (Int.toNat k) (↑x1 : Int)) (1 : Int) (List.replicate (Int.toNat ((↑(List.length t) : Int) ^ Int.toNat (k - (1 : Int)))) (0 : Int)) (List.length (Go.Sx.digN (↑(List.length t) : Int) (Int.toNat k) (↑x1 : Int))))) ∧
          (True))) ∧
          ((Go.Sx.room (List.length (Go.Sx.rkR t p (Int.toNat k) q x1) + List.length [Go.Sx.clrN (↑(List.length t) : Int) (k - (1 : Int)) (Go.Sx.adF t p (Go.Sx.digN (↑(List.length t) : Int) (Int.toNat k) (↑x1 : Int)) (1 : Int) (List.replicate (Int.toNat ((↑(List.length t) : Int) ^ Int.toNat (k - (1 : Int)))) (0 : Int)) (List.length (Go.Sx.digN (↑(List.length t) : Int) (Int.toNat k) (↑x1 : Int)))) (List.length (Go.Sx.adF t p (Go.Sx.digN (↑(List.length t) : Int) (Int.toNat k) (↑x1 : Int)) (1 : Int) (List.replicate (Int.toNat ((↑(List.length t) : Int) ^ Int.toNat (k - (1 : Int)))) (0 : Int)) (List.length (Go.Sx.digN (↑(List.length t) : Int) (Int.toNat k) (↑x1 : Int)))))])) ∧
          ((Go.Sx.InR ((↑x1 : Int) + (1 : Int))) ∧
          (∃ x5 : Nat, (((x5 ≤ List.length t ^ Int.toNat k) ∧
          (k ≠ (0 : Int))) ∧
          ((List.length t ^ Int.toNat k - x5 < List.length t ^ Int.toNat k - x1) ∧
          ((t = t) ∧
          ((p = p) ∧
          ((k = k) ∧
          ((q = q) ∧
          (((↑(List.length t) : Int) = (↑(List.length t) : Int)) ∧
          (((↑(List.length t ^ Int.toNat k) : Int) = (↑(List.length t ^ Int.toNat k) : Int)) ∧
          (((↑x1 : Int) + (1 : Int) = (↑x5 : Int)) ∧
          (Go.Sx.rkR t p (Int.toNat k) q x1 ++ [Go.Sx.clrN (↑(List.length t) : Int) (k - (1 : Int)) (Go.Sx.adF t p (Go.Sx.digN (↑(List.length t) : Int) (Int.toNat k) (↑x1 : Int)) (1 : Int) (List.replicate (Int.toNat ((↑(List.length t) : Int) ^ Int.toNat (k - (1 : Int)))) (0 : Int)) (List.length (Go.Sx.digN (↑(List.length t) : Int) (Int.toNat k) (↑x1 : Int)))) (List.length (Go.Sx.adF t p (Go.Sx.digN (↑(List.length t) : Int) (Int.toNat k) (↑x1 : Int)) (1 : Int) (List.replicate (Int.toNat ((↑(List.length t) : Int) ^ Int.toNat (k - (1 : Int)))) (0 : Int)) (List.length (Go.Sx.digN (↑(List.length t) : Int) (Int.toNat k) (↑x1 : Int)))))] = Go.Sx.rkR t p (Int.toNat k) q x5)))))))))))))))
          ((Go.Sx.room (List.length (Go.Sx.rkR t p (Int.toNat k) q x1) + List.length [Go.Sx.adF t p (Go.Sx.digN (↑(List.length t) : Int) (Int.toNat k) (↑x1 : Int)) (1 : Int) (List.replicate (Int.toNat ((↑(List.length t) : Int) ^ Int.toNat (k - (1 : Int)))) (0 : Int)) (List.length (Go.Sx.digN (↑(List.length t) : Int) (Int.toNat k) (↑x1 : Int)))])) ∧
          ((Go.Sx.InR ((↑x1 : Int) + (1 : Int))) ∧
          (∃ x6 : Nat, (((x6 ≤ List.length t ^ Int.toNat k) ∧
          (k ≠ (0 : Int))) ∧
          ((List.length t ^ Int.toNat k - x6 < List.length t ^ Int.toNat k - x1) ∧
          ((t = t) ∧
          ((p = p) ∧
          ((k = k) ∧
          ((q = q) ∧
          (((↑(List.length t) : Int) = (↑(List.length t) : Int)) ∧
          (((↑(List.length t ^ Int.toNat k) : Int) = (↑(List.length t ^ Int.toNat k) : Int)) ∧
          (((↑x1 : Int) + (1 : Int) = (↑x6 : Int)) ∧
          (Go.Sx.rkR t p (Int.toNat k) q x1 ++ [Go.Sx.adF t p (Go.Sx.digN (↑(List.length t) : Int) (Int.toNat k) (↑x1 : Int)) (1 : Int) (List.replicate (Int.toNat ((↑(List.length t) : Int) ^ Int.toNat (k - (1 : Int)))) (0 : Int)) (List.length (Go.Sx.digN (↑(List.length t) : Int) (Int.toNat k) (↑x1 : Int)))] = Go.Sx.rkR t p (Int.toNat k) q x6))))))))))))))))))))
      ((((Go.Sx.primeB p = Bool.true) ∧
      ((∃ (N : Nat), Go.Sx.rwsP p N (Go.Sx.rkR t p (Int.toNat k) q x1) ∧ (1 : Nat) ≤ N ∧ N ≤ (512 : Nat)) ∧
      (List.length (Go.Sx.rkR t p (Int.toNat k) q x1) ≤ (512 : Nat)))) ∧
      (True)) ∧
      (((↑(List.length (Go.Sx.srtL (Go.Sx.imN p (Go.Sx.rkR t p (Int.toNat k) q x1) (List.length (Go.Sx.rkR t p (Int.toNat k) q x1))))) : Int) = Go.Sx.brV t p k q) ∧
      (True)))))))))
theorem boundaryRank_vc (t : List (List Int)) (p : Int) (k : Int) (q : Bool) : runF Try.prog (gam boundaryRank_G) noWr (boundaryRank_ann t p k q) Try.f39 (bodyOf Try.f39) [] [.c (.rows .i64 (t)), .c (.int .i64 (p)), .c (.int .i64 (k)), .c (.bool (q))] (boundaryRank_p t p k q) = boundaryRank_V t p k q := by kernel_rfl
theorem boundaryRank_ok (t : List (List Int)) (p : Int) (k : Int) (q : Bool) (hpre : (boundaryRank_p t p k q).pre) : boundaryRank_V t p k q := by
  simp only [boundaryRank_p, boundaryRank_V, BrP_iff, true_and, and_true, decide_eq_true_eq, decide_eq_false_iff_not, bne_iff_ne, beq_iff_eq, bne_eq_false_iff_eq, beq_eq_false_iff_ne, Bool.not_eq_true, Bool.not_eq_false, Bool.not_true, Bool.not_false, Bool.not_eq_eq_eq_not, Int.toNat_natCast, List.length_append, List.length_take, List.length_replicate, List.length_set, List.length_map, List.length_drop, List.length_nil, List.length_cons, markL_length, inB, InR, room, bdsOk] at hpre ⊢
  obtain ⟨h1, hp, hd⟩ := hpre
  obtain ⟨p2, p7⟩ := primeB_le hp
  obtain ⟨n1, n2, ht⟩ := tabB_of h1
  obtain ⟨k0, k1, N1, eN, N2⟩ := rk_facts h1 hd
  refine ⟨fun hk => by rw [brV, if_pos hk], fun hk => ?_⟩
  obtain ⟨d1, d2, _, _, d5⟩ := deg_sub h1 (show 1 ≤ k by omega) hd
  have eM : (t.length : Int) ^ (k.toNat - 1) = ((t.length ^ (k.toNat - 1) : Nat) : Int) := (Int.natCast_pow _ _).symm
  have d3 := d2
  rw [eM] at d3
  have kc : ((k.toNat : Nat) : Int) = k := by omega
  refine ⟨⟨by omega, by omega, hd⟩, ⟨0, ⟨Nat.zero_le _, hk⟩, eN, rfl, rfl⟩, fun i ⟨hi, _⟩ => ⟨fun h => ?_, fun h => ?_⟩⟩
  · have hx : bdOk t p (digN t.length k.toNat (i : Int)) := dig_ok h1 p2 p7 (by omega) d2 (by omega)
    have ad := ad_zero (t := t) p2 (digN t.length k.toNat (i : Int)) k.toNat
    rw [digN_length] at ad
    have rp : inP p (List.replicate (t.length ^ (k.toNat - 1)) 0) := rep_in (by omega) _
    have pl : (ptF t p (digN t.length k.toNat (i : Int)) k.toNat).length = t.length ^ (k.toNat - 1) := by rw [ptF_length, digN_length]
    have RL := (rkR_ok (t := t) (k := k.toNat) (q := q) p2 i).1
    have r1 : rowQ t p k.toNat q i = if q = true then clrN (t.length : Int) (k - 1) (ptF t p (digN t.length k.toNat (i : Int)) k.toNat) (t.length ^ (k.toNat - 1)) else ptF t p (digN t.length k.toNat (i : Int)) k.toNat := by
      rw [rowQ, kc, pl]
    simp only [d5, eM, Int.toNat_natCast, digN_length, ad, pl, clrN_length]
    cases q with
    | false =>
      have r2 : rkR t p k.toNat false (i + 1) = rkR t p k.toNat false i ++ [ptF t p (digN t.length k.toNat (i : Int)) k.toNat] := by
        rw [rkR, if_neg (by simp), r1, if_neg (by simp)]
      exact ⟨⟨by omega, by omega, by omega, by omega, by omega⟩, fun c => absurd c (by decide), fun _ => ⟨by omega, ⟨by omega, by omega, d1⟩, ⟨by omega, by omega, by omega⟩, ⟨⟨hx, by omega, by omega, rp, trivial⟩, trivial⟩, fun c => absurd c (by decide), fun _ => ⟨by omega, by omega, i + 1, ⟨by omega, hk⟩, by omega, by omega, r2.symm⟩⟩⟩
    | true =>
      refine ⟨⟨by omega, by omega, by omega, by omega, by omega⟩, fun _ => ⟨by omega, fun hf => ⟨by omega, i + 1, ⟨by omega, hk⟩, by omega, by omega, ?_⟩, fun hf => ⟨by omega, ⟨by omega, by omega, d1⟩, ⟨by omega, by omega, by omega⟩, ⟨⟨hx, by omega, by omega, rp, trivial⟩, trivial⟩, fun _ => ⟨by omega, ⟨⟨by omega, by omega, by omega, by omega⟩, trivial⟩, by omega, by omega, i + 1, ⟨by omega, hk⟩, by omega, by omega, ?_⟩, fun c => absurd c (by decide)⟩⟩, fun c => absurd c (by decide)⟩
      · rw [rkR, if_pos ⟨rfl, hf⟩]
      · rw [rkR, if_neg (by rw [hf]; simp), r1, if_pos rfl]
  · have RK := rkR_ok (t := t) (k := k.toNat) (q := q) p2 i
    have e : i = t.length ^ k.toNat := by omega
    have MM : 1 ≤ t.length ^ (k.toNat - 1) := Nat.pow_pos (by omega)
    refine ⟨⟨hp, ⟨_, RK.2, MM, by omega⟩, by omega⟩, ?_⟩
    rw [srtL_len, brV, if_neg hk, rkA, e]
theorem boundaryRank_fits : Fits Try.prog 39 ⟨[], boundaryRank_ct⟩ := by
  refine fits_fn (Γ := gam boundaryRank_G) (gok_cons tuplesOf_fits (gok_cons tupleOf_fits (gok_cons isDegenerate_fits (gok_cons addBoundary_fits (gok_cons withoutDegenerate_fits (gok_cons reducedRows_fits gok_nil)))))) Try.func39 (by kernel_rfl) (by kernel_rfl) (by kernel_rfl) fun ds p h hp => ?_
  unfold boundaryRank_ct at h
  split at h
  · cases h
    exact ⟨noWr, boundaryRank_ann _ _ _ _ , by rw [boundaryRank_vc]; exact boundaryRank_ok _ _ _ _  hp⟩
  · cases h

def l15Ranks_p (t : List (List Int)) (p : Int) (k : Int) : Post := ⟨tabB t = true ∧ primeB p = true ∧ degB (t.length : Int) k = true, .c (.int .i64 (brV t p k false)), []⟩
def l15Ranks_ct : List AD → Option Post
  | [.c (.rows .i64 (t)), .c (.int .i64 (p)), .c (.int .i64 (k))] => some (l15Ranks_p t p k)
  | _ => none
def l15Ranks_ann (t : List (List Int)) (p : Int) (k : Int) : Nat → Option Ann
  | 0 => some (Ann.mk ((Nat)) (fun i => ⟨[(0, .c (.ro (.rows .i64 (t)))), (1, .c (.int .i64 (p))), (2, .c (.int .i64 (k))), (7, .c (.own (100))), (8, .c (.int .i64 ((i : Int))))], [(100, some (.rows 0 22 2 .i64 (rkR t p k.toNat false i)))]⟩) (fun i => (i ≤ t.length ^ k.toNat ∧ (k = 0 → i = 0))) (fun i => t.length ^ k.toNat - i) (fun _ => noAnn))
  | _ => none
def l15Ranks_G : List (Nat × Ctr) := [(42, ⟨[], l15Power_ct⟩), (53, ⟨[], l15Tuple_ct⟩), (52, ⟨[], l15Tuples_ct⟩), (68, ⟨[], l15Rank_ct⟩)]
def l15Ranks_V (t : List (List Int)) (p : Int) (k : Int) : Prop :=
  ((∃ x0 : Nat, (((x0 ≤ List.length t ^ Int.toNat k) ∧
  (k = (0 : Int) → x0 = (0 : Nat))) ∧
  ((t = t) ∧
  ((p = p) ∧
  ((k = k) ∧
  (((0 : Int) = (↑x0 : Int)) ∧
  ([] = Go.Sx.rkR t p (Int.toNat k) Bool.false x0))))))) ∧
  (∀ x1 : Nat, (((x1 ≤ List.length t ^ Int.toNat k) ∧
  (k = (0 : Int) → x1 = (0 : Nat))) →
  (BrP (Decidable.decide ((0 : Int) < k))
    (((((1 : Int) ≤ (↑(List.length t) : Int)) ∧
    (((↑(List.length t) : Int) ≤ (12 : Int)) ∧
    (((0 : Int) ≤ k) ∧
    (k ≤ (1000 : Int))))) ∧
    (True)) ∧
    (BrP (Decidable.decide ((↑x1 : Int) < if (↑(List.length t) : Int) ^ Int.toNat k ≤ (512 : Int) then (↑(List.length t) : Int) ^ Int.toNat k else (513 : Int)))
      (((((1 : Int) ≤ (↑(List.length t) : Int)) ∧
      (((0 : Int) ≤ k) ∧
      ((k ≤ (1000 : Int)) ∧
      (((0 : Int) ≤ (↑x1 : Int)) ∧
      ((↑x1 : Int) ≤ (1000000 : Int)))))) ∧
      (True)) ∧
      ((((Go.Sx.bdOk t p (Go.Sx.digN (↑(List.length t) : Int) (Int.toNat k) (↑x1 : Int))) ∧
      ((1 : Nat) ≤ List.length (Go.Sx.digN (↑(List.length t) : Int) (Int.toNat k) (↑x1 : Int)))) ∧
      (True)) ∧
      ((Go.Sx.room (List.length (Go.Sx.rkR t p (Int.toNat k) Bool.false x1) + List.length [Go.Sx.ptF t p (Go.Sx.digN (↑(List.length t) : Int) (Int.toNat k) (↑x1 : Int)) (List.length (Go.Sx.digN (↑(List.length t) : Int) (Int.toNat k) (↑x1 : Int)))])) ∧
      ((Go.Sx.InR ((↑x1 : Int) + (1 : Int))) ∧
      (∃ x2 : Nat, (((x2 ≤ List.length t ^ Int.toNat k) ∧
      (k = (0 : Int) → x2 = (0 : Nat))) ∧
      ((List.length t ^ Int.toNat k - x2 < List.length t ^ Int.toNat k - x1) ∧
      ((t = t) ∧
      ((p = p) ∧
      ((k = k) ∧
      (((↑x1 : Int) + (1 : Int) = (↑x2 : Int)) ∧
      (Go.Sx.rkR t p (Int.toNat k) Bool.false x1 ++ [Go.Sx.ptF t p (Go.Sx.digN (↑(List.length t) : Int) (Int.toNat k) (↑x1 : Int)) (List.length (Go.Sx.digN (↑(List.length t) : Int) (Int.toNat k) (↑x1 : Int)))] = Go.Sx.rkR t p (Int.toNat k) Bool.false x2))))))))))))
      ((((Go.Sx.primeB p = Bool.true) ∧
      ((∃ (N : Nat), Go.Sx.rwsP p N (Go.Sx.rkR t p (Int.toNat k) Bool.false x1) ∧ (1 : Nat) ≤ N ∧ N ≤ (512 : Nat)) ∧
      (List.length (Go.Sx.rkR t p (Int.toNat k) Bool.false x1) ≤ (512 : Nat)))) ∧
      (True)) ∧
      (((↑(List.length (Prod.fst (Go.Sx.spN p (Go.Sx.rkR t p (Int.toNat k) Bool.false x1) (List.length (Go.Sx.rkR t p (Int.toNat k) Bool.false x1))))) : Int) = Go.Sx.brV t p k Bool.false) ∧
      (True)))))
    ((((Go.Sx.primeB p = Bool.true) ∧
    ((∃ (N : Nat), Go.Sx.rwsP p N (Go.Sx.rkR t p (Int.toNat k) Bool.false x1) ∧ (1 : Nat) ≤ N ∧ N ≤ (512 : Nat)) ∧
    (List.length (Go.Sx.rkR t p (Int.toNat k) Bool.false x1) ≤ (512 : Nat)))) ∧
    (True)) ∧
    (((↑(List.length (Prod.fst (Go.Sx.spN p (Go.Sx.rkR t p (Int.toNat k) Bool.false x1) (List.length (Go.Sx.rkR t p (Int.toNat k) Bool.false x1))))) : Int) = Go.Sx.brV t p k Bool.false) ∧
    (True)))))))
theorem l15Ranks_vc (t : List (List Int)) (p : Int) (k : Int) : runF Try.prog (gam l15Ranks_G) noWr (l15Ranks_ann t p k) Try.f36 (bodyOf Try.f36) [] [.c (.rows .i64 (t)), .c (.int .i64 (p)), .c (.int .i64 (k))] (l15Ranks_p t p k) = l15Ranks_V t p k := by kernel_rfl
theorem l15Ranks_ok (t : List (List Int)) (p : Int) (k : Int) (hpre : (l15Ranks_p t p k).pre) : l15Ranks_V t p k := by
  simp only [l15Ranks_p, l15Ranks_V, BrP_iff, true_and, and_true, decide_eq_true_eq, decide_eq_false_iff_not, bne_iff_ne, beq_iff_eq, bne_eq_false_iff_eq, beq_eq_false_iff_ne, Bool.not_eq_true, Bool.not_eq_false, Bool.not_true, Bool.not_false, Bool.not_eq_eq_eq_not, Int.toNat_natCast, List.length_append, List.length_take, List.length_replicate, List.length_set, List.length_map, List.length_drop, List.length_nil, List.length_cons, markL_length, inB, InR, room, bdsOk] at hpre ⊢
  obtain ⟨h1, hp, hd⟩ := hpre
  obtain ⟨p2, p7⟩ := primeB_le hp
  obtain ⟨n1, n2, ht⟩ := tabB_of h1
  obtain ⟨k0, k1, N1, eN, N2⟩ := rk_facts h1 hd
  refine ⟨⟨0, ⟨Nat.zero_le _, fun _ => rfl⟩, rfl, rfl⟩, fun i ⟨hi, h0⟩ => ⟨fun hk => ?_, fun hk => ?_⟩⟩
  · obtain ⟨d1, d2, _, _, d5⟩ := deg_sub h1 (show 1 ≤ k by omega) hd
    have eM : (t.length : Int) ^ (k.toNat - 1) = ((t.length ^ (k.toNat - 1) : Nat) : Int) := (Int.natCast_pow _ _).symm
    have d3 := d2
    rw [eM] at d3
    have RK := rkR_ok (t := t) (k := k.toNat) (q := false) p2 i
    rw [eN, if_pos (by omega), digN_length]
    refine ⟨by omega, fun h => ?_, fun h => ?_⟩
    · have hx : bdOk t p (digN t.length k.toNat (i : Int)) := dig_ok h1 p2 p7 (by omega) d2 (by omega)
      refine ⟨by omega, ⟨hx, by omega⟩, by omega, by omega, i + 1, ⟨by omega, by omega⟩, by omega, by omega, ?_⟩
      rw [rkR, if_neg (by simp), rowQ, if_neg (by simp)]
    · have e : i = t.length ^ k.toNat := by omega
      have MM : 1 ≤ t.length ^ (k.toNat - 1) := Nat.pow_pos (by omega)
      refine ⟨⟨hp, ⟨_, RK.2, MM, by omega⟩, by omega⟩, ?_⟩
      rw [rank_eq hp RK.2 _ (Nat.le_refl _), brV, if_neg (by omega), rkA, e]
  · have hk : k = 0 := by omega
    have e : i = 0 := h0 hk
    subst e
    refine ⟨⟨hp, ⟨1, fun j hj => by simp [rkR] at hj, by omega, by omega⟩, by simp [rkR]⟩, ?_⟩
    rw [brV, if_pos hk]; rfl
theorem l15Ranks_fits : Fits Try.prog 36 ⟨[], l15Ranks_ct⟩ := by
  refine fits_fn (Γ := gam l15Ranks_G) (gok_cons l15Power_fits (gok_cons l15Tuple_fits (gok_cons l15Tuples_fits (gok_cons l15Rank_fits gok_nil)))) Try.func36 (by kernel_rfl) (by kernel_rfl) (by kernel_rfl) fun ds p h hp => ?_
  unfold l15Ranks_ct at h
  split at h
  · cases h
    exact ⟨noWr, l15Ranks_ann _ _ _ , by rw [l15Ranks_vc]; exact l15Ranks_ok _ _ _  hp⟩
  · cases h

/-- How many of the first i tuples are not flat. -/
def cnN (n : Int) (k : Nat) : Nat → Nat
  | 0 => 0
  | i + 1 => if flB (digN n k (i : Int)) = true then cnN n k i else cnN n k i + 1
theorem cnN_le (n : Int) (k : Nat) : ∀ i, cnN n k i ≤ i
  | 0 => Nat.le_refl _
  | i + 1 => by
    have := cnN_le n k i
    simp only [cnN]
    split <;> omega
def cnV (t : List (List Int)) (k : Int) : Int := (cnN (t.length : Int) k.toNat (t.length ^ k.toNat) : Nat)

def l15Quandle_p (t : List (List Int)) (p : Int) (k : Int) : Post := ⟨tabB t = true ∧ primeB p = true ∧ degB (t.length : Int) k = true, .tup [.inl (.int .i64 (cnV t k)), .inl (.int .i64 (brV t p k true))], []⟩
def l15Quandle_ct : List AD → Option Post
  | [.c (.rows .i64 (t)), .c (.int .i64 (p)), .c (.int .i64 (k))] => some (l15Quandle_p t p k)
  | _ => none
def l15Quandle_ann (t : List (List Int)) (p : Int) (k : Int) : Nat → Option Ann
  | 0 => some (Ann.mk ((Nat)) (fun i => ⟨[(0, .c (.ro (.rows .i64 (t)))), (1, .c (.int .i64 (p))), (2, .c (.int .i64 (k))), (8, .c (.int .i64 ((t.length : Int)))), (9, .c (.int .i64 (((cnN (t.length : Int) k.toNat i : Nat) : Int)))), (10, .c (.own (100))), (11, .c (.int .i64 ((i : Int))))], [(100, some (.rows 0 22 2 .i64 (if k = 0 then [] else rkR t p k.toNat true i)))]⟩) (fun i => i ≤ t.length ^ k.toNat) (fun i => t.length ^ k.toNat - i) (fun _ => noAnn))
  | _ => none
def l15Quandle_G : List (Nat × Ctr) := [(42, ⟨[], l15Power_ct⟩), (53, ⟨[], l15Tuple_ct⟩), (74, ⟨[], l15Flat_ct⟩), (52, ⟨[], l15Tuples_ct⟩), (75, ⟨[], l15Clear_ct⟩), (68, ⟨[], l15Rank_ct⟩)]
def l15Quandle_V (t : List (List Int)) (p : Int) (k : Int) : Prop :=
  ((∃ x0 : Nat, ((x0 ≤ List.length t ^ Int.toNat k) ∧
  ((t = t) ∧
  ((p = p) ∧
  ((k = k) ∧
  (((↑(List.length t) : Int) = (↑(List.length t) : Int)) ∧
  (((0 : Int) = (↑(Go.Sx.cnN (↑(List.length t) : Int) (Int.toNat k) x0) : Int)) ∧
  (((0 : Int) = (↑x0 : Int)) ∧
  ([] = if k = (0 : Int) then [] else Go.Sx.rkR t p (Int.toNat k) Bool.true x0))))))))) ∧
  (∀ x1 : Nat, ((x1 ≤ List.length t ^ Int.toNat k) →
  (((((1 : Int) ≤ (↑(List.length t) : Int)) ∧
  (((↑(List.length t) : Int) ≤ (12 : Int)) ∧
  (((0 : Int) ≤ k) ∧
  (k ≤ (1000 : Int))))) ∧
  (True)) ∧
  (BrP (Decidable.decide ((↑x1 : Int) < if (↑(List.length t) : Int) ^ Int.toNat k ≤ (512 : Int) then (↑(List.length t) : Int) ^ Int.toNat k else (513 : Int)))
    (((((1 : Int) ≤ (↑(List.length t) : Int)) ∧
    (((0 : Int) ≤ k) ∧
    ((k ≤ (1000 : Int)) ∧
    (((0 : Int) ≤ (↑x1 : Int)) ∧
    ((↑x1 : Int) ≤ (1000000 : Int)))))) ∧
    (True)) ∧
    (((List.length (Go.Sx.digN (↑(List.length t) : Int) (Int.toNat k) (↑x1 : Int)) ≤ (1000 : Nat)) ∧
    (True)) ∧
    (BrP (Go.Sx.flB (Go.Sx.digN (↑(List.length t) : Int) (Int.toNat k) (↑x1 : Int)))
      ((Go.Sx.InR ((↑x1 : Int) + (1 : Int))) ∧
      (∃ x2 : Nat, ((x2 ≤ List.length t ^ Int.toNat k) ∧
      ((List.length t ^ Int.toNat k - x2 < List.length t ^ Int.toNat k - x1) ∧
      ((t = t) ∧
      ((p = p) ∧
      ((k = k) ∧
      (((↑(List.length t) : Int) = (↑(List.length t) : Int)) ∧
      (((↑(Go.Sx.cnN (↑(List.length t) : Int) (Int.toNat k) x1) : Int) = (↑(Go.Sx.cnN (↑(List.length t) : Int) (Int.toNat k) x2) : Int)) ∧
      (((↑x1 : Int) + (1 : Int) = (↑x2 : Int)) ∧
      ((if k = (0 : Int) then [] else Go.Sx.rkR t p (Int.toNat k) Bool.true x1) = if k = (0 : Int) then [] else Go.Sx.rkR t p (Int.toNat k) Bool.true x2)))))))))))
      ((Go.Sx.InR ((↑(Go.Sx.cnN (↑(List.length t) : Int) (Int.toNat k) x1) : Int) + (1 : Int))) ∧
      (BrP (Decidable.decide ((0 : Int) < k))
        ((Go.Sx.InR (k - (1 : Int))) ∧
        ((((Go.Sx.bdOk t p (Go.Sx.digN (↑(List.length t) : Int) (Int.toNat k) (↑x1 : Int))) ∧
        ((1 : Nat) ≤ List.length (Go.Sx.digN (↑(List.length t) : Int) (Int.toNat k) (↑x1 : Int)))) ∧
        (True)) ∧
        (((((1 : Int) ≤ (↑(List.length t) : Int)) ∧
        (((0 : Int) ≤ k - (1 : Int)) ∧
        ((k - (1 : Int) ≤ (1000 : Int)) ∧
        (List.length (Go.Sx.ptF t p (Go.Sx.digN (↑(List.length t) : Int) (Int.toNat k) (↑x1 : Int)) (List.length (Go.Sx.digN (↑(List.length t) : Int) (Int.toNat k) (↑x1 : Int)))) ≤ (1000000 : Nat))))) ∧
        (True)) ∧
        ((Go.Sx.room (List.length (if k = (0 : Int) then [] else Go.Sx.rkR t p (Int.toNat k) Bool.true x1) + List.length [Go.Sx.clrN (↑(List.length t) : Int) (k - (1 : Int)) (Go.Sx.ptF t p (Go.Sx.digN (↑(List.length t) : Int) (Int.toNat k) (↑x1 : Int)) (List.length (Go.Sx.digN (↑(List.length t) : Int) (Int.toNat k) (↑x1 : Int)))) (List.length (Go.Sx.ptF t p (Go.Sx.digN (↑(List.length t) : Int) (Int.toNat k) (↑x1 : Int)) (List.length (Go.Sx.digN (↑(List.length t) : Int) (Int.toNat k) (↑x1 : Int)))))])) ∧
        ((Go.Sx.InR ((↑x1 : Int) + (1 : Int))) ∧
        (∃ x3 : Nat, ((x3 ≤ List.length t ^ Int.toNat k) ∧
        ((List.length t ^ Int.toNat k - x3 < List.length t ^ Int.toNat k - x1) ∧
        ((t = t) ∧
        ((p = p) ∧
        ((k = k) ∧
        (((↑(List.length t) : Int) = (↑(List.length t) : Int)) ∧
        (((↑(Go.Sx.cnN (↑(List.length t) : Int) (Int.toNat k) x1) : Int) + (1 : Int) = (↑(Go.Sx.cnN (↑(List.length t) : Int) (Int.toNat k) x3) : Int)) ∧
        (((↑x1 : Int) + (1 : Int) = (↑x3 : Int)) ∧
        ((if k = (0 : Int) then [] else Go.Sx.rkR t p (Int.toNat k) Bool.true x1) ++ [Go.Sx.clrN (↑(List.length t) : Int) (k - (1 : Int)) (Go.Sx.ptF t p (Go.Sx.digN (↑(List.length t) : Int) (Int.toNat k) (↑x1 : Int)) (List.length (Go.Sx.digN (↑(List.length t) : Int) (Int.toNat k) (↑x1 : Int)))) (List.length (Go.Sx.ptF t p (Go.Sx.digN (↑(List.length t) : Int) (Int.toNat k) (↑x1 : Int)) (List.length (Go.Sx.digN (↑(List.length t) : Int) (Int.toNat k) (↑x1 : Int)))))] = if k = (0 : Int) then [] else Go.Sx.rkR t p (Int.toNat k) Bool.true x3)))))))))))))))
        ((Go.Sx.InR ((↑x1 : Int) + (1 : Int))) ∧
        (∃ x4 : Nat, ((x4 ≤ List.length t ^ Int.toNat k) ∧
        ((List.length t ^ Int.toNat k - x4 < List.length t ^ Int.toNat k - x1) ∧
        ((t = t) ∧
        ((p = p) ∧
        ((k = k) ∧
        (((↑(List.length t) : Int) = (↑(List.length t) : Int)) ∧
        (((↑(Go.Sx.cnN (↑(List.length t) : Int) (Int.toNat k) x1) : Int) + (1 : Int) = (↑(Go.Sx.cnN (↑(List.length t) : Int) (Int.toNat k) x4) : Int)) ∧
        (((↑x1 : Int) + (1 : Int) = (↑x4 : Int)) ∧
        ((if k = (0 : Int) then [] else Go.Sx.rkR t p (Int.toNat k) Bool.true x1) = if k = (0 : Int) then [] else Go.Sx.rkR t p (Int.toNat k) Bool.true x4))))))))))))))))
    ((((Go.Sx.primeB p = Bool.true) ∧
    ((∃ (N : Nat), Go.Sx.rwsP p N (if k = (0 : Int) then [] else Go.Sx.rkR t p (Int.toNat k) Bool.true x1) ∧ (1 : Nat) ≤ N ∧ N ≤ (512 : Nat)) ∧
    (List.length (if k = (0 : Int) then [] else Go.Sx.rkR t p (Int.toNat k) Bool.true x1) ≤ (512 : Nat)))) ∧
    (True)) ∧
    ((((↑(Go.Sx.cnN (↑(List.length t) : Int) (Int.toNat k) x1) : Int) = Go.Sx.cnV t k) ∧
    (((↑(List.length (Prod.fst (Go.Sx.spN p (if k = (0 : Int) then [] else Go.Sx.rkR t p (Int.toNat k) Bool.true x1) (List.length (if k = (0 : Int) then [] else Go.Sx.rkR t p (Int.toNat k) Bool.true x1))))) : Int) = Go.Sx.brV t p k Bool.true) ∧
    (True))) ∧
    (True))))))))
theorem l15Quandle_vc (t : List (List Int)) (p : Int) (k : Int) : runF Try.prog (gam l15Quandle_G) noWr (l15Quandle_ann t p k) Try.f46 (bodyOf Try.f46) [] [.c (.rows .i64 (t)), .c (.int .i64 (p)), .c (.int .i64 (k))] (l15Quandle_p t p k) = l15Quandle_V t p k := by kernel_rfl
theorem l15Quandle_ok (t : List (List Int)) (p : Int) (k : Int) (hpre : (l15Quandle_p t p k).pre) : l15Quandle_V t p k := by
  simp only [l15Quandle_p, l15Quandle_V, BrP_iff, true_and, and_true, decide_eq_true_eq, decide_eq_false_iff_not, bne_iff_ne, beq_iff_eq, bne_eq_false_iff_eq, beq_eq_false_iff_ne, Bool.not_eq_true, Bool.not_eq_false, Bool.not_true, Bool.not_false, Bool.not_eq_eq_eq_not, Int.toNat_natCast, List.length_append, List.length_take, List.length_replicate, List.length_set, List.length_map, List.length_drop, List.length_nil, List.length_cons, markL_length, inB, InR, room, bdsOk] at hpre ⊢
  obtain ⟨h1, hp, hd⟩ := hpre
  obtain ⟨p2, p7⟩ := primeB_le hp
  obtain ⟨n1, n2, ht⟩ := tabB_of h1
  obtain ⟨k0, k1, N1, eN, N2⟩ := rk_facts h1 hd
  refine ⟨⟨0, Nat.zero_le _, rfl, rfl, by simp [rkR]⟩, fun i hi => ?_⟩
  have CL := cnN_le (t.length : Int) k.toNat i
  rw [eN, if_pos (by omega), digN_length]
  refine ⟨by omega, fun h => ⟨by omega, by omega, fun hf => ⟨by omega, i + 1, by omega, by omega, by rw [cnN, if_pos hf], by omega, by rw [show rkR t p k.toNat true (i + 1) = rkR t p k.toNat true i by rw [rkR, if_pos ⟨rfl, hf⟩]]⟩, fun hf => ⟨by omega, fun hk => ?_, fun hk => ⟨by omega, i + 1, by omega, by omega, by rw [cnN, if_neg (by rw [hf]; decide)]; omega, by omega, by rw [if_pos (by omega), if_pos (by omega)]⟩⟩⟩, fun h => ?_⟩
  · obtain ⟨d1, d2, _, _, d5⟩ := deg_sub h1 (show 1 ≤ k by omega) hd
    have eM : (t.length : Int) ^ (k.toNat - 1) = ((t.length ^ (k.toNat - 1) : Nat) : Int) := (Int.natCast_pow _ _).symm
    have d3 := d2
    rw [eM] at d3
    have hx : bdOk t p (digN t.length k.toNat (i : Int)) := dig_ok h1 p2 p7 (by omega) d2 (by omega)
    have RK := rkR_ok (t := t) (k := k.toNat) (q := true) p2 i
    have kc : ((k.toNat : Nat) : Int) = k := by omega
    rw [ptF_length, digN_length, if_neg (by omega)]
    refine ⟨by omega, ⟨hx, by omega⟩, ⟨by omega, by omega, by omega, by omega⟩, by omega, by omega, i + 1, by omega, by omega, by rw [cnN, if_neg (by rw [hf]; decide)]; omega, by omega, ?_⟩
    rw [if_neg (by omega), rkR, if_neg (by rw [hf]; simp), rowQ, if_pos rfl, kc, ptF_length, digN_length]
  · have e : i = t.length ^ k.toNat := by omega
    by_cases hk : k = 0
    · rw [if_pos hk]
      refine ⟨⟨hp, ⟨1, fun j hj => by simp at hj, by omega, by omega⟩, by simp⟩, by rw [cnV, e], ?_⟩
      rw [brV, if_pos hk]; rfl
    · rw [if_neg hk]
      obtain ⟨d1, d2, _, _, d5⟩ := deg_sub h1 (show 1 ≤ k by omega) hd
      have eM : (t.length : Int) ^ (k.toNat - 1) = ((t.length ^ (k.toNat - 1) : Nat) : Int) := (Int.natCast_pow _ _).symm
      rw [eM] at d2
      have RK := rkR_ok (t := t) (k := k.toNat) (q := true) p2 i
      have MM : 1 ≤ t.length ^ (k.toNat - 1) := Nat.pow_pos (by omega)
      refine ⟨⟨hp, ⟨_, RK.2, MM, by omega⟩, by omega⟩, by rw [cnV, e], ?_⟩
      rw [rank_eq hp RK.2 _ (Nat.le_refl _), brV, if_neg hk, rkA, e]
theorem l15Quandle_fits : Fits Try.prog 46 ⟨[], l15Quandle_ct⟩ := by
  refine fits_fn (Γ := gam l15Quandle_G) (gok_cons l15Power_fits (gok_cons l15Tuple_fits (gok_cons l15Flat_fits (gok_cons l15Tuples_fits (gok_cons l15Clear_fits (gok_cons l15Rank_fits gok_nil)))))) Try.func46 (by kernel_rfl) (by kernel_rfl) (by kernel_rfl) fun ds p h hp => ?_
  unfold l15Quandle_ct at h
  split at h
  · cases h
    exact ⟨noWr, l15Quandle_ann _ _ _ , by rw [l15Quandle_vc]; exact l15Quandle_ok _ _ _  hp⟩
  · cases h

def brC (t : List (List Int)) (p k : Int) : Int × Int := if dgC t p k = 0 then (brV t p k false, 0) else (0, dgC t p k)

def iBR_p (t : List (List Int)) (p : Int) (k : Int) : Post := ⟨roomR t, .tup [.inl (.int .i64 ((brC t p k).1)), .inl (.int .i64 ((brC t p k).2))], []⟩
def iBR_ct : List AD → Option Post
  | [.agg [.rows .i64 (t)], .c (.int .i64 (p)), .c (.int .i64 (k))] => some (iBR_p t p k)
  | _ => none
def iBR_G : List (Nat × Ctr) := [(38, ⟨[], checkDegree_ct⟩), (39, ⟨[], boundaryRank_ct⟩)]
def iBR_V (t : List (List Int)) (p : Int) (k : Int) : Prop :=
  (((Go.Sx.roomR t) ∧
  (True)) ∧
  (BrP (Go.Sx.dgC t p k != (0 : Int))
    ((((0 : Int) = Prod.fst (Go.Sx.brC t p k)) ∧
    ((Go.Sx.dgC t p k = Prod.snd (Go.Sx.brC t p k)) ∧
    (True))) ∧
    (True))
    ((((Go.Sx.tabB t = Bool.true) ∧
    ((Go.Sx.primeB p = Bool.true) ∧
    (Go.Sx.degB (↑(List.length t) : Int) k = Bool.true))) ∧
    (True)) ∧
    (((Go.Sx.brV t p k Bool.false = Prod.fst (Go.Sx.brC t p k)) ∧
    (((0 : Int) = Prod.snd (Go.Sx.brC t p k)) ∧
    (True))) ∧
    (True)))))
theorem iBR_vc (t : List (List Int)) (p : Int) (k : Int) : runF Try.prog (gam iBR_G) noWr noAnn Try.f16 (bodyOf Try.f16) [] [.agg [.rows .i64 (t)], .c (.int .i64 (p)), .c (.int .i64 (k))] (iBR_p t p k) = iBR_V t p k := by kernel_rfl
theorem iBR_ok (t : List (List Int)) (p : Int) (k : Int) (hpre : (iBR_p t p k).pre) : iBR_V t p k := by
  simp only [iBR_p, iBR_V, BrP_iff, true_and, and_true, decide_eq_true_eq, decide_eq_false_iff_not, bne_iff_ne, beq_iff_eq, bne_eq_false_iff_eq, beq_eq_false_iff_ne, Bool.not_eq_true, Bool.not_eq_false, Bool.not_true, Bool.not_false, Bool.not_eq_eq_eq_not, Int.toNat_natCast, List.length_append, List.length_take, List.length_replicate, List.length_set, List.length_map, List.length_drop, List.length_nil, List.length_cons, markL_length, inB, InR, room, bdsOk] at hpre ⊢
  refine ⟨hpre, fun h => by rw [brC, if_neg h]; exact ⟨rfl, rfl⟩, fun h => ?_⟩
  obtain ⟨h1, h2, h3, _⟩ := dgC_ok h
  rw [brC, if_pos h]
  exact ⟨⟨rackB_tab h1, h2, h3⟩, rfl, rfl⟩
theorem iBR_fits : Fits Try.prog 16 ⟨[], iBR_ct⟩ := by
  refine fits_fn (Γ := gam iBR_G) (gok_cons checkDegree_fits (gok_cons boundaryRank_fits gok_nil)) Try.func16 (by kernel_rfl) (by kernel_rfl) (by kernel_rfl) fun ds p h hp => ?_
  unfold iBR_ct at h
  split at h
  · cases h
    exact ⟨noWr, noAnn, by rw [iBR_vc]; exact iBR_ok _ _ _  hp⟩
  · cases h

def sBR_p (t : List (List Int)) (p : Int) (k : Int) : Post := ⟨roomR t, .tup [.inl (.int .i64 ((brC t p k).1)), .inl (.int .i64 ((brC t p k).2))], []⟩
def sBR_ct : List AD → Option Post
  | [.agg [.rows .i64 (t)], .c (.int .i64 (p)), .c (.int .i64 (k))] => some (sBR_p t p k)
  | _ => none
def sBR_G : List (Nat × Ctr) := [(35, ⟨[], l15Code_ct⟩), (36, ⟨[], l15Ranks_ct⟩)]
def sBR_V (t : List (List Int)) (p : Int) (k : Int) : Prop :=
  (((Go.Sx.roomR t) ∧
  (True)) ∧
  (BrP (Go.Sx.dgC t p k != (0 : Int))
    ((((0 : Int) = Prod.fst (Go.Sx.brC t p k)) ∧
    ((Go.Sx.dgC t p k = Prod.snd (Go.Sx.brC t p k)) ∧
    (True))) ∧
    (True))
    ((((Go.Sx.tabB t = Bool.true) ∧
    ((Go.Sx.primeB p = Bool.true) ∧
    (Go.Sx.degB (↑(List.length t) : Int) k = Bool.true))) ∧
    (True)) ∧
    (((Go.Sx.brV t p k Bool.false = Prod.fst (Go.Sx.brC t p k)) ∧
    (((0 : Int) = Prod.snd (Go.Sx.brC t p k)) ∧
    (True))) ∧
    (True)))))
theorem sBR_vc (t : List (List Int)) (p : Int) (k : Int) : runF Try.prog (gam sBR_G) noWr noAnn Try.f14 (bodyOf Try.f14) [] [.agg [.rows .i64 (t)], .c (.int .i64 (p)), .c (.int .i64 (k))] (sBR_p t p k) = sBR_V t p k := by kernel_rfl
theorem sBR_ok (t : List (List Int)) (p : Int) (k : Int) (hpre : (sBR_p t p k).pre) : sBR_V t p k := by
  simp only [sBR_p, sBR_V, BrP_iff, true_and, and_true, decide_eq_true_eq, decide_eq_false_iff_not, bne_iff_ne, beq_iff_eq, bne_eq_false_iff_eq, beq_eq_false_iff_ne, Bool.not_eq_true, Bool.not_eq_false, Bool.not_true, Bool.not_false, Bool.not_eq_eq_eq_not, Int.toNat_natCast, List.length_append, List.length_take, List.length_replicate, List.length_set, List.length_map, List.length_drop, List.length_nil, List.length_cons, markL_length, inB, InR, room, bdsOk] at hpre ⊢
  refine ⟨hpre, fun h => by rw [brC, if_neg h]; exact ⟨rfl, rfl⟩, fun h => ?_⟩
  obtain ⟨h1, h2, h3, _⟩ := dgC_ok h
  rw [brC, if_pos h]
  exact ⟨⟨rackB_tab h1, h2, h3⟩, rfl, rfl⟩
theorem sBR_fits : Fits Try.prog 14 ⟨[], sBR_ct⟩ := by
  refine fits_fn (Γ := gam sBR_G) (gok_cons l15Code_fits (gok_cons l15Ranks_fits gok_nil)) Try.func14 (by kernel_rfl) (by kernel_rfl) (by kernel_rfl) fun ds p h hp => ?_
  unfold sBR_ct at h
  split at h
  · cases h
    exact ⟨noWr, noAnn, by rw [sBR_vc]; exact sBR_ok _ _ _  hp⟩
  · cases h

def rbtC (t : List (List Int)) (p k : Int) : Int × Int :=
  if dgC t p k = 0 then (if degB (t.length : Int) (k + 1) = true then (((t.length ^ k.toNat : Nat) : Int) - brV t p k false - brV t p (k + 1) false, 0) else (0, 3)) else (0, dgC t p k)

def iRkB_p (t : List (List Int)) (p : Int) (k : Int) : Post := ⟨roomR t, .tup [.inl (.int .i64 ((rbtC t p k).1)), .inl (.int .i64 ((rbtC t p k).2))], []⟩
def iRkB_ct : List AD → Option Post
  | [.agg [.rows .i64 (t)], .c (.int .i64 (p)), .c (.int .i64 (k))] => some (iRkB_p t p k)
  | _ => none
def iRkB_G : List (Nat × Ctr) := [(38, ⟨[], checkDegree_ct⟩), (43, ⟨[], isDegree_ct⟩), (44, ⟨[], tuplesOf_ct⟩), (39, ⟨[], boundaryRank_ct⟩)]
def iRkB_V (t : List (List Int)) (p : Int) (k : Int) : Prop :=
  (((Go.Sx.roomR t) ∧
  (True)) ∧
  (BrP (Go.Sx.dgC t p k != (0 : Int))
    ((((0 : Int) = Prod.fst (Go.Sx.rbtC t p k)) ∧
    ((Go.Sx.dgC t p k = Prod.snd (Go.Sx.rbtC t p k)) ∧
    (True))) ∧
    (True))
    ((Go.Sx.InR (k + (1 : Int))) ∧
    (((((1 : Int) ≤ (↑(List.length t) : Int)) ∧
    ((↑(List.length t) : Int) ≤ (12 : Int))) ∧
    (True)) ∧
    (BrP (!Go.Sx.degB (↑(List.length t) : Int) (k + (1 : Int)))
      ((((0 : Int) = Prod.fst (Go.Sx.rbtC t p k)) ∧
      (((3 : Int) = Prod.snd (Go.Sx.rbtC t p k)) ∧
      (True))) ∧
      (True))
      (((((1 : Int) ≤ (↑(List.length t) : Int)) ∧
      (((↑(List.length t) : Int) ≤ (12 : Int)) ∧
      (Go.Sx.degB (↑(List.length t) : Int) k = Bool.true))) ∧
      (True)) ∧
      ((((Go.Sx.tabB t = Bool.true) ∧
      ((Go.Sx.primeB p = Bool.true) ∧
      (Go.Sx.degB (↑(List.length t) : Int) k = Bool.true))) ∧
      (True)) ∧
      ((Go.Sx.InR ((↑(List.length t) : Int) ^ Int.toNat k - Go.Sx.brV t p k Bool.false)) ∧
      ((Go.Sx.InR (k + (1 : Int))) ∧
      ((((Go.Sx.tabB t = Bool.true) ∧
      ((Go.Sx.primeB p = Bool.true) ∧
      (Go.Sx.degB (↑(List.length t) : Int) (k + (1 : Int)) = Bool.true))) ∧
      (True)) ∧
      ((Go.Sx.InR ((↑(List.length t) : Int) ^ Int.toNat k - Go.Sx.brV t p k Bool.false - Go.Sx.brV t p (k + (1 : Int)) Bool.false)) ∧
      ((((↑(List.length t) : Int) ^ Int.toNat k - Go.Sx.brV t p k Bool.false - Go.Sx.brV t p (k + (1 : Int)) Bool.false = Prod.fst (Go.Sx.rbtC t p k)) ∧
      (((0 : Int) = Prod.snd (Go.Sx.rbtC t p k)) ∧
      (True))) ∧
      (True)))))))))))))
theorem iRkB_vc (t : List (List Int)) (p : Int) (k : Int) : runF Try.prog (gam iRkB_G) noWr noAnn Try.f19 (bodyOf Try.f19) [] [.agg [.rows .i64 (t)], .c (.int .i64 (p)), .c (.int .i64 (k))] (iRkB_p t p k) = iRkB_V t p k := by kernel_rfl
theorem iRkB_ok (t : List (List Int)) (p : Int) (k : Int) (hpre : (iRkB_p t p k).pre) : iRkB_V t p k := by
  simp only [iRkB_p, iRkB_V, BrP_iff, true_and, and_true, decide_eq_true_eq, decide_eq_false_iff_not, bne_iff_ne, beq_iff_eq, bne_eq_false_iff_eq, beq_eq_false_iff_ne, Bool.not_eq_true, Bool.not_eq_false, Bool.not_true, Bool.not_false, Bool.not_eq_eq_eq_not, Int.toNat_natCast, List.length_append, List.length_take, List.length_replicate, List.length_set, List.length_map, List.length_drop, List.length_nil, List.length_cons, markL_length, inB, InR, room, bdsOk] at hpre ⊢
  refine ⟨hpre, fun h => by rw [rbtC, if_neg h]; exact ⟨rfl, rfl⟩, fun h => ?_⟩
  obtain ⟨h1, hp, hd, _⟩ := dgC_ok h
  have hT := rackB_tab h1
  obtain ⟨n1, n2, ht⟩ := tabB_of hT
  obtain ⟨k0, k1, N1, eN, N2⟩ := rk_facts hT hd
  rw [rbtC, if_pos h, eN]
  refine ⟨by omega, by omega, fun h5 => by rw [if_neg (by rw [h5]; decide)]; exact ⟨rfl, rfl⟩, fun h5 => ?_⟩
  have b1 := brV_le (p := p) (q := false) hT hp hd
  have b2 := brV_le (p := p) (q := false) hT hp h5
  rw [if_pos h5]
  exact ⟨⟨by omega, by omega, hd⟩, ⟨hT, hp, hd⟩, by omega, by omega, ⟨hT, hp, h5⟩, by omega, rfl, rfl⟩
theorem iRkB_fits : Fits Try.prog 19 ⟨[], iRkB_ct⟩ := by
  refine fits_fn (Γ := gam iRkB_G) (gok_cons checkDegree_fits (gok_cons isDegree_fits (gok_cons tuplesOf_fits (gok_cons boundaryRank_fits gok_nil)))) Try.func19 (by kernel_rfl) (by kernel_rfl) (by kernel_rfl) fun ds p h hp => ?_
  unfold iRkB_ct at h
  split at h
  · cases h
    exact ⟨noWr, noAnn, by rw [iRkB_vc]; exact iRkB_ok _ _ _  hp⟩
  · cases h

def sRkB_p (t : List (List Int)) (p : Int) (k : Int) : Post := ⟨roomR t, .tup [.inl (.int .i64 ((rbtC t p k).1)), .inl (.int .i64 ((rbtC t p k).2))], []⟩
def sRkB_ct : List AD → Option Post
  | [.agg [.rows .i64 (t)], .c (.int .i64 (p)), .c (.int .i64 (k))] => some (sRkB_p t p k)
  | _ => none
def sRkB_G : List (Nat × Ctr) := [(35, ⟨[], l15Code_ct⟩), (41, ⟨[], l15Allowed_ct⟩), (42, ⟨[], l15Power_ct⟩), (36, ⟨[], l15Ranks_ct⟩)]
def sRkB_V (t : List (List Int)) (p : Int) (k : Int) : Prop :=
  (((Go.Sx.roomR t) ∧
  (True)) ∧
  (BrP (Go.Sx.dgC t p k == (0 : Int))
    ((Go.Sx.InR (k + (1 : Int))) ∧
    (((((1 : Int) ≤ (↑(List.length t) : Int)) ∧
    ((↑(List.length t) : Int) ≤ (12 : Int))) ∧
    (True)) ∧
    (BrP (!Go.Sx.degB (↑(List.length t) : Int) (k + (1 : Int)))
      ((((0 : Int) = Prod.fst (Go.Sx.rbtC t p k)) ∧
      (((3 : Int) = Prod.snd (Go.Sx.rbtC t p k)) ∧
      (True))) ∧
      (True))
      (BrP (Go.Sx.dgC t p k != (0 : Int))
        ((((0 : Int) = Prod.fst (Go.Sx.rbtC t p k)) ∧
        ((Go.Sx.dgC t p k = Prod.snd (Go.Sx.rbtC t p k)) ∧
        (True))) ∧
        (True))
        (((((1 : Int) ≤ (↑(List.length t) : Int)) ∧
        (((↑(List.length t) : Int) ≤ (12 : Int)) ∧
        (((0 : Int) ≤ k) ∧
        (k ≤ (1000 : Int))))) ∧
        (True)) ∧
        ((((Go.Sx.tabB t = Bool.true) ∧
        ((Go.Sx.primeB p = Bool.true) ∧
        (Go.Sx.degB (↑(List.length t) : Int) k = Bool.true))) ∧
        (True)) ∧
        ((Go.Sx.InR ((if (↑(List.length t) : Int) ^ Int.toNat k ≤ (512 : Int) then (↑(List.length t) : Int) ^ Int.toNat k else (513 : Int)) - Go.Sx.brV t p k Bool.false)) ∧
        ((Go.Sx.InR (k + (1 : Int))) ∧
        ((((Go.Sx.tabB t = Bool.true) ∧
        ((Go.Sx.primeB p = Bool.true) ∧
        (Go.Sx.degB (↑(List.length t) : Int) (k + (1 : Int)) = Bool.true))) ∧
        (True)) ∧
        ((Go.Sx.InR ((if (↑(List.length t) : Int) ^ Int.toNat k ≤ (512 : Int) then (↑(List.length t) : Int) ^ Int.toNat k else (513 : Int)) - Go.Sx.brV t p k Bool.false - Go.Sx.brV t p (k + (1 : Int)) Bool.false)) ∧
        ((((if (↑(List.length t) : Int) ^ Int.toNat k ≤ (512 : Int) then (↑(List.length t) : Int) ^ Int.toNat k else (513 : Int)) - Go.Sx.brV t p k Bool.false - Go.Sx.brV t p (k + (1 : Int)) Bool.false = Prod.fst (Go.Sx.rbtC t p k)) ∧
        (((0 : Int) = Prod.snd (Go.Sx.rbtC t p k)) ∧
        (True))) ∧
        (True))))))))))))
    (BrP (Go.Sx.dgC t p k != (0 : Int))
      ((((0 : Int) = Prod.fst (Go.Sx.rbtC t p k)) ∧
      ((Go.Sx.dgC t p k = Prod.snd (Go.Sx.rbtC t p k)) ∧
      (True))) ∧
      (True))
      (((((1 : Int) ≤ (↑(List.length t) : Int)) ∧
      (((↑(List.length t) : Int) ≤ (12 : Int)) ∧
      (((0 : Int) ≤ k) ∧
      (k ≤ (1000 : Int))))) ∧
      (True)) ∧
      ((((Go.Sx.tabB t = Bool.true) ∧
      ((Go.Sx.primeB p = Bool.true) ∧
      (Go.Sx.degB (↑(List.length t) : Int) k = Bool.true))) ∧
      (True)) ∧
      ((Go.Sx.InR ((if (↑(List.length t) : Int) ^ Int.toNat k ≤ (512 : Int) then (↑(List.length t) : Int) ^ Int.toNat k else (513 : Int)) - Go.Sx.brV t p k Bool.false)) ∧
      ((Go.Sx.InR (k + (1 : Int))) ∧
      ((((Go.Sx.tabB t = Bool.true) ∧
      ((Go.Sx.primeB p = Bool.true) ∧
      (Go.Sx.degB (↑(List.length t) : Int) (k + (1 : Int)) = Bool.true))) ∧
      (True)) ∧
      ((Go.Sx.InR ((if (↑(List.length t) : Int) ^ Int.toNat k ≤ (512 : Int) then (↑(List.length t) : Int) ^ Int.toNat k else (513 : Int)) - Go.Sx.brV t p k Bool.false - Go.Sx.brV t p (k + (1 : Int)) Bool.false)) ∧
      ((((if (↑(List.length t) : Int) ^ Int.toNat k ≤ (512 : Int) then (↑(List.length t) : Int) ^ Int.toNat k else (513 : Int)) - Go.Sx.brV t p k Bool.false - Go.Sx.brV t p (k + (1 : Int)) Bool.false = Prod.fst (Go.Sx.rbtC t p k)) ∧
      (((0 : Int) = Prod.snd (Go.Sx.rbtC t p k)) ∧
      (True))) ∧
      (True)))))))))))
theorem sRkB_vc (t : List (List Int)) (p : Int) (k : Int) : runF Try.prog (gam sRkB_G) noWr noAnn Try.f18 (bodyOf Try.f18) [] [.agg [.rows .i64 (t)], .c (.int .i64 (p)), .c (.int .i64 (k))] (sRkB_p t p k) = sRkB_V t p k := by kernel_rfl
theorem sRkB_ok (t : List (List Int)) (p : Int) (k : Int) (hpre : (sRkB_p t p k).pre) : sRkB_V t p k := by
  simp only [sRkB_p, sRkB_V, BrP_iff, true_and, and_true, decide_eq_true_eq, decide_eq_false_iff_not, bne_iff_ne, beq_iff_eq, bne_eq_false_iff_eq, beq_eq_false_iff_ne, Bool.not_eq_true, Bool.not_eq_false, Bool.not_true, Bool.not_false, Bool.not_eq_eq_eq_not, Int.toNat_natCast, List.length_append, List.length_take, List.length_replicate, List.length_set, List.length_map, List.length_drop, List.length_nil, List.length_cons, markL_length, inB, InR, room, bdsOk] at hpre ⊢
  refine ⟨hpre, fun h => ?_, fun h => ⟨fun _ => by rw [rbtC, if_neg h]; exact ⟨rfl, rfl⟩, fun c => absurd c h⟩⟩
  obtain ⟨h1, hp, hd, _⟩ := dgC_ok h
  have hT := rackB_tab h1
  obtain ⟨n1, n2, ht⟩ := tabB_of hT
  obtain ⟨k0, k1, N1, eN, N2⟩ := rk_facts hT hd
  rw [rbtC, if_pos h, eN, if_pos (show ((t.length ^ k.toNat : Nat) : Int) ≤ 512 by omega)]
  refine ⟨by omega, by omega, fun h5 => by rw [if_neg (by rw [h5]; decide)]; exact ⟨rfl, rfl⟩, fun h5 => ⟨fun c => absurd h c, fun _ => ?_⟩⟩
  have b1 := brV_le (p := p) (q := false) hT hp hd
  have b2 := brV_le (p := p) (q := false) hT hp h5
  rw [if_pos h5]
  exact ⟨by omega, ⟨hT, hp, hd⟩, by omega, by omega, ⟨hT, hp, h5⟩, by omega, rfl, rfl⟩
theorem sRkB_fits : Fits Try.prog 18 ⟨[], sRkB_ct⟩ := by
  refine fits_fn (Γ := gam sRkB_G) (gok_cons l15Code_fits (gok_cons l15Allowed_fits (gok_cons l15Power_fits (gok_cons l15Ranks_fits gok_nil)))) Try.func18 (by kernel_rfl) (by kernel_rfl) (by kernel_rfl) fun ds p h hp => ?_
  unfold sRkB_ct at h
  split at h
  · cases h
    exact ⟨noWr, noAnn, by rw [sRkB_vc]; exact sRkB_ok _ _ _  hp⟩
  · cases h

/-- The answer of QuandleBetti. -/
def qbtC (t : List (List Int)) (p k : Int) : Int × Int :=
  if dgC t p k = 0 then (if degB (t.length : Int) (k + 1) = true then (if qdB t = true then (cnV t k - brV t p k true - brV t p (k + 1) true, 0) else (0, 5)) else (0, 3)) else (0, dgC t p k)

theorem qbtC_no {t : List (List Int)} {p k : Int} (h : dgC t p k ≠ 0) : 0 = (qbtC t p k).1 ∧ dgC t p k = (qbtC t p k).2 := by
  rw [qbtC, if_neg h]; exact ⟨rfl, rfl⟩
theorem qbtC_3 {t : List (List Int)} {p k : Int} (h : dgC t p k = 0) (h2 : degB (t.length : Int) (k + 1) = false) : 0 = (qbtC t p k).1 ∧ 3 = (qbtC t p k).2 := by
  rw [qbtC, if_pos h, if_neg (by rw [h2]; decide)]; exact ⟨rfl, rfl⟩
theorem qbtC_5 {t : List (List Int)} {p k : Int} (h : dgC t p k = 0) (h2 : degB (t.length : Int) (k + 1) = true) (h3 : qdB t = false) : 0 = (qbtC t p k).1 ∧ 5 = (qbtC t p k).2 := by
  rw [qbtC, if_pos h, if_pos h2, if_neg (by rw [h3]; decide)]; exact ⟨rfl, rfl⟩
theorem qbtC_yes {t : List (List Int)} {p k : Int} (h : dgC t p k = 0) (h2 : degB (t.length : Int) (k + 1) = true) (h3 : qdB t = true) : cnV t k - brV t p k true - brV t p (k + 1) true = (qbtC t p k).1 ∧ 0 = (qbtC t p k).2 := by
  rw [qbtC, if_pos h, if_pos h2, if_pos h3]; exact ⟨rfl, rfl⟩

def iQ_p (t : List (List Int)) (p : Int) (k : Int) : Post := ⟨roomR t, .tup [.inl (.int .i64 ((qbtC t p k).1)), .inl (.int .i64 ((qbtC t p k).2))], []⟩
def iQ_ct : List AD → Option Post
  | [.agg [.rows .i64 (t)], .c (.int .i64 (p)), .c (.int .i64 (k))] => some (iQ_p t p k)
  | _ => none
def iQ_ann (t : List (List Int)) (p : Int) (k : Int) : Nat → Option Ann
  | 0 => some (Ann.mk ((Nat)) (fun i => ⟨[(3, .c (.ptr 3 0)), (1, .c (.int .i64 (p))), (2, .c (.int .i64 (k))), (9, .c (.int .i64 ((t.length : Int)))), (10, .c (.int .i64 (((cnN (t.length : Int) k.toNat i : Nat) : Int)))), (33, .c (.int .i64 (((t.length ^ k.toNat : Nat) : Int)))), (34, .c (.int .i64 ((i : Int))))], [(3, some (.box [.ro (.rows .i64 (t))]))]⟩) (fun i => i ≤ t.length ^ k.toNat ∧ dgC t p k = 0 ∧ degB (t.length : Int) (k + 1) = true ∧ qdB t = true) (fun i => t.length ^ k.toNat - i) (fun _ => noAnn))
  | _ => none
def iQ_G : List (Nat × Ctr) := [(38, ⟨[], checkDegree_ct⟩), (43, ⟨[], isDegree_ct⟩), (48, ⟨[], kinkOf_ct⟩), (47, ⟨[], isIdentity_ct⟩), (44, ⟨[], tuplesOf_ct⟩), (50, ⟨[], tupleOf_ct⟩), (49, ⟨[], isDegenerate_ct⟩), (39, ⟨[], boundaryRank_ct⟩)]
def iQ_V (t : List (List Int)) (p : Int) (k : Int) : Prop :=
  (((Go.Sx.roomR t) ∧
  (True)) ∧
  (BrP (Go.Sx.dgC t p k != (0 : Int))
    ((((0 : Int) = Prod.fst (Go.Sx.qbtC t p k)) ∧
    ((Go.Sx.dgC t p k = Prod.snd (Go.Sx.qbtC t p k)) ∧
    (True))) ∧
    (True))
    ((Go.Sx.InR (k + (1 : Int))) ∧
    (((((1 : Int) ≤ (↑(List.length t) : Int)) ∧
    ((↑(List.length t) : Int) ≤ (12 : Int))) ∧
    (True)) ∧
    (BrP (!Go.Sx.degB (↑(List.length t) : Int) (k + (1 : Int)))
      ((((0 : Int) = Prod.fst (Go.Sx.qbtC t p k)) ∧
      (((3 : Int) = Prod.snd (Go.Sx.qbtC t p k)) ∧
      (True))) ∧
      (True))
      (((Go.Sx.tabB t = Bool.true) ∧
      (True)) ∧
      (((Go.Sx.room (List.length (Go.Sx.kkL t))) ∧
      (True)) ∧
      (BrP (!Go.Sx.incB (Go.Sx.kkL t))
        ((((0 : Int) = Prod.fst (Go.Sx.qbtC t p k)) ∧
        (((5 : Int) = Prod.snd (Go.Sx.qbtC t p k)) ∧
        (True))) ∧
        (True))
        (((((1 : Int) ≤ (↑(List.length t) : Int)) ∧
        (((↑(List.length t) : Int) ≤ (12 : Int)) ∧
        (Go.Sx.degB (↑(List.length t) : Int) k = Bool.true))) ∧
        (True)) ∧
        ((∃ x0 : Nat, (((x0 ≤ List.length t ^ Int.toNat k) ∧
        ((Go.Sx.dgC t p k = (0 : Int)) ∧
        ((Go.Sx.degB (↑(List.length t) : Int) (k + (1 : Int)) = Bool.true) ∧
        (Go.Sx.qdB t = Bool.true)))) ∧
        ((p = p) ∧
        ((k = k) ∧
        (((↑(List.length t) : Int) = (↑(List.length t) : Int)) ∧
        (((0 : Int) = (↑(Go.Sx.cnN (↑(List.length t) : Int) (Int.toNat k) x0) : Int)) ∧
        (((↑(List.length t) : Int) ^ Int.toNat k = (↑(List.length t ^ Int.toNat k) : Int)) ∧
        (((0 : Int) = (↑x0 : Int)) ∧
        (t = t))))))))) ∧
        (∀ x1 : Nat, (((x1 ≤ List.length t ^ Int.toNat k) ∧
        ((Go.Sx.dgC t p k = (0 : Int)) ∧
        ((Go.Sx.degB (↑(List.length t) : Int) (k + (1 : Int)) = Bool.true) ∧
        (Go.Sx.qdB t = Bool.true)))) →
        (BrP (Decidable.decide ((↑x1 : Int) < (↑(List.length t ^ Int.toNat k) : Int)))
          (((((1 : Int) ≤ (↑(List.length t) : Int)) ∧
          (((0 : Int) ≤ k) ∧
          ((k ≤ (1000 : Int)) ∧
          (((0 : Int) ≤ (↑x1 : Int)) ∧
          ((↑x1 : Int) ≤ (1000000 : Int)))))) ∧
          (True)) ∧
          (((List.length (Go.Sx.digN (↑(List.length t) : Int) (Int.toNat k) (↑x1 : Int)) ≤ (1000 : Nat)) ∧
          (True)) ∧
          (BrP (!Go.Sx.flB (Go.Sx.digN (↑(List.length t) : Int) (Int.toNat k) (↑x1 : Int)))
            ((Go.Sx.InR ((↑(Go.Sx.cnN (↑(List.length t) : Int) (Int.toNat k) x1) : Int) + (1 : Int))) ∧
            ((Go.Sx.InR ((↑x1 : Int) + (1 : Int))) ∧
            (∃ x2 : Nat, (((x2 ≤ List.length t ^ Int.toNat k) ∧
            ((Go.Sx.dgC t p k = (0 : Int)) ∧
            ((Go.Sx.degB (↑(List.length t) : Int) (k + (1 : Int)) = Bool.true) ∧
            (Go.Sx.qdB t = Bool.true)))) ∧
            ((List.length t ^ Int.toNat k - x2 < List.length t ^ Int.toNat k - x1) ∧
            ((p = p) ∧
            ((k = k) ∧
            (((↑(List.length t) : Int) = (↑(List.length t) : Int)) ∧
            (((↑(Go.Sx.cnN (↑(List.length t) : Int) (Int.toNat k) x1) : Int) + (1 : Int) = (↑(Go.Sx.cnN (↑(List.length t) : Int) (Int.toNat k) x2) : Int)) ∧
            (((↑(List.length t ^ Int.toNat k) : Int) = (↑(List.length t ^ Int.toNat k) : Int)) ∧
            (((↑x1 : Int) + (1 : Int) = (↑x2 : Int)) ∧
            (t = t))))))))))))
            ((Go.Sx.InR ((↑x1 : Int) + (1 : Int))) ∧
            (∃ x3 : Nat, (((x3 ≤ List.length t ^ Int.toNat k) ∧
            ((Go.Sx.dgC t p k = (0 : Int)) ∧
            ((Go.Sx.degB (↑(List.length t) : Int) (k + (1 : Int)) = Bool.true) ∧
            (Go.Sx.qdB t = Bool.true)))) ∧
            ((List.length t ^ Int.toNat k - x3 < List.length t ^ Int.toNat k - x1) ∧
            ((p = p) ∧
            ((k = k) ∧
            (((↑(List.length t) : Int) = (↑(List.length t) : Int)) ∧
            (((↑(Go.Sx.cnN (↑(List.length t) : Int) (Int.toNat k) x1) : Int) = (↑(Go.Sx.cnN (↑(List.length t) : Int) (Int.toNat k) x3) : Int)) ∧
            (((↑(List.length t ^ Int.toNat k) : Int) = (↑(List.length t ^ Int.toNat k) : Int)) ∧
            (((↑x1 : Int) + (1 : Int) = (↑x3 : Int)) ∧
            (t = t))))))))))))))
          ((((Go.Sx.tabB t = Bool.true) ∧
          ((Go.Sx.primeB p = Bool.true) ∧
          (Go.Sx.degB (↑(List.length t) : Int) k = Bool.true))) ∧
          (True)) ∧
          ((Go.Sx.InR ((↑(Go.Sx.cnN (↑(List.length t) : Int) (Int.toNat k) x1) : Int) - Go.Sx.brV t p k Bool.true)) ∧
          ((Go.Sx.InR (k + (1 : Int))) ∧
          ((((Go.Sx.tabB t = Bool.true) ∧
          ((Go.Sx.primeB p = Bool.true) ∧
          (Go.Sx.degB (↑(List.length t) : Int) (k + (1 : Int)) = Bool.true))) ∧
          (True)) ∧
          ((Go.Sx.InR ((↑(Go.Sx.cnN (↑(List.length t) : Int) (Int.toNat k) x1) : Int) - Go.Sx.brV t p k Bool.true - Go.Sx.brV t p (k + (1 : Int)) Bool.true)) ∧
          ((((↑(Go.Sx.cnN (↑(List.length t) : Int) (Int.toNat k) x1) : Int) - Go.Sx.brV t p k Bool.true - Go.Sx.brV t p (k + (1 : Int)) Bool.true = Prod.fst (Go.Sx.qbtC t p k)) ∧
          (((0 : Int) = Prod.snd (Go.Sx.qbtC t p k)) ∧
          (True))) ∧
          (True))))))))))))))))))))
theorem iQ_vc (t : List (List Int)) (p : Int) (k : Int) : runF Try.prog (gam iQ_G) noWr (iQ_ann t p k) Try.f21 (bodyOf Try.f21) [] [.agg [.rows .i64 (t)], .c (.int .i64 (p)), .c (.int .i64 (k))] (iQ_p t p k) = iQ_V t p k := by kernel_rfl
theorem iQ_ok (t : List (List Int)) (p : Int) (k : Int) (hpre : (iQ_p t p k).pre) : iQ_V t p k := by
  simp only [iQ_p, iQ_V, BrP_iff, true_and, and_true, decide_eq_true_eq, decide_eq_false_iff_not, bne_iff_ne, beq_iff_eq, bne_eq_false_iff_eq, beq_eq_false_iff_ne, Bool.not_eq_true, Bool.not_eq_false, Bool.not_true, Bool.not_false, Bool.not_eq_eq_eq_not, Int.toNat_natCast, List.length_append, List.length_take, List.length_replicate, List.length_set, List.length_map, List.length_drop, List.length_nil, List.length_cons, markL_length, inB, InR, room, bdsOk] at hpre ⊢
  refine ⟨hpre, fun h => qbtC_no h, fun h => ?_⟩
  obtain ⟨h1, hp, hd, _⟩ := dgC_ok h
  have hT := rackB_tab h1
  obtain ⟨n1, n2, ht⟩ := tabB_of hT
  obtain ⟨k0, k1, N1, eN, N2⟩ := rk_facts hT hd
  have kl : (kkL t).length = t.length := tab_length _ _
  rw [kk_inc hT, eN]
  refine ⟨by omega, by omega, fun h5 => qbtC_3 h h5, fun h5 => ⟨hT, by omega, fun h6 => qbtC_5 h h5 h6, fun h6 => ⟨⟨by omega, by omega, hd⟩, ⟨0, ⟨Nat.zero_le _, h, h5, h6⟩, rfl, rfl, rfl⟩, fun i ⟨hi, _⟩ => ⟨fun h7 => ?_, fun h7 => ?_⟩⟩⟩⟩
  · have CL := cnN_le (t.length : Int) k.toNat i
    rw [digN_length]
    refine ⟨by omega, by omega, fun hf => ⟨by omega, by omega, i + 1, ⟨by omega, h, h5, h6⟩, by omega, by rw [cnN, if_neg (by rw [hf]; decide)]; omega, by omega⟩, fun hf => ⟨by omega, i + 1, ⟨by omega, h, h5, h6⟩, by omega, by rw [cnN, if_pos hf], by omega⟩⟩
  · have b1 := brV_le (p := p) (q := true) hT hp hd
    have b2 := brV_le (p := p) (q := true) hT hp h5
    have CL := cnN_le (t.length : Int) k.toNat i
    have e : ((cnN (t.length : Int) k.toNat i : Nat) : Int) = cnV t k := by rw [cnV, show i = t.length ^ k.toNat by omega]
    have y := qbtC_yes h h5 h6
    rw [← e] at y
    exact ⟨⟨hT, hp, hd⟩, by omega, by omega, ⟨hT, hp, h5⟩, by omega, y⟩
theorem iQ_fits : Fits Try.prog 21 ⟨[], iQ_ct⟩ := by
  refine fits_fn (Γ := gam iQ_G) (gok_cons checkDegree_fits (gok_cons isDegree_fits (gok_cons kinkOf_fits (gok_cons isIdentity_fits (gok_cons tuplesOf_fits (gok_cons tupleOf_fits (gok_cons isDegenerate_fits (gok_cons boundaryRank_fits gok_nil)))))))) Try.func21 (by kernel_rfl) (by kernel_rfl) (by kernel_rfl) fun ds p h hp => ?_
  unfold iQ_ct at h
  split at h
  · cases h
    exact ⟨noWr, iQ_ann _ _ _ , by rw [iQ_vc]; exact iQ_ok _ _ _  hp⟩
  · cases h

def sQ_p (t : List (List Int)) (p : Int) (k : Int) : Post := ⟨roomR t, .tup [.inl (.int .i64 ((qbtC t p k).1)), .inl (.int .i64 ((qbtC t p k).2))], []⟩
def sQ_ct : List AD → Option Post
  | [.agg [.rows .i64 (t)], .c (.int .i64 (p)), .c (.int .i64 (k))] => some (sQ_p t p k)
  | _ => none
def sQ_G : List (Nat × Ctr) := [(35, ⟨[], l15Code_ct⟩), (41, ⟨[], l15Allowed_ct⟩), (45, ⟨[], l03Quandle_ct⟩), (46, ⟨[], l15Quandle_ct⟩)]
def sQ_V (t : List (List Int)) (p : Int) (k : Int) : Prop :=
  (((Go.Sx.roomR t) ∧
  (True)) ∧
  (BrP (Go.Sx.dgC t p k == (0 : Int))
    ((Go.Sx.InR (k + (1 : Int))) ∧
    (((((1 : Int) ≤ (↑(List.length t) : Int)) ∧
    ((↑(List.length t) : Int) ≤ (12 : Int))) ∧
    (True)) ∧
    (BrP (!Go.Sx.degB (↑(List.length t) : Int) (k + (1 : Int)))
      ((((0 : Int) = Prod.fst (Go.Sx.qbtC t p k)) ∧
      (((3 : Int) = Prod.snd (Go.Sx.qbtC t p k)) ∧
      (True))) ∧
      (True))
      (BrP (Go.Sx.dgC t p k == (0 : Int))
        (((Go.Sx.tabB t = Bool.true) ∧
        (True)) ∧
        (BrP (!Go.Sx.qdB t)
          ((((0 : Int) = Prod.fst (Go.Sx.qbtC t p k)) ∧
          (((5 : Int) = Prod.snd (Go.Sx.qbtC t p k)) ∧
          (True))) ∧
          (True))
          (BrP (Go.Sx.dgC t p k != (0 : Int))
            ((((0 : Int) = Prod.fst (Go.Sx.qbtC t p k)) ∧
            ((Go.Sx.dgC t p k = Prod.snd (Go.Sx.qbtC t p k)) ∧
            (True))) ∧
            (True))
            ((((Go.Sx.tabB t = Bool.true) ∧
            ((Go.Sx.primeB p = Bool.true) ∧
            (Go.Sx.degB (↑(List.length t) : Int) k = Bool.true))) ∧
            (True)) ∧
            ((Go.Sx.InR (k + (1 : Int))) ∧
            ((((Go.Sx.tabB t = Bool.true) ∧
            ((Go.Sx.primeB p = Bool.true) ∧
            (Go.Sx.degB (↑(List.length t) : Int) (k + (1 : Int)) = Bool.true))) ∧
            (True)) ∧
            ((Go.Sx.InR (Go.Sx.cnV t k - Go.Sx.brV t p k Bool.true)) ∧
            ((Go.Sx.InR (Go.Sx.cnV t k - Go.Sx.brV t p k Bool.true - Go.Sx.brV t p (k + (1 : Int)) Bool.true)) ∧
            (((Go.Sx.cnV t k - Go.Sx.brV t p k Bool.true - Go.Sx.brV t p (k + (1 : Int)) Bool.true = Prod.fst (Go.Sx.qbtC t p k)) ∧
            (((0 : Int) = Prod.snd (Go.Sx.qbtC t p k)) ∧
            (True))) ∧
            (True))))))))))
        (BrP (Go.Sx.dgC t p k != (0 : Int))
          ((((0 : Int) = Prod.fst (Go.Sx.qbtC t p k)) ∧
          ((Go.Sx.dgC t p k = Prod.snd (Go.Sx.qbtC t p k)) ∧
          (True))) ∧
          (True))
          ((((Go.Sx.tabB t = Bool.true) ∧
          ((Go.Sx.primeB p = Bool.true) ∧
          (Go.Sx.degB (↑(List.length t) : Int) k = Bool.true))) ∧
          (True)) ∧
          ((Go.Sx.InR (k + (1 : Int))) ∧
          ((((Go.Sx.tabB t = Bool.true) ∧
          ((Go.Sx.primeB p = Bool.true) ∧
          (Go.Sx.degB (↑(List.length t) : Int) (k + (1 : Int)) = Bool.true))) ∧
          (True)) ∧
          ((Go.Sx.InR (Go.Sx.cnV t k - Go.Sx.brV t p k Bool.true)) ∧
          ((Go.Sx.InR (Go.Sx.cnV t k - Go.Sx.brV t p k Bool.true - Go.Sx.brV t p (k + (1 : Int)) Bool.true)) ∧
          (((Go.Sx.cnV t k - Go.Sx.brV t p k Bool.true - Go.Sx.brV t p (k + (1 : Int)) Bool.true = Prod.fst (Go.Sx.qbtC t p k)) ∧
          (((0 : Int) = Prod.snd (Go.Sx.qbtC t p k)) ∧
          (True))) ∧
          (True))))))))))))
    (BrP (Go.Sx.dgC t p k == (0 : Int))
      (((Go.Sx.tabB t = Bool.true) ∧
      (True)) ∧
      (BrP (!Go.Sx.qdB t)
        ((((0 : Int) = Prod.fst (Go.Sx.qbtC t p k)) ∧
        (((5 : Int) = Prod.snd (Go.Sx.qbtC t p k)) ∧
        (True))) ∧
        (True))
        (BrP (Go.Sx.dgC t p k != (0 : Int))
          ((((0 : Int) = Prod.fst (Go.Sx.qbtC t p k)) ∧
          ((Go.Sx.dgC t p k = Prod.snd (Go.Sx.qbtC t p k)) ∧
          (True))) ∧
          (True))
          ((((Go.Sx.tabB t = Bool.true) ∧
          ((Go.Sx.primeB p = Bool.true) ∧
          (Go.Sx.degB (↑(List.length t) : Int) k = Bool.true))) ∧
          (True)) ∧
          ((Go.Sx.InR (k + (1 : Int))) ∧
          ((((Go.Sx.tabB t = Bool.true) ∧
          ((Go.Sx.primeB p = Bool.true) ∧
          (Go.Sx.degB (↑(List.length t) : Int) (k + (1 : Int)) = Bool.true))) ∧
          (True)) ∧
          ((Go.Sx.InR (Go.Sx.cnV t k - Go.Sx.brV t p k Bool.true)) ∧
          ((Go.Sx.InR (Go.Sx.cnV t k - Go.Sx.brV t p k Bool.true - Go.Sx.brV t p (k + (1 : Int)) Bool.true)) ∧
          (((Go.Sx.cnV t k - Go.Sx.brV t p k Bool.true - Go.Sx.brV t p (k + (1 : Int)) Bool.true = Prod.fst (Go.Sx.qbtC t p k)) ∧
          (((0 : Int) = Prod.snd (Go.Sx.qbtC t p k)) ∧
          (True))) ∧
          (True))))))))))
      (BrP (Go.Sx.dgC t p k != (0 : Int))
        ((((0 : Int) = Prod.fst (Go.Sx.qbtC t p k)) ∧
        ((Go.Sx.dgC t p k = Prod.snd (Go.Sx.qbtC t p k)) ∧
        (True))) ∧
        (True))
        ((((Go.Sx.tabB t = Bool.true) ∧
        ((Go.Sx.primeB p = Bool.true) ∧
        (Go.Sx.degB (↑(List.length t) : Int) k = Bool.true))) ∧
        (True)) ∧
        ((Go.Sx.InR (k + (1 : Int))) ∧
        ((((Go.Sx.tabB t = Bool.true) ∧
        ((Go.Sx.primeB p = Bool.true) ∧
        (Go.Sx.degB (↑(List.length t) : Int) (k + (1 : Int)) = Bool.true))) ∧
        (True)) ∧
        ((Go.Sx.InR (Go.Sx.cnV t k - Go.Sx.brV t p k Bool.true)) ∧
        ((Go.Sx.InR (Go.Sx.cnV t k - Go.Sx.brV t p k Bool.true - Go.Sx.brV t p (k + (1 : Int)) Bool.true)) ∧
        (((Go.Sx.cnV t k - Go.Sx.brV t p k Bool.true - Go.Sx.brV t p (k + (1 : Int)) Bool.true = Prod.fst (Go.Sx.qbtC t p k)) ∧
        (((0 : Int) = Prod.snd (Go.Sx.qbtC t p k)) ∧
        (True))) ∧
        (True)))))))))))
theorem sQ_vc (t : List (List Int)) (p : Int) (k : Int) : runF Try.prog (gam sQ_G) noWr noAnn Try.f20 (bodyOf Try.f20) [] [.agg [.rows .i64 (t)], .c (.int .i64 (p)), .c (.int .i64 (k))] (sQ_p t p k) = sQ_V t p k := by kernel_rfl
theorem sQ_ok (t : List (List Int)) (p : Int) (k : Int) (hpre : (sQ_p t p k).pre) : sQ_V t p k := by
  simp only [sQ_p, sQ_V, BrP_iff, true_and, and_true, decide_eq_true_eq, decide_eq_false_iff_not, bne_iff_ne, beq_iff_eq, bne_eq_false_iff_eq, beq_eq_false_iff_ne, Bool.not_eq_true, Bool.not_eq_false, Bool.not_true, Bool.not_false, Bool.not_eq_eq_eq_not, Int.toNat_natCast, List.length_append, List.length_take, List.length_replicate, List.length_set, List.length_map, List.length_drop, List.length_nil, List.length_cons, markL_length, inB, InR, room, bdsOk] at hpre ⊢
  refine ⟨hpre, fun h => ?_, fun h => ⟨fun c => absurd c h, fun _ => ⟨fun _ => qbtC_no h, fun c => absurd c h⟩⟩⟩
  obtain ⟨h1, hp, hd, _⟩ := dgC_ok h
  have hT := rackB_tab h1
  obtain ⟨n1, n2, ht⟩ := tabB_of hT
  obtain ⟨k0, k1, N1, eN, N2⟩ := rk_facts hT hd
  refine ⟨by omega, by omega, fun h5 => qbtC_3 h h5, fun h5 => ⟨fun _ => ⟨hT, fun h6 => qbtC_5 h h5 h6, fun h6 => ⟨fun c => absurd h c, fun _ => ?_⟩⟩, fun c => absurd h c⟩⟩
  have b1 := brV_le (p := p) (q := true) hT hp hd
  have b2 := brV_le (p := p) (q := true) hT hp h5
  have CL := cnN_le (t.length : Int) k.toNat (t.length ^ k.toNat)
  have e : cnV t k = ((cnN (t.length : Int) k.toNat (t.length ^ k.toNat) : Nat) : Int) := rfl
  exact ⟨⟨hT, hp, hd⟩, by omega, ⟨hT, hp, h5⟩, by omega, by omega, qbtC_yes h h5 h6⟩
theorem sQ_fits : Fits Try.prog 20 ⟨[], sQ_ct⟩ := by
  refine fits_fn (Γ := gam sQ_G) (gok_cons l15Code_fits (gok_cons l15Allowed_fits (gok_cons l03Quandle_fits (gok_cons l15Quandle_fits gok_nil)))) Try.func20 (by kernel_rfl) (by kernel_rfl) (by kernel_rfl) fun ds p h hp => ?_
  unfold sQ_ct at h
  split at h
  · cases h
    exact ⟨noWr, noAnn, by rw [sQ_vc]; exact sQ_ok _ _ _  hp⟩
  · cases h

def lBR_p (t : List (List Int)) (p : Int) (k : Int) : Post := ⟨(t.length : Int) ≤ 9223372036854775807 ∧ (∀ r ∈ t, (r.length : Int) ≤ 9223372036854775807), .c (.bool (true)), []⟩
def lBR_ct : List AD → Option Post
  | [.agg [.rows .i64 (t)], .c (.int .i64 (p)), .c (.int .i64 (k))] => some (lBR_p t p k)
  | _ => none
def lBR_G : List (Nat × Ctr) := [(13, ⟨[], szRack_ct⟩), (34, ⟨[], szInt64SS_ct⟩), (15, ⟨[], toRack_ct⟩), (17, ⟨[], eqRack_ct⟩), (14, ⟨[], sBR_ct⟩), (16, ⟨[], iBR_ct⟩)]
def lBR_V (t : List (List Int)) (p : Int) (k : Int) : Prop :=
  (((((↑(List.length t) : Int) ≤ (9223372036854775807 : Int)) ∧
  ((∀ (r : List Int), r ∈ t → (↑(List.length r) : Int) ≤ (9223372036854775807 : Int)) ∧
  (((0 : Int) ≤ (1048576 : Int)) ∧
  ((1048576 : Int) ≤ (1099511627776 : Int))))) ∧
  (True)) ∧
  (BrP (Decidable.decide ((if (1048576 : Int) < (↑(List.length t) : Int) + (↑(Go.Sx.sumL t) : Int) then (-1 : Int) else (1048576 : Int) - (↑(List.length t) : Int) - (↑(Go.Sx.sumL t) : Int)) < (0 : Int)))
    ((Bool.true = Bool.true) ∧
    (True))
    (((Go.Sx.roomR t) ∧
    (True)) ∧
    (((Go.Sx.roomR t) ∧
    (True)) ∧
    (((Go.Sx.roomR t) ∧
    (True)) ∧
    (((Go.Sx.roomR t) ∧
    (True)) ∧
    (BrP (Prod.fst (Go.Sx.brC t p k) != Prod.fst (Go.Sx.brC t p k))
      ((Bool.false = Bool.true) ∧
      (True))
      (BrP (Prod.snd (Go.Sx.brC t p k) != Prod.snd (Go.Sx.brC t p k))
        ((Bool.false = Bool.true) ∧
        (True))
        (((Go.Sx.roomR t) ∧
        (True)) ∧
        (((Go.Sx.roomR t) ∧
        (True)) ∧
        (BrP (!Decidable.decide (t = t))
          ((Bool.false = Bool.true) ∧
          (True))
          ((Bool.true = Bool.true) ∧
          (True)))))))))))))
theorem lBR_vc (t : List (List Int)) (p : Int) (k : Int) : runF Try.prog (gam lBR_G) noWr noAnn Try.f4 (bodyOf Try.f4) [] [.agg [.rows .i64 (t)], .c (.int .i64 (p)), .c (.int .i64 (k))] (lBR_p t p k) = lBR_V t p k := by kernel_rfl
theorem lBR_ok (t : List (List Int)) (p : Int) (k : Int) (hpre : (lBR_p t p k).pre) : lBR_V t p k := by
  simp only [lBR_p, lBR_V, BrP_iff, true_and, and_true, decide_eq_true_eq, decide_eq_false_iff_not, bne_iff_ne, beq_iff_eq, bne_eq_false_iff_eq, beq_eq_false_iff_ne, Bool.not_eq_true, Bool.not_eq_false, Bool.not_true, Bool.not_false, Bool.not_eq_eq_eq_not, Int.toNat_natCast, List.length_append, List.length_take, List.length_replicate, List.length_set, List.length_map, List.length_drop, List.length_nil, List.length_cons, markL_length, inB, InR, room, bdsOk] at hpre ⊢
  obtain ⟨a1, a2⟩ := hpre
  refine ⟨⟨a1, a2, by omega, by omega⟩, fun _ => trivial, fun h => ?_⟩
  obtain ⟨e1, e2, e3⟩ := size_of h
  simp [e3]
theorem lBR_fits : Fits Try.prog 4 ⟨[], lBR_ct⟩ := by
  refine fits_fn (Γ := gam lBR_G) (gok_cons szRack_fits (gok_cons szInt64SS_fits (gok_cons toRack_fits (gok_cons eqRack_fits (gok_cons sBR_fits (gok_cons iBR_fits gok_nil)))))) Try.func4 (by kernel_rfl) (by kernel_rfl) (by kernel_rfl) fun ds p h hp => ?_
  unfold lBR_ct at h
  split at h
  · cases h
    exact ⟨noWr, noAnn, by rw [lBR_vc]; exact lBR_ok _ _ _  hp⟩
  · cases h

def lRkB_p (t : List (List Int)) (p : Int) (k : Int) : Post := ⟨(t.length : Int) ≤ 9223372036854775807 ∧ (∀ r ∈ t, (r.length : Int) ≤ 9223372036854775807), .c (.bool (true)), []⟩
def lRkB_ct : List AD → Option Post
  | [.agg [.rows .i64 (t)], .c (.int .i64 (p)), .c (.int .i64 (k))] => some (lRkB_p t p k)
  | _ => none
def lRkB_G : List (Nat × Ctr) := [(13, ⟨[], szRack_ct⟩), (34, ⟨[], szInt64SS_ct⟩), (15, ⟨[], toRack_ct⟩), (17, ⟨[], eqRack_ct⟩), (18, ⟨[], sRkB_ct⟩), (19, ⟨[], iRkB_ct⟩)]
def lRkB_V (t : List (List Int)) (p : Int) (k : Int) : Prop :=
  (((((↑(List.length t) : Int) ≤ (9223372036854775807 : Int)) ∧
  ((∀ (r : List Int), r ∈ t → (↑(List.length r) : Int) ≤ (9223372036854775807 : Int)) ∧
  (((0 : Int) ≤ (1048576 : Int)) ∧
  ((1048576 : Int) ≤ (1099511627776 : Int))))) ∧
  (True)) ∧
  (BrP (Decidable.decide ((if (1048576 : Int) < (↑(List.length t) : Int) + (↑(Go.Sx.sumL t) : Int) then (-1 : Int) else (1048576 : Int) - (↑(List.length t) : Int) - (↑(Go.Sx.sumL t) : Int)) < (0 : Int)))
    ((Bool.true = Bool.true) ∧
    (True))
    (((Go.Sx.roomR t) ∧
    (True)) ∧
    (((Go.Sx.roomR t) ∧
    (True)) ∧
    (((Go.Sx.roomR t) ∧
    (True)) ∧
    (((Go.Sx.roomR t) ∧
    (True)) ∧
    (BrP (Prod.fst (Go.Sx.rbtC t p k) != Prod.fst (Go.Sx.rbtC t p k))
      ((Bool.false = Bool.true) ∧
      (True))
      (BrP (Prod.snd (Go.Sx.rbtC t p k) != Prod.snd (Go.Sx.rbtC t p k))
        ((Bool.false = Bool.true) ∧
        (True))
        (((Go.Sx.roomR t) ∧
        (True)) ∧
        (((Go.Sx.roomR t) ∧
        (True)) ∧
        (BrP (!Decidable.decide (t = t))
          ((Bool.false = Bool.true) ∧
          (True))
          ((Bool.true = Bool.true) ∧
          (True)))))))))))))
theorem lRkB_vc (t : List (List Int)) (p : Int) (k : Int) : runF Try.prog (gam lRkB_G) noWr noAnn Try.f5 (bodyOf Try.f5) [] [.agg [.rows .i64 (t)], .c (.int .i64 (p)), .c (.int .i64 (k))] (lRkB_p t p k) = lRkB_V t p k := by kernel_rfl
theorem lRkB_ok (t : List (List Int)) (p : Int) (k : Int) (hpre : (lRkB_p t p k).pre) : lRkB_V t p k := by
  simp only [lRkB_p, lRkB_V, BrP_iff, true_and, and_true, decide_eq_true_eq, decide_eq_false_iff_not, bne_iff_ne, beq_iff_eq, bne_eq_false_iff_eq, beq_eq_false_iff_ne, Bool.not_eq_true, Bool.not_eq_false, Bool.not_true, Bool.not_false, Bool.not_eq_eq_eq_not, Int.toNat_natCast, List.length_append, List.length_take, List.length_replicate, List.length_set, List.length_map, List.length_drop, List.length_nil, List.length_cons, markL_length, inB, InR, room, bdsOk] at hpre ⊢
  obtain ⟨a1, a2⟩ := hpre
  refine ⟨⟨a1, a2, by omega, by omega⟩, fun _ => trivial, fun h => ?_⟩
  obtain ⟨e1, e2, e3⟩ := size_of h
  simp [e3]
theorem lRkB_fits : Fits Try.prog 5 ⟨[], lRkB_ct⟩ := by
  refine fits_fn (Γ := gam lRkB_G) (gok_cons szRack_fits (gok_cons szInt64SS_fits (gok_cons toRack_fits (gok_cons eqRack_fits (gok_cons sRkB_fits (gok_cons iRkB_fits gok_nil)))))) Try.func5 (by kernel_rfl) (by kernel_rfl) (by kernel_rfl) fun ds p h hp => ?_
  unfold lRkB_ct at h
  split at h
  · cases h
    exact ⟨noWr, noAnn, by rw [lRkB_vc]; exact lRkB_ok _ _ _  hp⟩
  · cases h

def lQkB_p (t : List (List Int)) (p : Int) (k : Int) : Post := ⟨(t.length : Int) ≤ 9223372036854775807 ∧ (∀ r ∈ t, (r.length : Int) ≤ 9223372036854775807), .c (.bool (true)), []⟩
def lQkB_ct : List AD → Option Post
  | [.agg [.rows .i64 (t)], .c (.int .i64 (p)), .c (.int .i64 (k))] => some (lQkB_p t p k)
  | _ => none
def lQkB_G : List (Nat × Ctr) := [(13, ⟨[], szRack_ct⟩), (34, ⟨[], szInt64SS_ct⟩), (15, ⟨[], toRack_ct⟩), (17, ⟨[], eqRack_ct⟩), (20, ⟨[], sQ_ct⟩), (21, ⟨[], iQ_ct⟩)]
def lQkB_V (t : List (List Int)) (p : Int) (k : Int) : Prop :=
  (((((↑(List.length t) : Int) ≤ (9223372036854775807 : Int)) ∧
  ((∀ (r : List Int), r ∈ t → (↑(List.length r) : Int) ≤ (9223372036854775807 : Int)) ∧
  (((0 : Int) ≤ (1048576 : Int)) ∧
  ((1048576 : Int) ≤ (1099511627776 : Int))))) ∧
  (True)) ∧
  (BrP (Decidable.decide ((if (1048576 : Int) < (↑(List.length t) : Int) + (↑(Go.Sx.sumL t) : Int) then (-1 : Int) else (1048576 : Int) - (↑(List.length t) : Int) - (↑(Go.Sx.sumL t) : Int)) < (0 : Int)))
    ((Bool.true = Bool.true) ∧
    (True))
    (((Go.Sx.roomR t) ∧
    (True)) ∧
    (((Go.Sx.roomR t) ∧
    (True)) ∧
    (((Go.Sx.roomR t) ∧
    (True)) ∧
    (((Go.Sx.roomR t) ∧
    (True)) ∧
    (BrP (Prod.fst (Go.Sx.qbtC t p k) != Prod.fst (Go.Sx.qbtC t p k))
      ((Bool.false = Bool.true) ∧
      (True))
      (BrP (Prod.snd (Go.Sx.qbtC t p k) != Prod.snd (Go.Sx.qbtC t p k))
        ((Bool.false = Bool.true) ∧
        (True))
        (((Go.Sx.roomR t) ∧
        (True)) ∧
        (((Go.Sx.roomR t) ∧
        (True)) ∧
        (BrP (!Decidable.decide (t = t))
          ((Bool.false = Bool.true) ∧
          (True))
          ((Bool.true = Bool.true) ∧
          (True)))))))))))))
theorem lQkB_vc (t : List (List Int)) (p : Int) (k : Int) : runF Try.prog (gam lQkB_G) noWr noAnn Try.f6 (bodyOf Try.f6) [] [.agg [.rows .i64 (t)], .c (.int .i64 (p)), .c (.int .i64 (k))] (lQkB_p t p k) = lQkB_V t p k := by kernel_rfl
theorem lQkB_ok (t : List (List Int)) (p : Int) (k : Int) (hpre : (lQkB_p t p k).pre) : lQkB_V t p k := by
  simp only [lQkB_p, lQkB_V, BrP_iff, true_and, and_true, decide_eq_true_eq, decide_eq_false_iff_not, bne_iff_ne, beq_iff_eq, bne_eq_false_iff_eq, beq_eq_false_iff_ne, Bool.not_eq_true, Bool.not_eq_false, Bool.not_true, Bool.not_false, Bool.not_eq_eq_eq_not, Int.toNat_natCast, List.length_append, List.length_take, List.length_replicate, List.length_set, List.length_map, List.length_drop, List.length_nil, List.length_cons, markL_length, inB, InR, room, bdsOk] at hpre ⊢
  obtain ⟨a1, a2⟩ := hpre
  refine ⟨⟨a1, a2, by omega, by omega⟩, fun _ => trivial, fun h => ?_⟩
  obtain ⟨e1, e2, e3⟩ := size_of h
  simp [e3]
theorem lQkB_fits : Fits Try.prog 6 ⟨[], lQkB_ct⟩ := by
  refine fits_fn (Γ := gam lQkB_G) (gok_cons szRack_fits (gok_cons szInt64SS_fits (gok_cons toRack_fits (gok_cons eqRack_fits (gok_cons sQ_fits (gok_cons iQ_fits gok_nil)))))) Try.func6 (by kernel_rfl) (by kernel_rfl) (by kernel_rfl) fun ds p h hp => ?_
  unfold lQkB_ct at h
  split at h
  · cases h
    exact ⟨noWr, noAnn, by rw [lQkB_vc]; exact lQkB_ok _ _ _  hp⟩
  · cases h

end Go.Sx

