/- Contracts of solutions: what they are, and their inverses. -/
import Derived.Test.YtegeohcghndpcaaPerm
import Derived.Test.YtegeohcghndpcaaTimes
import Derived.Test.YtegeohcghndpcaaRackC
open Go Go.Proofs
namespace Go.Sx
set_option linter.unusedSimpArgs false
set_option linter.unusedVariables false

def Clone_p (l : List Int) : Post := ⟨l.length ≠ 0 ∧ room l.length, .c (.ints 2 .i64 (l)), []⟩
def Clone_ct : List AD → Option Post
  | [.c (.ints .i64 (l))] => some (Clone_p l)
  | _ => none
def Clone_G : List (Nat × Ctr) := []
def Clone_V (l : List Int) : Prop :=
  ((Go.Sx.FC.len (Go.Sx.FC.ints Go.IntKind.i64 l) ≠ (0 : Nat)) ∧
  ((Go.Sx.room (List.length ([] : List Int) + List.length l)) ∧
  (([] ++ l = l) ∧
  (True))))
theorem Clone_vc (l : List Int) : runF Try.prog (gam Clone_G) noWr noAnn Try.f129 (bodyOf Try.f129) [] [.c (.ints .i64 (l))] (Clone_p l) = Clone_V l := by kernel_rfl
theorem Clone_ok (l : List Int) (hpre : (Clone_p l).pre) : Clone_V l := by
  simp only [Clone_p, Clone_V, BrP_iff, true_and, and_true, decide_eq_true_eq, decide_eq_false_iff_not, bne_iff_ne, beq_iff_eq, bne_eq_false_iff_eq, beq_eq_false_iff_ne, Bool.not_eq_true, Bool.not_eq_false, Bool.not_true, Bool.not_false, Bool.not_eq_eq_eq_not, Int.toNat_natCast, List.length_append, List.length_take, List.length_replicate, List.length_set, List.length_map, List.length_drop, List.length_nil, List.length_cons, markL_length, inB, InR, room, bdsOk] at hpre ⊢
  obtain ⟨a, b⟩ := hpre
  exact ⟨a, by omega, rfl⟩
theorem Clone_fits : Fits Try.prog 129 ⟨[], Clone_ct⟩ := by
  refine fits_fn (Γ := gam Clone_G) gok_nil Try.func129 (by kernel_rfl) (by kernel_rfl) (by kernel_rfl) fun ds p h hp => ?_
  unfold Clone_ct at h
  split at h
  · cases h
    exact ⟨noWr, noAnn, by rw [Clone_vc]; exact Clone_ok _  hp⟩
  · cases h

def pmB (F S : List (List Int)) : Bool := tabB F && tabB S && decide (F.length = S.length)

theorem pm_in {F S : List (List Int)} (h : pmB F S = true) : 1 ≤ F.length ∧ F.length ≤ 12 ∧ S.length = F.length ∧
    (∀ x, x < F.length → (F.getD x []).length = F.length ∧ ∀ y, y < F.length → 0 ≤ (F.getD x []).getD y 0 ∧ (F.getD x []).getD y 0 ≤ (F.length : Int) - 1) ∧
    (∀ x, x < F.length → (S.getD x []).length = F.length ∧ ∀ y, y < F.length → 0 ≤ (S.getD x []).getD y 0 ∧ (S.getD x []).getD y 0 ≤ (F.length : Int) - 1) := by
  simp only [pmB, Bool.and_eq_true, decide_eq_true_eq] at h
  obtain ⟨⟨h1, h2⟩, h3⟩ := h
  obtain ⟨n1, n2, a⟩ := tabB_of h1
  obtain ⟨_, _, b⟩ := tabB_of h2
  rw [← h3] at b
  exact ⟨n1, n2, h3.symm, a, b⟩

def IsPairMap_p (F : List (List Int)) (S : List (List Int)) : Post := ⟨roomR F ∧ roomR S, .c (.bool (pmB F S)), []⟩
def IsPairMap_ct : List AD → Option Post
  | [.agg [.rows .i64 (F), .rows .i64 (S)]] => some (IsPairMap_p F S)
  | _ => none
def IsPairMap_G : List (Nat × Ctr) := [(57, ⟨[], IsTable_ct⟩)]
def IsPairMap_V (F : List (List Int)) (S : List (List Int)) : Prop :=
  (((Go.Sx.roomR F) ∧
  (True)) ∧
  (BrP (Go.Sx.tabB F)
    (((Go.Sx.roomR S) ∧
    (True)) ∧
    (BrP (Go.Sx.tabB S)
      ((((↑(List.length F) : Int) == (↑(List.length S) : Int)) = Go.Sx.pmB F S) ∧
      (True))
      ((Bool.false = Go.Sx.pmB F S) ∧
      (True))))
    ((Bool.false = Go.Sx.pmB F S) ∧
    (True))))
theorem IsPairMap_vc (F : List (List Int)) (S : List (List Int)) : runF Try.prog (gam IsPairMap_G) noWr noAnn Try.f152 (bodyOf Try.f152) [] [.agg [.rows .i64 (F), .rows .i64 (S)]] (IsPairMap_p F S) = IsPairMap_V F S := by kernel_rfl
theorem IsPairMap_ok (F : List (List Int)) (S : List (List Int)) (hpre : (IsPairMap_p F S).pre) : IsPairMap_V F S := by
  simp only [IsPairMap_p, IsPairMap_V, BrP_iff, true_and, and_true, decide_eq_true_eq, decide_eq_false_iff_not, bne_iff_ne, beq_iff_eq, bne_eq_false_iff_eq, beq_eq_false_iff_ne, Bool.not_eq_true, Bool.not_eq_false, Bool.not_true, Bool.not_false, Bool.not_eq_eq_eq_not, Int.toNat_natCast, List.length_append, List.length_take, List.length_replicate, List.length_set, List.length_map, List.length_drop, List.length_nil, List.length_cons, markL_length, inB, InR, room, bdsOk] at hpre ⊢
  obtain ⟨r1, r2⟩ := hpre
  refine ⟨r1, fun h => ⟨r2, fun h2 => ?_, fun h2 => by simp [pmB, h, h2]⟩, fun h => by simp [pmB, h]⟩
  rw [pmB, h, h2, Bool.true_and, Bool.true_and, Bool.eq_iff_iff, beq_iff_eq, decide_eq_true_iff]
  omega
theorem IsPairMap_fits : Fits Try.prog 152 ⟨[], IsPairMap_ct⟩ := by
  refine fits_fn (Γ := gam IsPairMap_G) (gok_cons IsTable_fits gok_nil) Try.func152 (by kernel_rfl) (by kernel_rfl) (by kernel_rfl) fun ds p h hp => ?_
  unfold IsPairMap_ct at h
  split at h
  · cases h
    exact ⟨noWr, noAnn, by rw [IsPairMap_vc]; exact IsPairMap_ok _ _  hp⟩
  · cases h

def l02Map_p (F : List (List Int)) (S : List (List Int)) : Post := ⟨roomR F ∧ roomR S, .c (.bool (pmB F S)), []⟩
def l02Map_ct : List AD → Option Post
  | [.agg [.rows .i64 (F), .rows .i64 (S)]] => some (l02Map_p F S)
  | _ => none
def l02Map_G : List (Nat × Ctr) := [(52, ⟨[], l01Table_ct⟩)]
def l02Map_V (F : List (List Int)) (S : List (List Int)) : Prop :=
  (((Go.Sx.roomR F) ∧
  (True)) ∧
  (BrP (Go.Sx.tabB F)
    (((Go.Sx.roomR S) ∧
    (True)) ∧
    (BrP (Go.Sx.tabB S)
      ((((↑(List.length F) : Int) == (↑(List.length S) : Int)) = Go.Sx.pmB F S) ∧
      (True))
      ((Bool.false = Go.Sx.pmB F S) ∧
      (True))))
    ((Bool.false = Go.Sx.pmB F S) ∧
    (True))))
theorem l02Map_vc (F : List (List Int)) (S : List (List Int)) : runF Try.prog (gam l02Map_G) noWr noAnn Try.f149 (bodyOf Try.f149) [] [.agg [.rows .i64 (F), .rows .i64 (S)]] (l02Map_p F S) = l02Map_V F S := by kernel_rfl
theorem l02Map_ok (F : List (List Int)) (S : List (List Int)) (hpre : (l02Map_p F S).pre) : l02Map_V F S := by
  simp only [l02Map_p, l02Map_V, BrP_iff, true_and, and_true, decide_eq_true_eq, decide_eq_false_iff_not, bne_iff_ne, beq_iff_eq, bne_eq_false_iff_eq, beq_eq_false_iff_ne, Bool.not_eq_true, Bool.not_eq_false, Bool.not_true, Bool.not_false, Bool.not_eq_eq_eq_not, Int.toNat_natCast, List.length_append, List.length_take, List.length_replicate, List.length_set, List.length_map, List.length_drop, List.length_nil, List.length_cons, markL_length, inB, InR, room, bdsOk] at hpre ⊢
  obtain ⟨r1, r2⟩ := hpre
  refine ⟨r1, fun h => ⟨r2, fun h2 => ?_, fun h2 => by simp [pmB, h, h2]⟩, fun h => by simp [pmB, h]⟩
  rw [pmB, h, h2, Bool.true_and, Bool.true_and, Bool.eq_iff_iff, beq_iff_eq, decide_eq_true_iff]
  omega
theorem l02Map_fits : Fits Try.prog 149 ⟨[], l02Map_ct⟩ := by
  refine fits_fn (Γ := gam l02Map_G) (gok_cons l01Table_fits gok_nil) Try.func149 (by kernel_rfl) (by kernel_rfl) (by kernel_rfl) fun ds p h hp => ?_
  unfold l02Map_ct at h
  split at h
  · cases h
    exact ⟨noWr, noAnn, by rw [l02Map_vc]; exact l02Map_ok _ _  hp⟩
  · cases h

def coQ (F S : List (List Int)) (p q : Nat) : Prop := p ≠ q ∧ en F (p / F.length) (p % F.length) = en F (q / F.length) (q % F.length) ∧ en S (p / F.length) (p % F.length) = en S (q / F.length) (q % F.length)
instance (F S : List (List Int)) (p q : Nat) : Decidable (coQ F S p q) := by unfold coQ; infer_instance
def coZ (F S : List (List Int)) (p q : Nat) : Option (List Int) :=
  if coQ F S p q then some [((p / F.length : Nat) : Int), ((p % F.length : Nat) : Int), ((q / F.length : Nat) : Int), ((q % F.length : Nat) : Int)] else none
def coX (F S : List (List Int)) (p : Nat) : Option (List Int) := firstO (F.length * F.length) (coZ F S p) (F.length * F.length)
def coF (F S : List (List Int)) : Option (List Int) := firstO (F.length * F.length) (coX F S) (F.length * F.length)

theorem tdiv_nat (a b : Nat) : (a : Int).tdiv (b : Int) = ((a / b : Nat) : Int) := (Int.ofNat_tdiv a b).symm
theorem tmod_nat (a b : Nat) : (a : Int).tmod (b : Int) = ((a % b : Nat) : Int) := (Int.ofNat_tmod a b).symm

theorem pair_in {n p : Nat} (h : p < n * n) : p / n < n ∧ p % n < n := by
  have hn : 0 < n := by
    rcases Nat.eq_zero_or_pos n with h0 | h0
    · subst h0; simp at h
    · exact h0
  exact ⟨Nat.div_lt_of_lt_mul h, Nat.mod_lt _ hn⟩

def collisionOf_p (F : List (List Int)) (S : List (List Int)) : Post := ⟨pmB F S = true, .c (.nilq ((coF F S).isNone)), []⟩
def collisionOf_ct : List AD → Option Post
  | [.agg [.rows .i64 (F), .rows .i64 (S)]] => some (collisionOf_p F S)
  | _ => none
def collisionOf_ann (F : List (List Int)) (S : List (List Int)) : Nat → Option Ann
  | 0 => some (Ann.mk ((Nat)) (fun p => ⟨[(1, .c (.ptr 1 0)), (3, .c (.int .i64 ((F.length : Int)))), (15, .c (.int .i64 (((F.length * F.length : Nat) : Int)))), (16, .c (.int .i64 ((p : Int))))], [(1, some (.box [.ro (.rows .i64 (F)), .ro (.rows .i64 (S))]))]⟩) (fun p => p ≤ F.length * F.length ∧ coF F S = firstO (F.length * F.length) (coX F S) (F.length * F.length - p)) (fun p => F.length * F.length - p) (fun p => fun b_ => match b_ with | 2 => some (Ann.mk ((Nat)) (fun q => ⟨[(1, .c (.ptr 1 0)), (3, .c (.int .i64 ((F.length : Int)))), (15, .c (.int .i64 (((F.length * F.length : Nat) : Int)))), (16, .c (.int .i64 ((p : Int)))), (4, .c (.int .i64 ((p : Int)))), (5, .c (.int .i64 (((p / F.length : Nat) : Int)))), (6, .c (.int .i64 (((p % F.length : Nat) : Int)))), (27, .c (.int .i64 (((F.length * F.length : Nat) : Int)))), (28, .c (.int .i64 ((q : Int))))], [(1, some (.box [.ro (.rows .i64 (F)), .ro (.rows .i64 (S))]))]⟩) (fun q => q ≤ F.length * F.length ∧ p < F.length * F.length ∧ coF F S = (firstO (F.length * F.length) (coZ F S p) (F.length * F.length - q)).or (firstO (F.length * F.length) (coX F S) (F.length * F.length - (p + 1)))) (fun q => F.length * F.length - q) (fun _ => noAnn)) | _ => none))
  | _ => none
def collisionOf_G : List (Nat × Ctr) := []
def collisionOf_V (F : List (List Int)) (S : List (List Int)) : Prop :=
  ((Go.Sx.InR ((↑(List.length F) : Int) * (↑(List.length F) : Int))) ∧
  ((∃ x0 : Nat, (((x0 ≤ List.length F * List.length F) ∧
  (Go.Sx.coF F S = Go.Sx.firstO (List.length F * List.length F) (Go.Sx.coX F S) (List.length F * List.length F - x0))) ∧
  (((↑(List.length F) : Int) = (↑(List.length F) : Int)) ∧
  (((↑(List.length F) : Int) * (↑(List.length F) : Int) = (↑(List.length F * List.length F) : Int)) ∧
  (((0 : Int) = (↑x0 : Int)) ∧
  ((F = F) ∧
  (S = S))))))) ∧
  (∀ x1 : Nat, (((x1 ≤ List.length F * List.length F) ∧
  (Go.Sx.coF F S = Go.Sx.firstO (List.length F * List.length F) (Go.Sx.coX F S) (List.length F * List.length F - x1))) →
  (BrP (Decidable.decide ((↑x1 : Int) < (↑(List.length F * List.length F) : Int)))
    ((((↑(List.length F) : Int) ≠ (0 : Int)) ∧
    (Go.Sx.InR (Int.tdiv (↑x1 : Int) (↑(List.length F) : Int)))) ∧
    (((↑(List.length F) : Int) ≠ (0 : Int)) ∧
    ((Go.Sx.InR ((↑(List.length F) : Int) * (↑(List.length F) : Int))) ∧
    ((∃ x2 : Nat, (((x2 ≤ List.length F * List.length F) ∧
    ((x1 < List.length F * List.length F) ∧
    (Go.Sx.coF F S = Option.or (Go.Sx.firstO (List.length F * List.length F) (Go.Sx.coZ F S x1) (List.length F * List.length F - x2)) (Go.Sx.firstO (List.length F * List.length F) (Go.Sx.coX F S) (List.length F * List.length F - (x1 + (1 : Nat))))))) ∧
    (((↑(List.length F) : Int) = (↑(List.length F) : Int)) ∧
    (((↑(List.length F * List.length F) : Int) = (↑(List.length F * List.length F) : Int)) ∧
    (((↑x1 : Int) = (↑x1 : Int)) ∧
    (((↑x1 : Int) = (↑x1 : Int)) ∧
    ((Int.tdiv (↑x1 : Int) (↑(List.length F) : Int) = (↑(x1 / List.length F) : Int)) ∧
    ((Int.tmod (↑x1 : Int) (↑(List.length F) : Int) = (↑(x1 % List.length F) : Int)) ∧
    (((↑(List.length F) : Int) * (↑(List.length F) : Int) = (↑(List.length F * List.length F) : Int)) ∧
    (((0 : Int) = (↑x2 : Int)) ∧
    ((F = F) ∧
    (S = S)))))))))))) ∧
    (∀ x3 : Nat, (((x3 ≤ List.length F * List.length F) ∧
    ((x1 < List.length F * List.length F) ∧
    (Go.Sx.coF F S = Option.or (Go.Sx.firstO (List.length F * List.length F) (Go.Sx.coZ F S x1) (List.length F * List.length F - x3)) (Go.Sx.firstO (List.length F * List.length F) (Go.Sx.coX F S) (List.length F * List.length F - (x1 + (1 : Nat))))))) →
    (BrP (Decidable.decide ((↑x3 : Int) < (↑(List.length F * List.length F) : Int)))
      ((((↑(List.length F) : Int) ≠ (0 : Int)) ∧
      (Go.Sx.InR (Int.tdiv (↑x3 : Int) (↑(List.length F) : Int)))) ∧
      (((↑(List.length F) : Int) ≠ (0 : Int)) ∧
      (BrP ((↑x1 : Int) != (↑x3 : Int))
        ((Go.Sx.inB (↑(x1 / List.length F) : Int) (List.length F)) ∧
        ((Go.Sx.inB (↑(x1 % List.length F) : Int) (List.length (List.getD F (Int.toNat (↑(x1 / List.length F) : Int)) []))) ∧
        ((Go.Sx.inB (Int.tdiv (↑x3 : Int) (↑(List.length F) : Int)) (List.length F)) ∧
        ((Go.Sx.inB (Int.tmod (↑x3 : Int) (↑(List.length F) : Int)) (List.length (List.getD F (Int.toNat (Int.tdiv (↑x3 : Int) (↑(List.length F) : Int))) []))) ∧
        (BrP (List.getD (List.getD F (Int.toNat (↑(x1 / List.length F) : Int)) []) (Int.toNat (↑(x1 % List.length F) : Int)) (0 : Int) == List.getD (List.getD F (Int.toNat (Int.tdiv (↑x3 : Int) (↑(List.length F) : Int))) []) (Int.toNat (Int.tmod (↑x3 : Int) (↑(List.length F) : Int))) (0 : Int))
          ((Go.Sx.inB (↑(x1 / List.length F) : Int) (List.length S)) ∧
          ((Go.Sx.inB (↑(x1 % List.length F) : Int) (List.length (List.getD S (Int.toNat (↑(x1 / List.length F) : Int)) []))) ∧
          ((Go.Sx.inB (Int.tdiv (↑x3 : Int) (↑(List.length F) : Int)) (List.length S)) ∧
          ((Go.Sx.inB (Int.tmod (↑x3 : Int) (↑(List.length F) : Int)) (List.length (List.getD S (Int.toNat (Int.tdiv (↑x3 : Int) (↑(List.length F) : Int))) []))) ∧
          (BrP (List.getD (List.getD S (Int.toNat (↑(x1 / List.length F) : Int)) []) (Int.toNat (↑(x1 % List.length F) : Int)) (0 : Int) == List.getD (List.getD S (Int.toNat (Int.tdiv (↑x3 : Int) (↑(List.length F) : Int))) []) (Int.toNat (Int.tmod (↑x3 : Int) (↑(List.length F) : Int))) (0 : Int))
            (((Bool.false = Option.isNone (Go.Sx.coF F S)) ∧
            (List.length [(↑(x1 / List.length F) : Int), (↑(x1 % List.length F) : Int), Int.tdiv (↑x3 : Int) (↑(List.length F) : Int), Int.tmod (↑x3 : Int) (↑(List.length F) : Int)] ≠ (0 : Nat))) ∧
            (True))
            ((Go.Sx.InR ((↑x3 : Int) + (1 : Int))) ∧
            (∃ x4 : Nat, (((x4 ≤ List.length F * List.length F) ∧
            ((x1 < List.length F * List.length F) ∧
            (Go.Sx.coF F S = Option.or (Go.Sx.firstO (List.length F * List.length F) (Go.Sx.coZ F S x1) (List.length F * List.length F - x4)) (Go.Sx.firstO (List.length F * List.length F) (Go.Sx.coX F S) (List.length F * List.length F - (x1 + (1 : Nat))))))) ∧
            ((List.length F * List.length F - x4 < List.length F * List.length F - x3) ∧
            (((↑(List.length F) : Int) = (↑(List.length F) : Int)) ∧
            (((↑(List.length F * List.length F) : Int) = (↑(List.length F * List.length F) : Int)) ∧
            (((↑x1 : Int) = (↑x1 : Int)) ∧
            (((↑x1 : Int) = (↑x1 : Int)) ∧
            (((↑(x1 / List.length F) : Int) = (↑(x1 / List.length F) : Int)) ∧
            (((↑(x1 % List.length F) : Int) = (↑(x1 % List.length F) : Int)) ∧
            (((↑(List.length F * List.length F) : Int) = (↑(List.length F * List.length F) : Int)) ∧
            (((↑x3 : Int) + (1 : Int) = (↑x4 : Int)) ∧
            ((F = F) ∧
            (S = S)))))))))))))))))))
          ((Go.Sx.InR ((↑x3 : Int) + (1 : Int))) ∧
          (∃ x5 : Nat, (((x5 ≤ List.length F * List.length F) ∧
          ((x1 < List.length F * List.length F) ∧
          (Go.Sx.coF F S = Option.or (Go.Sx.firstO (List.length F * List.length F) (Go.Sx.coZ F S x1) (List.length F * List.length F - x5)) (Go.Sx.firstO (List.length F * List.length F) (Go.Sx.coX F S) (List.length F * List.length F - (x1 + (1 : Nat))))))) ∧
          ((List.length F * List.length F - x5 < List.length F * List.length F - x3) ∧
          (((↑(List.length F) : Int) = (↑(List.length F) : Int)) ∧
          (((↑(List.length F * List.length F) : Int) = (↑(List.length F * List.length F) : Int)) ∧
          (((↑x1 : Int) = (↑x1 : Int)) ∧
          (((↑x1 : Int) = (↑x1 : Int)) ∧
          (((↑(x1 / List.length F) : Int) = (↑(x1 / List.length F) : Int)) ∧
          (((↑(x1 % List.length F) : Int) = (↑(x1 % List.length F) : Int)) ∧
          (((↑(List.length F * List.length F) : Int) = (↑(List.length F * List.length F) : Int)) ∧
          (((↑x3 : Int) + (1 : Int) = (↑x5 : Int)) ∧
          ((F = F) ∧
          (S = S)))))))))))))))))))
        ((Go.Sx.InR ((↑x3 : Int) + (1 : Int))) ∧
        (∃ x6 : Nat, (((x6 ≤ List.length F * List.length F) ∧
        ((x1 < List.length F * List.length F) ∧
        (Go.Sx.coF F S = Option.or (Go.Sx.firstO (List.length F * List.length F) (Go.Sx.coZ F S x1) (List.length F * List.length F - x6)) (Go.Sx.firstO (List.length F * List.length F) (Go.Sx.coX F S) (List.length F * List.length F - (x1 + (1 : Nat))))))) ∧
        ((List.length F * List.length F - x6 < List.length F * List.length F - x3) ∧
        (((↑(List.length F) : Int) = (↑(List.length F) : Int)) ∧
        (((↑(List.length F * List.length F) : Int) = (↑(List.length F * List.length F) : Int)) ∧
        (((↑x1 : Int) = (↑x1 : Int)) ∧
        (((↑x1 : Int) = (↑x1 : Int)) ∧
        (((↑(x1 / List.length F) : Int) = (↑(x1 / List.length F) : Int)) ∧
        (((↑(x1 % List.length F) : Int) = (↑(x1 % List.length F) : Int)) ∧
        (((↑(List.length F * List.length F) : Int) = (↑(List.length F * List.length F) : Int)) ∧
        (((↑x3 : Int) + (1 : Int) = (↑x6 : Int)) ∧
        ((F = F) ∧
        (S = S)))))))))))))))))
      ((Go.Sx.InR ((↑x1 : Int) + (1 : Int))) ∧
      (∃ x7 : Nat, (((x7 ≤ List.length F * List.length F) ∧
      (Go.Sx.coF F S = Go.Sx.firstO (List.length F * List.length F) (Go.Sx.coX F S) (List.length F * List.length F - x7))) ∧
      ((List.length F * List.length F - x7 < List.length F * List.length F - x1) ∧
      (((↑(List.length F) : Int) = (↑(List.length F) : Int)) ∧
      (((↑(List.length F * List.length F) : Int) = (↑(List.length F * List.length F) : Int)) ∧
      (((↑x1 : Int) + (1 : Int) = (↑x7 : Int)) ∧
      ((F = F) ∧
      (S = S))))))))))))))))
    ((Bool.true = Option.isNone (Go.Sx.coF F S)) ∧
    (True)))))))
theorem collisionOf_vc (F : List (List Int)) (S : List (List Int)) : runF Try.prog (gam collisionOf_G) noWr (collisionOf_ann F S) Try.f153 (bodyOf Try.f153) [] [.agg [.rows .i64 (F), .rows .i64 (S)]] (collisionOf_p F S) = collisionOf_V F S := by kernel_rfl
theorem collisionOf_ok (F : List (List Int)) (S : List (List Int)) (hpre : (collisionOf_p F S).pre) : collisionOf_V F S := by
  simp only [collisionOf_p, collisionOf_V, BrP_iff, true_and, and_true, decide_eq_true_eq, decide_eq_false_iff_not, bne_iff_ne, beq_iff_eq, bne_eq_false_iff_eq, beq_eq_false_iff_ne, Bool.not_eq_true, Bool.not_eq_false, Bool.not_true, Bool.not_false, Bool.not_eq_eq_eq_not, Int.toNat_natCast, List.length_append, List.length_take, List.length_replicate, List.length_set, List.length_map, List.length_drop, List.length_nil, List.length_cons, markL_length, inB, InR, room, bdsOk] at hpre ⊢
  obtain ⟨n1, n2, hl, hF, hS⟩ := pm_in hpre
  have nn : F.length * F.length ≤ 144 := Nat.mul_le_mul n2 n2
  have cN : (F.length : Int) * (F.length : Int) = ((F.length * F.length : Nat) : Int) := (Int.natCast_mul _ _).symm
  have q0 : ∀ p, p < F.length * F.length → p / F.length < F.length ∧ p % F.length < F.length := fun p hp => pair_in hp
  have hz : ∀ p q, p < F.length * F.length → q < F.length * F.length → ∀ {r}, coF F S = (firstO (F.length * F.length) (coZ F S p) (F.length * F.length - q)).or r →
      (coQ F S p q → coF F S = some [((p / F.length : Nat) : Int), ((p % F.length : Nat) : Int), ((q / F.length : Nat) : Int), ((q % F.length : Nat) : Int)]) ∧
      (¬ coQ F S p q → coF F S = (firstO (F.length * F.length) (coZ F S p) (F.length * F.length - (q + 1))).or r) := fun p q hp hq {r} h => by
    rw [h, firstO_step _ _ q hq]
    exact ⟨fun h2 => by rw [coZ, if_pos h2]; rfl, fun h2 => by rw [show coZ F S p q = none from if_neg h2]; rfl⟩
  simp only [cN, tdiv_nat, tmod_nat, Int.toNat_natCast]
  generalize hN : F.length * F.length = N at *
  refine ⟨by omega, ⟨0, ⟨by omega, by rw [coF, hN]; rfl⟩, by trivial, by trivial⟩, fun p ⟨hp, hx⟩ => ⟨fun h => ?_, fun h => by rw [hx, show N - p = 0 by omega]; rfl⟩⟩
  have P := q0 p (by omega)
  have P0 := Int.natCast_nonneg (p / F.length)
  have P1 := Int.natCast_nonneg (p % F.length)
  refine ⟨by omega, by omega, by omega, ⟨0, ⟨by omega, by omega, ?_⟩, by trivial, by trivial, by trivial, by trivial⟩, fun q ⟨hq, _, hy⟩ => ⟨fun h3 => ?_, fun h3 => ?_⟩⟩
  · rw [hx, firstO_step _ _ p (by omega), coX, hN]; rfl
  · have Q := q0 q (by omega)
    have Q0 := Int.natCast_nonneg (q / F.length)
    have Q1 := Int.natCast_nonneg (q % F.length)
    have Z := hz p q (by omega) (by omega) hy
    have r1 := (hF (p / F.length) P.1).1
    have r2 := (hF (q / F.length) Q.1).1
    have r3 := (hS (p / F.length) P.1).1
    have r4 := (hS (q / F.length) Q.1).1
    refine ⟨by omega, by omega, fun e1 => ⟨by omega, by omega, by omega, by omega, fun e2 => ⟨by omega, by omega, by omega, by omega, fun e3 => ?_, fun e3 => ?_⟩, fun e2 => ?_⟩, fun e1 => ?_⟩
    · rw [Z.1 ⟨by omega, e2, e3⟩]; exact ⟨rfl, by omega⟩
    · exact ⟨by omega, q + 1, ⟨by omega, by omega, Z.2 fun c => e3 c.2.2⟩, by omega, by omega⟩
    · exact ⟨by omega, q + 1, ⟨by omega, by omega, Z.2 fun c => e2 c.2.1⟩, by omega, by omega⟩
    · exact ⟨by omega, q + 1, ⟨by omega, by omega, Z.2 fun c => c.1 (by omega)⟩, by omega, by omega⟩
  · refine ⟨by omega, p + 1, ⟨by omega, ?_⟩, by omega, by omega⟩
    rw [hy, show N - q = 0 by omega]; rfl
theorem collisionOf_fits : Fits Try.prog 153 ⟨[], collisionOf_ct⟩ := by
  refine fits_fn (Γ := gam collisionOf_G) gok_nil Try.func153 (by kernel_rfl) (by kernel_rfl) (by kernel_rfl) fun ds p h hp => ?_
  unfold collisionOf_ct at h
  split at h
  · cases h
    exact ⟨noWr, collisionOf_ann _ _ , by rw [collisionOf_vc]; exact collisionOf_ok _ _  hp⟩
  · cases h

def l02Collision_p (F : List (List Int)) (S : List (List Int)) : Post := ⟨pmB F S = true, .c (.ints 2 .i64 ((coF F S).getD [])), []⟩
def l02Collision_ct : List AD → Option Post
  | [.agg [.rows .i64 (F), .rows .i64 (S)]] => some (l02Collision_p F S)
  | _ => none
def l02Collision_ann (F : List (List Int)) (S : List (List Int)) : Nat → Option Ann
  | 0 => some (Ann.mk ((Nat)) (fun p => ⟨[(1, .c (.ptr 1 0)), (3, .c (.int .i64 ((F.length : Int)))), (4, .c (.int .i64 ((p : Int))))], [(1, some (.box [.ro (.rows .i64 (F)), .ro (.rows .i64 (S))]))]⟩) (fun p => p ≤ F.length * F.length ∧ coF F S = firstO (F.length * F.length) (coX F S) (F.length * F.length - p)) (fun p => F.length * F.length - p) (fun p => fun b_ => match b_ with | 2 => some (Ann.mk ((Nat)) (fun q => ⟨[(1, .c (.ptr 1 0)), (3, .c (.int .i64 ((F.length : Int)))), (4, .c (.int .i64 ((p : Int)))), (5, .c (.int .i64 ((q : Int))))], [(1, some (.box [.ro (.rows .i64 (F)), .ro (.rows .i64 (S))]))]⟩) (fun q => q ≤ F.length * F.length ∧ p < F.length * F.length ∧ coF F S = (firstO (F.length * F.length) (coZ F S p) (F.length * F.length - q)).or (firstO (F.length * F.length) (coX F S) (F.length * F.length - (p + 1)))) (fun q => F.length * F.length - q) (fun _ => noAnn)) | _ => none))
  | _ => none
def l02Collision_G : List (Nat × Ctr) := []
def l02Collision_V (F : List (List Int)) (S : List (List Int)) : Prop :=
  ((∃ x0 : Nat, (((x0 ≤ List.length F * List.length F) ∧
  (Go.Sx.coF F S = Go.Sx.firstO (List.length F * List.length F) (Go.Sx.coX F S) (List.length F * List.length F - x0))) ∧
  (((↑(List.length F) : Int) = (↑(List.length F) : Int)) ∧
  (((0 : Int) = (↑x0 : Int)) ∧
  ((F = F) ∧
  (S = S)))))) ∧
  (∀ x1 : Nat, (((x1 ≤ List.length F * List.length F) ∧
  (Go.Sx.coF F S = Go.Sx.firstO (List.length F * List.length F) (Go.Sx.coX F S) (List.length F * List.length F - x1))) →
  ((Go.Sx.InR ((↑(List.length F) : Int) * (↑(List.length F) : Int))) ∧
  (BrP (Decidable.decide ((↑x1 : Int) < (↑(List.length F) : Int) * (↑(List.length F) : Int)))
    ((∃ x2 : Nat, (((x2 ≤ List.length F * List.length F) ∧
    ((x1 < List.length F * List.length F) ∧
    (Go.Sx.coF F S = Option.or (Go.Sx.firstO (List.length F * List.length F) (Go.Sx.coZ F S x1) (List.length F * List.length F - x2)) (Go.Sx.firstO (List.length F * List.length F) (Go.Sx.coX F S) (List.length F * List.length F - (x1 + (1 : Nat))))))) ∧
    (((↑(List.length F) : Int) = (↑(List.length F) : Int)) ∧
    (((↑x1 : Int) = (↑x1 : Int)) ∧
    (((0 : Int) = (↑x2 : Int)) ∧
    ((F = F) ∧
    (S = S))))))) ∧
    (∀ x3 : Nat, (((x3 ≤ List.length F * List.length F) ∧
    ((x1 < List.length F * List.length F) ∧
    (Go.Sx.coF F S = Option.or (Go.Sx.firstO (List.length F * List.length F) (Go.Sx.coZ F S x1) (List.length F * List.length F - x3)) (Go.Sx.firstO (List.length F * List.length F) (Go.Sx.coX F S) (List.length F * List.length F - (x1 + (1 : Nat))))))) →
    ((Go.Sx.InR ((↑(List.length F) : Int) * (↑(List.length F) : Int))) ∧
    (BrP (Decidable.decide ((↑x3 : Int) < (↑(List.length F) : Int) * (↑(List.length F) : Int)))
      ((((↑(List.length F) : Int) ≠ (0 : Int)) ∧
      (Go.Sx.InR (Int.tdiv (↑x1 : Int) (↑(List.length F) : Int)))) ∧
      (((↑(List.length F) : Int) ≠ (0 : Int)) ∧
      ((((↑(List.length F) : Int) ≠ (0 : Int)) ∧
      (Go.Sx.InR (Int.tdiv (↑x3 : Int) (↑(List.length F) : Int)))) ∧
      (((↑(List.length F) : Int) ≠ (0 : Int)) ∧
      (BrP ((↑x1 : Int) != (↑x3 : Int))
        ((Go.Sx.inB (Int.tdiv (↑x1 : Int) (↑(List.length F) : Int)) (List.length F)) ∧
        ((Go.Sx.inB (Int.tmod (↑x1 : Int) (↑(List.length F) : Int)) (List.length (List.getD F (Int.toNat (Int.tdiv (↑x1 : Int) (↑(List.length F) : Int))) []))) ∧
        ((Go.Sx.inB (Int.tdiv (↑x3 : Int) (↑(List.length F) : Int)) (List.length F)) ∧
        ((Go.Sx.inB (Int.tmod (↑x3 : Int) (↑(List.length F) : Int)) (List.length (List.getD F (Int.toNat (Int.tdiv (↑x3 : Int) (↑(List.length F) : Int))) []))) ∧
        (BrP (List.getD (List.getD F (Int.toNat (Int.tdiv (↑x1 : Int) (↑(List.length F) : Int))) []) (Int.toNat (Int.tmod (↑x1 : Int) (↑(List.length F) : Int))) (0 : Int) == List.getD (List.getD F (Int.toNat (Int.tdiv (↑x3 : Int) (↑(List.length F) : Int))) []) (Int.toNat (Int.tmod (↑x3 : Int) (↑(List.length F) : Int))) (0 : Int))
          ((Go.Sx.inB (Int.tdiv (↑x1 : Int) (↑(List.length F) : Int)) (List.length S)) ∧
          ((Go.Sx.inB (Int.tmod (↑x1 : Int) (↑(List.length F) : Int)) (List.length (List.getD S (Int.toNat (Int.tdiv (↑x1 : Int) (↑(List.length F) : Int))) []))) ∧
          ((Go.Sx.inB (Int.tdiv (↑x3 : Int) (↑(List.length F) : Int)) (List.length S)) ∧
          ((Go.Sx.inB (Int.tmod (↑x3 : Int) (↑(List.length F) : Int)) (List.length (List.getD S (Int.toNat (Int.tdiv (↑x3 : Int) (↑(List.length F) : Int))) []))) ∧
          (BrP (List.getD (List.getD S (Int.toNat (Int.tdiv (↑x1 : Int) (↑(List.length F) : Int))) []) (Int.toNat (Int.tmod (↑x1 : Int) (↑(List.length F) : Int))) (0 : Int) == List.getD (List.getD S (Int.toNat (Int.tdiv (↑x3 : Int) (↑(List.length F) : Int))) []) (Int.toNat (Int.tmod (↑x3 : Int) (↑(List.length F) : Int))) (0 : Int))
            (([Int.tdiv (↑x1 : Int) (↑(List.length F) : Int), Int.tmod (↑x1 : Int) (↑(List.length F) : Int), Int.tdiv (↑x3 : Int) (↑(List.length F) : Int), Int.tmod (↑x3 : Int) (↑(List.length F) : Int)] = Option.getD (Go.Sx.coF F S) []) ∧
            (True))
            ((Go.Sx.InR ((↑x3 : Int) + (1 : Int))) ∧
            (∃ x4 : Nat, (((x4 ≤ List.length F * List.length F) ∧
            ((x1 < List.length F * List.length F) ∧
            (Go.Sx.coF F S = Option.or (Go.Sx.firstO (List.length F * List.length F) (Go.Sx.coZ F S x1) (List.length F * List.length F - x4)) (Go.Sx.firstO (List.length F * List.length F) (Go.Sx.coX F S) (List.length F * List.length F - (x1 + (1 : Nat))))))) ∧
            ((List.length F * List.length F - x4 < List.length F * List.length F - x3) ∧
            (((↑(List.length F) : Int) = (↑(List.length F) : Int)) ∧
            (((↑x1 : Int) = (↑x1 : Int)) ∧
            (((↑x3 : Int) + (1 : Int) = (↑x4 : Int)) ∧
            ((F = F) ∧
            (S = S))))))))))))))
          ((Go.Sx.InR ((↑x3 : Int) + (1 : Int))) ∧
          (∃ x5 : Nat, (((x5 ≤ List.length F * List.length F) ∧
          ((x1 < List.length F * List.length F) ∧
          (Go.Sx.coF F S = Option.or (Go.Sx.firstO (List.length F * List.length F) (Go.Sx.coZ F S x1) (List.length F * List.length F - x5)) (Go.Sx.firstO (List.length F * List.length F) (Go.Sx.coX F S) (List.length F * List.length F - (x1 + (1 : Nat))))))) ∧
          ((List.length F * List.length F - x5 < List.length F * List.length F - x3) ∧
          (((↑(List.length F) : Int) = (↑(List.length F) : Int)) ∧
          (((↑x1 : Int) = (↑x1 : Int)) ∧
          (((↑x3 : Int) + (1 : Int) = (↑x5 : Int)) ∧
          ((F = F) ∧
          (S = S))))))))))))))
        ((Go.Sx.InR ((↑x3 : Int) + (1 : Int))) ∧
        (∃ x6 : Nat, (((x6 ≤ List.length F * List.length F) ∧
        ((x1 < List.length F * List.length F) ∧
        (Go.Sx.coF F S = Option.or (Go.Sx.firstO (List.length F * List.length F) (Go.Sx.coZ F S x1) (List.length F * List.length F - x6)) (Go.Sx.firstO (List.length F * List.length F) (Go.Sx.coX F S) (List.length F * List.length F - (x1 + (1 : Nat))))))) ∧
        ((List.length F * List.length F - x6 < List.length F * List.length F - x3) ∧
        (((↑(List.length F) : Int) = (↑(List.length F) : Int)) ∧
        (((↑x1 : Int) = (↑x1 : Int)) ∧
        (((↑x3 : Int) + (1 : Int) = (↑x6 : Int)) ∧
        ((F = F) ∧
        (S = S))))))))))))))
      ((Go.Sx.InR ((↑x1 : Int) + (1 : Int))) ∧
      (∃ x7 : Nat, (((x7 ≤ List.length F * List.length F) ∧
      (Go.Sx.coF F S = Go.Sx.firstO (List.length F * List.length F) (Go.Sx.coX F S) (List.length F * List.length F - x7))) ∧
      ((List.length F * List.length F - x7 < List.length F * List.length F - x1) ∧
      (((↑(List.length F) : Int) = (↑(List.length F) : Int)) ∧
      (((↑x1 : Int) + (1 : Int) = (↑x7 : Int)) ∧
      ((F = F) ∧
      (S = S)))))))))))))
    (([] = Option.getD (Go.Sx.coF F S) []) ∧
    (True)))))))
theorem l02Collision_vc (F : List (List Int)) (S : List (List Int)) : runF Try.prog (gam l02Collision_G) noWr (l02Collision_ann F S) Try.f150 (bodyOf Try.f150) [] [.agg [.rows .i64 (F), .rows .i64 (S)]] (l02Collision_p F S) = l02Collision_V F S := by kernel_rfl
theorem l02Collision_ok (F : List (List Int)) (S : List (List Int)) (hpre : (l02Collision_p F S).pre) : l02Collision_V F S := by
  simp only [l02Collision_p, l02Collision_V, BrP_iff, true_and, and_true, decide_eq_true_eq, decide_eq_false_iff_not, bne_iff_ne, beq_iff_eq, bne_eq_false_iff_eq, beq_eq_false_iff_ne, Bool.not_eq_true, Bool.not_eq_false, Bool.not_true, Bool.not_false, Bool.not_eq_eq_eq_not, Int.toNat_natCast, List.length_append, List.length_take, List.length_replicate, List.length_set, List.length_map, List.length_drop, List.length_nil, List.length_cons, markL_length, inB, InR, room, bdsOk] at hpre ⊢
  obtain ⟨n1, n2, hl, hF, hS⟩ := pm_in hpre
  have nn : F.length * F.length ≤ 144 := Nat.mul_le_mul n2 n2
  have cN : (F.length : Int) * (F.length : Int) = ((F.length * F.length : Nat) : Int) := (Int.natCast_mul _ _).symm
  have q0 : ∀ p, p < F.length * F.length → p / F.length < F.length ∧ p % F.length < F.length := fun p hp => pair_in hp
  have hz : ∀ p q, p < F.length * F.length → q < F.length * F.length → ∀ {r}, coF F S = (firstO (F.length * F.length) (coZ F S p) (F.length * F.length - q)).or r →
      (coQ F S p q → coF F S = some [((p / F.length : Nat) : Int), ((p % F.length : Nat) : Int), ((q / F.length : Nat) : Int), ((q % F.length : Nat) : Int)]) ∧
      (¬ coQ F S p q → coF F S = (firstO (F.length * F.length) (coZ F S p) (F.length * F.length - (q + 1))).or r) := fun p q hp hq {r} h => by
    rw [h, firstO_step _ _ q hq]
    exact ⟨fun h2 => by rw [coZ, if_pos h2]; rfl, fun h2 => by rw [show coZ F S p q = none from if_neg h2]; rfl⟩
  simp only [cN, tdiv_nat, tmod_nat, Int.toNat_natCast]
  generalize hN : F.length * F.length = N at *
  refine ⟨⟨0, ⟨by omega, by rw [coF, hN]; rfl⟩, rfl⟩, fun p ⟨hp, hx⟩ => ⟨by omega, fun h => ?_, fun h => by rw [hx, show N - p = 0 by omega]; rfl⟩⟩
  have P := q0 p (by omega)
  have P0 := Int.natCast_nonneg (p / F.length)
  have P1 := Int.natCast_nonneg (p % F.length)
  refine ⟨⟨0, ⟨by omega, by omega, ?_⟩, rfl⟩, fun q ⟨hq, _, hy⟩ => ⟨by omega, fun h3 => ?_, fun h3 => ?_⟩⟩
  · rw [hx, firstO_step _ _ p (by omega), coX, hN]; rfl
  · have Q := q0 q (by omega)
    have Q0 := Int.natCast_nonneg (q / F.length)
    have Q1 := Int.natCast_nonneg (q % F.length)
    have Z := hz p q (by omega) (by omega) hy
    have r1 := (hF (p / F.length) P.1).1
    have r2 := (hF (q / F.length) Q.1).1
    have r3 := (hS (p / F.length) P.1).1
    have r4 := (hS (q / F.length) Q.1).1
    refine ⟨by omega, by omega, by omega, by omega, fun e1 => ⟨by omega, by omega, by omega, by omega, fun e2 => ⟨by omega, by omega, by omega, by omega, fun e3 => ?_, fun e3 => ?_⟩, fun e2 => ?_⟩, fun e1 => ?_⟩
    · rw [Z.1 ⟨by omega, e2, e3⟩]; rfl
    · exact ⟨by omega, q + 1, ⟨by omega, by omega, Z.2 fun c => e3 c.2.2⟩, by omega, by omega⟩
    · exact ⟨by omega, q + 1, ⟨by omega, by omega, Z.2 fun c => e2 c.2.1⟩, by omega, by omega⟩
    · exact ⟨by omega, q + 1, ⟨by omega, by omega, Z.2 fun c => c.1 (by omega)⟩, by omega, by omega⟩
  · refine ⟨by omega, p + 1, ⟨by omega, ?_⟩, by omega, by omega⟩
    rw [hy, show N - q = 0 by omega]; rfl
theorem l02Collision_fits : Fits Try.prog 150 ⟨[], l02Collision_ct⟩ := by
  refine fits_fn (Γ := gam l02Collision_G) gok_nil Try.func150 (by kernel_rfl) (by kernel_rfl) (by kernel_rfl) fun ds p h hp => ?_
  unfold l02Collision_ct at h
  split at h
  · cases h
    exact ⟨noWr, l02Collision_ann _ _ , by rw [l02Collision_vc]; exact l02Collision_ok _ _  hp⟩
  · cases h

def inN (n : Nat) (l : List Int) : Prop := ∀ i, i < l.length → 0 ≤ l.getD i 0 ∧ l.getD i 0 < (n : Int)

/-- Two neighbours in a list, led by a pair of tables. -/
def doL (F S : List (List Int)) (l : List Int) (i : Nat) : List Int :=
  (l.set i (en F (l.getD i 0).toNat (l.getD (i + 1) 0).toNat)).set (i + 1) (en S (l.getD i 0).toNat (l.getD (i + 1) 0).toNat)

theorem doL_len (F S : List (List Int)) (l : List Int) (i : Nat) : (doL F S l i).length = l.length := by simp [doL]

theorem set_getD (l : List Int) (i j : Nat) (v : Int) (h : i < l.length) : (l.set i v).getD j 0 = if j = i then v else l.getD j 0 := by
  simp only [List.getD_eq_getElem?_getD, List.getElem?_set]
  split
  · rename_i e; subst e; simp [h]
  · rename_i e; rw [if_neg (Ne.symm e)]

theorem doL_in {F S : List (List Int)} (h : pmB F S = true) {l : List Int} (hl : inN F.length l) {i : Nat} (hi : i + 1 < l.length) : inN F.length (doL F S l i) := by
  obtain ⟨n1, n2, e, a, b⟩ := pm_in h
  intro j hj
  rw [doL_len] at hj
  have h1 := hl i (by omega)
  have h2 := hl (i + 1) hi
  have A := (a (l.getD i 0).toNat (by omega)).2 (l.getD (i + 1) 0).toNat (by omega)
  have B := (b (l.getD i 0).toNat (by omega)).2 (l.getD (i + 1) 0).toNat (by omega)
  unfold doL
  rw [set_getD _ _ _ _ (by rw [List.length_set]; omega), set_getD _ _ _ _ (by omega)]
  unfold en
  split
  · omega
  · split
    · omega
    · exact hl j hj

def l02Do_p (F : List (List Int)) (S : List (List Int)) (l : List Int) (i : Int) : Post := ⟨pmB F S = true ∧ inN F.length l ∧ 0 ≤ i ∧ i + 1 < (l.length : Int) ∧ l.length ≤ 1000, .c (.ints 2 .i64 (doL F S l i.toNat)), []⟩
def l02Do_ct : List AD → Option Post
  | [.agg [.rows .i64 (F), .rows .i64 (S)], .c (.ints .i64 (l)), .c (.int .i64 (i))] => some (l02Do_p F S l i)
  | _ => none
def l02Do_G : List (Nat × Ctr) := [(91, ⟨[], l01Own_ct⟩)]
def l02Do_V (F : List (List Int)) (S : List (List Int)) (l : List Int) (i : Int) : Prop :=
  (((Go.Sx.room (List.length l)) ∧
  (True)) ∧
  ((Go.Sx.inB i (List.length l)) ∧
  ((Go.Sx.inB (List.getD l (Int.toNat i) (0 : Int)) (List.length F)) ∧
  ((Go.Sx.InR (i + (1 : Int))) ∧
  ((Go.Sx.inB (i + (1 : Int)) (List.length l)) ∧
  ((Go.Sx.inB (List.getD l (Int.toNat (i + (1 : Int))) (0 : Int)) (List.length (List.getD F (Int.toNat (List.getD l (Int.toNat i) (0 : Int))) []))) ∧
  ((Go.Sx.inB i (List.length l)) ∧
  ((Go.Sx.InR (i + (1 : Int))) ∧
  ((Go.Sx.inB i (List.length l)) ∧
  ((Go.Sx.inB (List.getD l (Int.toNat i) (0 : Int)) (List.length S)) ∧
  ((Go.Sx.InR (i + (1 : Int))) ∧
  ((Go.Sx.inB (i + (1 : Int)) (List.length l)) ∧
  ((Go.Sx.inB (List.getD l (Int.toNat (i + (1 : Int))) (0 : Int)) (List.length (List.getD S (Int.toNat (List.getD l (Int.toNat i) (0 : Int))) []))) ∧
  ((Go.Sx.inB (i + (1 : Int)) (List.length (List.set l (Int.toNat i) (List.getD (List.getD F (Int.toNat (List.getD l (Int.toNat i) (0 : Int))) []) (Int.toNat (List.getD l (Int.toNat (i + (1 : Int))) (0 : Int))) (0 : Int))))) ∧
  ((List.set (List.set l (Int.toNat i) (List.getD (List.getD F (Int.toNat (List.getD l (Int.toNat i) (0 : Int))) []) (Int.toNat (List.getD l (Int.toNat (i + (1 : Int))) (0 : Int))) (0 : Int))) (Int.toNat (i + (1 : Int))) (List.getD (List.getD S (Int.toNat (List.getD l (Int.toNat i) (0 : Int))) []) (Int.toNat (List.getD l (Int.toNat (i + (1 : Int))) (0 : Int))) (0 : Int)) = Go.Sx.doL F S l (Int.toNat i)) ∧
  (True))))))))))))))))
theorem l02Do_vc (F : List (List Int)) (S : List (List Int)) (l : List Int) (i : Int) : runF Try.prog (gam l02Do_G) noWr noAnn Try.f162 (bodyOf Try.f162) [] [.agg [.rows .i64 (F), .rows .i64 (S)], .c (.ints .i64 (l)), .c (.int .i64 (i))] (l02Do_p F S l i) = l02Do_V F S l i := by kernel_rfl
theorem l02Do_ok (F : List (List Int)) (S : List (List Int)) (l : List Int) (i : Int) (hpre : (l02Do_p F S l i).pre) : l02Do_V F S l i := by
  simp only [l02Do_p, l02Do_V, BrP_iff, true_and, and_true, decide_eq_true_eq, decide_eq_false_iff_not, bne_iff_ne, beq_iff_eq, bne_eq_false_iff_eq, beq_eq_false_iff_ne, Bool.not_eq_true, Bool.not_eq_false, Bool.not_true, Bool.not_false, Bool.not_eq_eq_eq_not, Int.toNat_natCast, List.length_append, List.length_take, List.length_replicate, List.length_set, List.length_map, List.length_drop, List.length_nil, List.length_cons, markL_length, inB, InR, room, bdsOk] at hpre ⊢
  obtain ⟨h, hi, i0, i1, l0⟩ := hpre
  obtain ⟨n1, n2, hl, hF, hS⟩ := pm_in h
  have h1 := hi i.toNat (by omega)
  have h2 := hi (i + 1).toNat (by omega)
  have r1 := (hF (l.getD i.toNat 0).toNat (by omega)).1
  have r2 := (hS (l.getD i.toNat 0).toNat (by omega)).1
  have e : (i + 1).toNat = i.toNat + 1 := by omega
  refine ⟨by omega, by omega, by omega, by omega, by omega, by omega, by omega, by omega, by omega, by omega, by omega, by omega, by omega, by omega, ?_⟩
  rw [e]; rfl
theorem l02Do_fits : Fits Try.prog 162 ⟨[], l02Do_ct⟩ := by
  refine fits_fn (Γ := gam l02Do_G) (gok_cons l01Own_fits gok_nil) Try.func162 (by kernel_rfl) (by kernel_rfl) (by kernel_rfl) fun ds p h hp => ?_
  unfold l02Do_ct at h
  split at h
  · cases h
    exact ⟨noWr, noAnn, by rw [l02Do_vc]; exact l02Do_ok _ _ _ _  hp⟩
  · cases h

def ls3 (x y z : Nat) : List Int := [(x : Int), (y : Int), (z : Int)]
def eqQ (F S : List (List Int)) (x y z : Nat) : Prop := doL F S (doL F S (doL F S (ls3 x y z) 0) 1) 0 = doL F S (doL F S (doL F S (ls3 x y z) 1) 0) 1
instance (F S : List (List Int)) (x y z : Nat) : Decidable (eqQ F S x y z) := by unfold eqQ; infer_instance
def eqZ (F S : List (List Int)) (x y z : Nat) : Option (List Int) := if eqQ F S x y z then none else some (ls3 x y z)

theorem ls3_in {n x y z : Nat} (hx : x < n) (hy : y < n) (hz : z < n) : inN n [(x : Int), (y : Int), (z : Int)] := fun i hi => by
  match i, hi with
  | 0, _ => exact ⟨Int.natCast_nonneg x, Int.ofNat_lt.2 hx⟩
  | 1, _ => exact ⟨Int.natCast_nonneg y, Int.ofNat_lt.2 hy⟩
  | 2, _ => exact ⟨Int.natCast_nonneg z, Int.ofNat_lt.2 hz⟩
  | n + 3, h => exact absurd h (by simp)

/-- The equation at three elements, in full. -/
theorem eqQ_iff (F S : List (List Int)) (x y z : Nat) : eqQ F S x y z ↔
    en F (en F x y).toNat (en F (en S x y).toNat z).toNat = en F x (en F y z).toNat ∧
    en S (en F x y).toNat (en F (en S x y).toNat z).toNat = en F (en S x (en F y z).toNat).toNat (en S y z).toNat ∧
    en S (en S x y).toNat z = en S (en S x (en F y z).toNat).toNat (en S y z).toNat := by
  have e1 : doL F S (doL F S (doL F S (ls3 x y z) 0) 1) 0 = [en F (en F x y).toNat (en F (en S x y).toNat z).toNat, en S (en F x y).toNat (en F (en S x y).toNat z).toNat, en S (en S x y).toNat z] := rfl
  have e2 : doL F S (doL F S (doL F S (ls3 x y z) 1) 0) 1 = [en F x (en F y z).toNat, en F (en S x (en F y z).toNat).toNat (en S y z).toNat, en S (en S x (en F y z).toNat).toNat (en S y z).toNat] := rfl
  unfold eqQ
  rw [e1, e2]
  constructor
  · intro h
    injection h with h1 h
    injection h with h2 h
    injection h with h3 h
    exact ⟨h1, h2, h3⟩
  · rintro ⟨h1, h2, h3⟩
    rw [h1, h2, h3]

def eqY (F S : List (List Int)) (x y : Nat) : Option (List Int) := firstO F.length (eqZ F S x y) F.length
def eqX (F S : List (List Int)) (x : Nat) : Option (List Int) := firstO F.length (eqY F S x) F.length
def eqF (F S : List (List Int)) : Option (List Int) := firstO F.length (eqX F S) F.length

def l02Fault_p (F : List (List Int)) (S : List (List Int)) : Post := ⟨pmB F S = true, .c (.ints 2 .i64 ((eqF F S).getD [])), []⟩
def l02Fault_ct : List AD → Option Post
  | [.agg [.rows .i64 (F), .rows .i64 (S)]] => some (l02Fault_p F S)
  | _ => none
def l02Fault_ann (F : List (List Int)) (S : List (List Int)) : Nat → Option Ann
  | 0 => some (Ann.mk ((Nat)) (fun i => ⟨[(1, .c (.ptr 1 0)), (3, .c (.int .i64 ((F.length : Int)))), (4, .c (.int .i64 ((i : Int))))], [(1, some (.box [.ro (.rows .i64 (F)), .ro (.rows .i64 (S))]))]⟩) (fun i => i ≤ F.length ∧ eqF F S = firstO F.length (eqX F S) (F.length - i)) (fun i => F.length - i) (fun i => fun b_ => match b_ with | 2 => some (Ann.mk ((Nat)) (fun j => ⟨[(1, .c (.ptr 1 0)), (3, .c (.int .i64 ((F.length : Int)))), (4, .c (.int .i64 ((i : Int)))), (5, .c (.int .i64 ((j : Int))))], [(1, some (.box [.ro (.rows .i64 (F)), .ro (.rows .i64 (S))]))]⟩) (fun j => j ≤ F.length ∧ i < F.length ∧ eqF F S = (firstO F.length (eqY F S i) (F.length - j)).or (firstO F.length (eqX F S) (F.length - (i + 1)))) (fun j => F.length - j) (fun j => fun b_ => match b_ with | 4 => some (Ann.mk ((Nat)) (fun k => ⟨[(1, .c (.ptr 1 0)), (3, .c (.int .i64 ((F.length : Int)))), (4, .c (.int .i64 ((i : Int)))), (5, .c (.int .i64 ((j : Int)))), (6, .c (.int .i64 ((k : Int))))], [(1, some (.box [.ro (.rows .i64 (F)), .ro (.rows .i64 (S))]))]⟩) (fun k => k ≤ F.length ∧ j < F.length ∧ eqF F S = ((firstO F.length (eqZ F S i j) (F.length - k)).or (firstO F.length (eqY F S i) (F.length - (j + 1)))).or (firstO F.length (eqX F S) (F.length - (i + 1)))) (fun k => F.length - k) (fun _ => noAnn)) | _ => none)) | _ => none))
  | _ => none
def l02Fault_G : List (Nat × Ctr) := [(162, ⟨[], l02Do_ct⟩), (95, ⟨[], l01Same_ct⟩)]
def l02Fault_V (F : List (List Int)) (S : List (List Int)) : Prop :=
  ((∃ x0 : Nat, (((x0 ≤ List.length F) ∧
  (Go.Sx.eqF F S = Go.Sx.firstO (List.length F) (Go.Sx.eqX F S) (List.length F - x0))) ∧
  (((↑(List.length F) : Int) = (↑(List.length F) : Int)) ∧
  (((0 : Int) = (↑x0 : Int)) ∧
  ((F = F) ∧
  (S = S)))))) ∧
  (∀ x1 : Nat, (((x1 ≤ List.length F) ∧
  (Go.Sx.eqF F S = Go.Sx.firstO (List.length F) (Go.Sx.eqX F S) (List.length F - x1))) →
  (BrP (Decidable.decide ((↑x1 : Int) < (↑(List.length F) : Int)))
    ((∃ x2 : Nat, (((x2 ≤ List.length F) ∧
    ((x1 < List.length F) ∧
    (Go.Sx.eqF F S = Option.or (Go.Sx.firstO (List.length F) (Go.Sx.eqY F S x1) (List.length F - x2)) (Go.Sx.firstO (List.length F) (Go.Sx.eqX F S) (List.length F - (x1 + (1 : Nat))))))) ∧
    (((↑(List.length F) : Int) = (↑(List.length F) : Int)) ∧
    (((↑x1 : Int) = (↑x1 : Int)) ∧
    (((0 : Int) = (↑x2 : Int)) ∧
    ((F = F) ∧
    (S = S))))))) ∧
    (∀ x3 : Nat, (((x3 ≤ List.length F) ∧
    ((x1 < List.length F) ∧
    (Go.Sx.eqF F S = Option.or (Go.Sx.firstO (List.length F) (Go.Sx.eqY F S x1) (List.length F - x3)) (Go.Sx.firstO (List.length F) (Go.Sx.eqX F S) (List.length F - (x1 + (1 : Nat))))))) →
    (BrP (Decidable.decide ((↑x3 : Int) < (↑(List.length F) : Int)))
      ((∃ x4 : Nat, (((x4 ≤ List.length F) ∧
      ((x3 < List.length F) ∧
      (Go.Sx.eqF F S = Option.or (Option.or (Go.Sx.firstO (List.length F) (Go.Sx.eqZ F S x1 x3) (List.length F - x4)) (Go.Sx.firstO (List.length F) (Go.Sx.eqY F S x1) (List.length F - (x3 + (1 : Nat))))) (Go.Sx.firstO (List.length F) (Go.Sx.eqX F S) (List.length F - (x1 + (1 : Nat))))))) ∧
      (((↑(List.length F) : Int) = (↑(List.length F) : Int)) ∧
      (((↑x1 : Int) = (↑x1 : Int)) ∧
      (((↑x3 : Int) = (↑x3 : Int)) ∧
      (((0 : Int) = (↑x4 : Int)) ∧
      ((F = F) ∧
      (S = S)))))))) ∧
      (∀ x5 : Nat, (((x5 ≤ List.length F) ∧
      ((x3 < List.length F) ∧
      (Go.Sx.eqF F S = Option.or (Option.or (Go.Sx.firstO (List.length F) (Go.Sx.eqZ F S x1 x3) (List.length F - x5)) (Go.Sx.firstO (List.length F) (Go.Sx.eqY F S x1) (List.length F - (x3 + (1 : Nat))))) (Go.Sx.firstO (List.length F) (Go.Sx.eqX F S) (List.length F - (x1 + (1 : Nat))))))) →
      (BrP (Decidable.decide ((↑x5 : Int) < (↑(List.length F) : Int)))
        ((((Go.Sx.pmB F S = Bool.true) ∧
        ((Go.Sx.inN (List.length F) [(↑x1 : Int), (↑x3 : Int), (↑x5 : Int)]) ∧
        (((0 : Int) ≤ (0 : Int)) ∧
        (((0 : Int) + (1 : Int) < (↑(List.length [(↑x1 : Int), (↑x3 : Int), (↑x5 : Int)]) : Int)) ∧
        (List.length [(↑x1 : Int), (↑x3 : Int), (↑x5 : Int)] ≤ (1000 : Nat)))))) ∧
        (True)) ∧
        ((((Go.Sx.pmB F S = Bool.true) ∧
        ((Go.Sx.inN (List.length F) (Go.Sx.doL F S [(↑x1 : Int), (↑x3 : Int), (↑x5 : Int)] (Int.toNat (0 : Int)))) ∧
        (((0 : Int) ≤ (1 : Int)) ∧
        (((1 : Int) + (1 : Int) < (↑(List.length (Go.Sx.doL F S [(↑x1 : Int), (↑x3 : Int), (↑x5 : Int)] (Int.toNat (0 : Int)))) : Int)) ∧
        (List.length (Go.Sx.doL F S [(↑x1 : Int), (↑x3 : Int), (↑x5 : Int)] (Int.toNat (0 : Int))) ≤ (1000 : Nat)))))) ∧
        (True)) ∧
        ((((Go.Sx.pmB F S = Bool.true) ∧
        ((Go.Sx.inN (List.length F) (Go.Sx.doL F S (Go.Sx.doL F S [(↑x1 : Int), (↑x3 : Int), (↑x5 : Int)] (Int.toNat (0 : Int))) (Int.toNat (1 : Int)))) ∧
        (((0 : Int) ≤ (0 : Int)) ∧
        (((0 : Int) + (1 : Int) < (↑(List.length (Go.Sx.doL F S (Go.Sx.doL F S [(↑x1 : Int), (↑x3 : Int), (↑x5 : Int)] (Int.toNat (0 : Int))) (Int.toNat (1 : Int)))) : Int)) ∧
        (List.length (Go.Sx.doL F S (Go.Sx.doL F S [(↑x1 : Int), (↑x3 : Int), (↑x5 : Int)] (Int.toNat (0 : Int))) (Int.toNat (1 : Int))) ≤ (1000 : Nat)))))) ∧
        (True)) ∧
        ((((Go.Sx.pmB F S = Bool.true) ∧
        ((Go.Sx.inN (List.length F) [(↑x1 : Int), (↑x3 : Int), (↑x5 : Int)]) ∧
        (((0 : Int) ≤ (1 : Int)) ∧
        (((1 : Int) + (1 : Int) < (↑(List.length [(↑x1 : Int), (↑x3 : Int), (↑x5 : Int)]) : Int)) ∧
        (List.length [(↑x1 : Int), (↑x3 : Int), (↑x5 : Int)] ≤ (1000 : Nat)))))) ∧
        (True)) ∧
        ((((Go.Sx.pmB F S = Bool.true) ∧
        ((Go.Sx.inN (List.length F) (Go.Sx.doL F S [(↑x1 : Int), (↑x3 : Int), (↑x5 : Int)] (Int.toNat (1 : Int)))) ∧
        (((0 : Int) ≤ (0 : Int)) ∧
        (((0 : Int) + (1 : Int) < (↑(List.length (Go.Sx.doL F S [(↑x1 : Int), (↑x3 : Int), (↑x5 : Int)] (Int.toNat (1 : Int)))) : Int)) ∧
        (List.length (Go.Sx.doL F S [(↑x1 : Int), (↑x3 : Int), (↑x5 : Int)] (Int.toNat (1 : Int))) ≤ (1000 : Nat)))))) ∧
        (True)) ∧
        ((((Go.Sx.pmB F S = Bool.true) ∧
        ((Go.Sx.inN (List.length F) (Go.Sx.doL F S (Go.Sx.doL F S [(↑x1 : Int), (↑x3 : Int), (↑x5 : Int)] (Int.toNat (1 : Int))) (Int.toNat (0 : Int)))) ∧
        (((0 : Int) ≤ (1 : Int)) ∧
        (((1 : Int) + (1 : Int) < (↑(List.length (Go.Sx.doL F S (Go.Sx.doL F S [(↑x1 : Int), (↑x3 : Int), (↑x5 : Int)] (Int.toNat (1 : Int))) (Int.toNat (0 : Int)))) : Int)) ∧
        (List.length (Go.Sx.doL F S (Go.Sx.doL F S [(↑x1 : Int), (↑x3 : Int), (↑x5 : Int)] (Int.toNat (1 : Int))) (Int.toNat (0 : Int))) ≤ (1000 : Nat)))))) ∧
        (True)) ∧
        (((Go.Sx.room (List.length (Go.Sx.doL F S (Go.Sx.doL F S (Go.Sx.doL F S [(↑x1 : Int), (↑x3 : Int), (↑x5 : Int)] (Int.toNat (0 : Int))) (Int.toNat (1 : Int))) (Int.toNat (0 : Int))))) ∧
        (True)) ∧
        (BrP (!Decidable.decide (Go.Sx.doL F S (Go.Sx.doL F S (Go.Sx.doL F S [(↑x1 : Int), (↑x3 : Int), (↑x5 : Int)] (Int.toNat (0 : Int))) (Int.toNat (1 : Int))) (Int.toNat (0 : Int)) = Go.Sx.doL F S (Go.Sx.doL F S (Go.Sx.doL F S [(↑x1 : Int), (↑x3 : Int), (↑x5 : Int)] (Int.toNat (1 : Int))) (Int.toNat (0 : Int))) (Int.toNat (1 : Int))))
          (([(↑x1 : Int), (↑x3 : Int), (↑x5 : Int)] = Option.getD (Go.Sx.eqF F S) []) ∧
          (True))
          ((Go.Sx.InR ((↑x5 : Int) + (1 : Int))) ∧
          (∃ x6 : Nat, (((x6 ≤ List.length F) ∧
          ((x3 < List.length F) ∧
          (Go.Sx.eqF F S = Option.or (Option.or (Go.Sx.firstO (List.length F) (Go.Sx.eqZ F S x1 x3) (List.length F - x6)) (Go.Sx.firstO (List.length F) (Go.Sx.eqY F S x1) (List.length F - (x3 + (1 : Nat))))) (Go.Sx.firstO (List.length F) (Go.Sx.eqX F S) (List.length F - (x1 + (1 : Nat))))))) ∧
          ((List.length F - x6 < List.length F - x5) ∧
          (((↑(List.length F) : Int) = (↑(List.length F) : Int)) ∧
          (((↑x1 : Int) = (↑x1 : Int)) ∧
          (((↑x3 : Int) = (↑x3 : Int)) ∧
          (((↑x5 : Int) + (1 : Int) = (↑x6 : Int)) ∧
          ((F = F) ∧
          (S = S))))))))))))))))))
        ((Go.Sx.InR ((↑x3 : Int) + (1 : Int))) ∧
        (∃ x7 : Nat, (((x7 ≤ List.length F) ∧
        ((x1 < List.length F) ∧
        (Go.Sx.eqF F S = Option.or (Go.Sx.firstO (List.length F) (Go.Sx.eqY F S x1) (List.length F - x7)) (Go.Sx.firstO (List.length F) (Go.Sx.eqX F S) (List.length F - (x1 + (1 : Nat))))))) ∧
        ((List.length F - x7 < List.length F - x3) ∧
        (((↑(List.length F) : Int) = (↑(List.length F) : Int)) ∧
        (((↑x1 : Int) = (↑x1 : Int)) ∧
        (((↑x3 : Int) + (1 : Int) = (↑x7 : Int)) ∧
        ((F = F) ∧
        (S = S)))))))))))))
      ((Go.Sx.InR ((↑x1 : Int) + (1 : Int))) ∧
      (∃ x8 : Nat, (((x8 ≤ List.length F) ∧
      (Go.Sx.eqF F S = Go.Sx.firstO (List.length F) (Go.Sx.eqX F S) (List.length F - x8))) ∧
      ((List.length F - x8 < List.length F - x1) ∧
      (((↑(List.length F) : Int) = (↑(List.length F) : Int)) ∧
      (((↑x1 : Int) + (1 : Int) = (↑x8 : Int)) ∧
      ((F = F) ∧
      (S = S))))))))))))
    (([] = Option.getD (Go.Sx.eqF F S) []) ∧
    (True))))))
theorem l02Fault_vc (F : List (List Int)) (S : List (List Int)) : runF Try.prog (gam l02Fault_G) noWr (l02Fault_ann F S) Try.f151 (bodyOf Try.f151) [] [.agg [.rows .i64 (F), .rows .i64 (S)]] (l02Fault_p F S) = l02Fault_V F S := by kernel_rfl
theorem l02Fault_ok (F : List (List Int)) (S : List (List Int)) (hpre : (l02Fault_p F S).pre) : l02Fault_V F S := by
  simp only [l02Fault_p, l02Fault_V, BrP_iff, true_and, and_true, decide_eq_true_eq, decide_eq_false_iff_not, bne_iff_ne, beq_iff_eq, bne_eq_false_iff_eq, beq_eq_false_iff_ne, Bool.not_eq_true, Bool.not_eq_false, Bool.not_true, Bool.not_false, Bool.not_eq_eq_eq_not, Int.toNat_natCast, List.length_append, List.length_take, List.length_replicate, List.length_set, List.length_map, List.length_drop, List.length_nil, List.length_cons, markL_length, inB, InR, room, bdsOk] at hpre ⊢
  obtain ⟨n1, n2, hl, hF, hS⟩ := pm_in hpre
  refine ⟨⟨0, ⟨by omega, rfl⟩, rfl⟩, fun i ⟨hi, hx⟩ => ⟨fun h => ⟨⟨0, ⟨by omega, by omega, ?_⟩, rfl⟩, fun j ⟨hj, _, hy⟩ => ⟨fun h2 => ⟨⟨0, ⟨by omega, by omega, ?_⟩, rfl⟩, fun k ⟨hk, _, hz⟩ => ⟨fun h3 => ?_, fun h3 => ?_⟩⟩, fun h2 => ?_⟩⟩, fun h => ?_⟩⟩
  · rw [hx, firstO_step _ _ i (by omega)]; rfl
  · rw [hy, firstO_step _ _ j (by omega)]; rfl
  · have i3 : inN F.length [(i : Int), (j : Int), (k : Int)] := ls3_in (by omega) (by omega) (by omega)
    have a1 := doL_in hpre i3 (i := 0) (by simp)
    have a2 := doL_in hpre a1 (i := 1) (by rw [doL_len]; simp)
    have b1 := doL_in hpre i3 (i := 1) (by simp)
    have b2 := doL_in hpre b1 (i := 0) (by rw [doL_len]; simp)
    refine ⟨⟨hpre, i3, by omega, by omega, by omega⟩, ⟨hpre, a1, by omega, by rw [doL_len]; simp, by rw [doL_len]; simp⟩, ⟨hpre, a2, by omega, by rw [doL_len, doL_len]; simp, by rw [doL_len, doL_len]; simp⟩,
      ⟨hpre, i3, by omega, by omega, by omega⟩, ⟨hpre, b1, by omega, by rw [doL_len]; simp, by rw [doL_len]; simp⟩, ⟨hpre, b2, by omega, by rw [doL_len, doL_len]; simp, by rw [doL_len, doL_len]; simp⟩, by rw [doL_len, doL_len, doL_len]; simp, fun h4 => ?_, fun h4 => ⟨by omega, k + 1, ⟨by omega, by omega, ?_⟩, by omega, by omega⟩⟩
    · rw [hz, firstO_step _ _ k (by omega), show eqZ F S i j k = some (ls3 i j k) from if_neg h4]; rfl
    · rw [hz, firstO_step _ _ k (by omega), show eqZ F S i j k = none from if_pos h4]; rfl
  · refine ⟨by omega, j + 1, ⟨by omega, by omega, ?_⟩, by omega, by omega⟩
    rw [hz, show F.length - k = 0 by omega]; rfl
  · refine ⟨by omega, i + 1, ⟨by omega, ?_⟩, by omega, by omega⟩
    rw [hy, show F.length - j = 0 by omega]; rfl
  · rw [hx, show F.length - i = 0 by omega]; rfl
theorem l02Fault_fits : Fits Try.prog 151 ⟨[], l02Fault_ct⟩ := by
  refine fits_fn (Γ := gam l02Fault_G) (gok_cons l02Do_fits (gok_cons l01Same_fits gok_nil)) Try.func151 (by kernel_rfl) (by kernel_rfl) (by kernel_rfl) fun ds p h hp => ?_
  unfold l02Fault_ct at h
  split at h
  · cases h
    exact ⟨noWr, l02Fault_ann _ _ , by rw [l02Fault_vc]; exact l02Fault_ok _ _  hp⟩
  · cases h

set_option maxHeartbeats 4000000

def equationFault_p (F : List (List Int)) (S : List (List Int)) : Post := ⟨pmB F S = true, .c (.nilq ((eqF F S).isNone)), []⟩
def equationFault_ct : List AD → Option Post
  | [.agg [.rows .i64 (F), .rows .i64 (S)]] => some (equationFault_p F S)
  | _ => none
def equationFault_ann (F : List (List Int)) (S : List (List Int)) : Nat → Option Ann
  | 0 => some (Ann.mk ((Nat)) (fun i => ⟨[(1, .c (.ptr 1 0)), (3, .c (.int .i64 ((F.length : Int)))), (16, .c (.int .i64 ((F.length : Int)))), (17, .c (.int .i64 ((i : Int))))], [(1, some (.box [.ro (.rows .i64 (F)), .ro (.rows .i64 (S))]))]⟩) (fun i => i ≤ F.length ∧ eqF F S = firstO F.length (eqX F S) (F.length - i)) (fun i => F.length - i) (fun i => fun b_ => match b_ with | 2 => some (Ann.mk ((Nat)) (fun j => ⟨[(1, .c (.ptr 1 0)), (3, .c (.int .i64 ((F.length : Int)))), (16, .c (.int .i64 ((F.length : Int)))), (17, .c (.int .i64 ((i : Int)))), (4, .c (.int .i64 ((i : Int)))), (20, .c (.int .i64 ((F.length : Int)))), (21, .c (.int .i64 ((j : Int))))], [(1, some (.box [.ro (.rows .i64 (F)), .ro (.rows .i64 (S))]))]⟩) (fun j => j ≤ F.length ∧ i < F.length ∧ eqF F S = (firstO F.length (eqY F S i) (F.length - j)).or (firstO F.length (eqX F S) (F.length - (i + 1)))) (fun j => F.length - j) (fun j => fun b_ => match b_ with | 4 => some (Ann.mk ((Nat)) (fun k => ⟨[(1, .c (.ptr 1 0)), (3, .c (.int .i64 ((F.length : Int)))), (16, .c (.int .i64 ((F.length : Int)))), (17, .c (.int .i64 ((i : Int)))), (4, .c (.int .i64 ((i : Int)))), (20, .c (.int .i64 ((F.length : Int)))), (21, .c (.int .i64 ((j : Int)))), (5, .c (.int .i64 ((j : Int)))), (24, .c (.int .i64 ((F.length : Int)))), (25, .c (.int .i64 ((k : Int))))], [(1, some (.box [.ro (.rows .i64 (F)), .ro (.rows .i64 (S))]))]⟩) (fun k => k ≤ F.length ∧ j < F.length ∧ eqF F S = ((firstO F.length (eqZ F S i j) (F.length - k)).or (firstO F.length (eqY F S i) (F.length - (j + 1)))).or (firstO F.length (eqX F S) (F.length - (i + 1)))) (fun k => F.length - k) (fun _ => noAnn)) | _ => none)) | _ => none))
  | _ => none
def equationFault_G : List (Nat × Ctr) := []
def equationFault_V (F : List (List Int)) (S : List (List Int)) : Prop :=
  ((∃ x0 : Nat, (((x0 ≤ List.length F) ∧
  (Go.Sx.eqF F S = Go.Sx.firstO (List.length F) (Go.Sx.eqX F S) (List.length F - x0))) ∧
  (((↑(List.length F) : Int) = (↑(List.length F) : Int)) ∧
  (((↑(List.length F) : Int) = (↑(List.length F) : Int)) ∧
  (((0 : Int) = (↑x0 : Int)) ∧
  ((F = F) ∧
  (S = S))))))) ∧
  (∀ x1 : Nat, (((x1 ≤ List.length F) ∧
  (Go.Sx.eqF F S = Go.Sx.firstO (List.length F) (Go.Sx.eqX F S) (List.length F - x1))) →
  (BrP (Decidable.decide ((↑x1 : Int) < (↑(List.length F) : Int)))
    ((∃ x2 : Nat, (((x2 ≤ List.length F) ∧
    ((x1 < List.length F) ∧
    (Go.Sx.eqF F S = Option.or (Go.Sx.firstO (List.length F) (Go.Sx.eqY F S x1) (List.length F - x2)) (Go.Sx.firstO (List.length F) (Go.Sx.eqX F S) (List.length F - (x1 + (1 : Nat))))))) ∧
    (((↑(List.length F) : Int) = (↑(List.length F) : Int)) ∧
    (((↑(List.length F) : Int) = (↑(List.length F) : Int)) ∧
    (((↑x1 : Int) = (↑x1 : Int)) ∧
    (((↑x1 : Int) = (↑x1 : Int)) ∧
    (((↑(List.length F) : Int) = (↑(List.length F) : Int)) ∧
    (((0 : Int) = (↑x2 : Int)) ∧
    ((F = F) ∧
    (S = S)))))))))) ∧
    (∀ x3 : Nat, (((x3 ≤ List.length F) ∧
    ((x1 < List.length F) ∧
    (Go.Sx.eqF F S = Option.or (Go.Sx.firstO (List.length F) (Go.Sx.eqY F S x1) (List.length F - x3)) (Go.Sx.firstO (List.length F) (Go.Sx.eqX F S) (List.length F - (x1 + (1 : Nat))))))) →
    (BrP (Decidable.decide ((↑x3 : Int) < (↑(List.length F) : Int)))
      ((∃ x4 : Nat, (((x4 ≤ List.length F) ∧
      ((x3 < List.length F) ∧
      (Go.Sx.eqF F S = Option.or (Option.or (Go.Sx.firstO (List.length F) (Go.Sx.eqZ F S x1 x3) (List.length F - x4)) (Go.Sx.firstO (List.length F) (Go.Sx.eqY F S x1) (List.length F - (x3 + (1 : Nat))))) (Go.Sx.firstO (List.length F) (Go.Sx.eqX F S) (List.length F - (x1 + (1 : Nat))))))) ∧
      (((↑(List.length F) : Int) = (↑(List.length F) : Int)) ∧
      (((↑(List.length F) : Int) = (↑(List.length F) : Int)) ∧
      (((↑x1 : Int) = (↑x1 : Int)) ∧
      (((↑x1 : Int) = (↑x1 : Int)) ∧
      (((↑(List.length F) : Int) = (↑(List.length F) : Int)) ∧
      (((↑x3 : Int) = (↑x3 : Int)) ∧
      (((↑x3 : Int) = (↑x3 : Int)) ∧
      (((↑(List.length F) : Int) = (↑(List.length F) : Int)) ∧
      (((0 : Int) = (↑x4 : Int)) ∧
      ((F = F) ∧
      (S = S))))))))))))) ∧
      (∀ x5 : Nat, (((x5 ≤ List.length F) ∧
      ((x3 < List.length F) ∧
      (Go.Sx.eqF F S = Option.or (Option.or (Go.Sx.firstO (List.length F) (Go.Sx.eqZ F S x1 x3) (List.length F - x5)) (Go.Sx.firstO (List.length F) (Go.Sx.eqY F S x1) (List.length F - (x3 + (1 : Nat))))) (Go.Sx.firstO (List.length F) (Go.Sx.eqX F S) (List.length F - (x1 + (1 : Nat))))))) →
      (BrP (Decidable.decide ((↑x5 : Int) < (↑(List.length F) : Int)))
        ((Go.Sx.inB (↑x1 : Int) (List.length F)) ∧
        ((Go.Sx.inB (↑x3 : Int) (List.length (List.getD F (Int.toNat (↑x1 : Int)) []))) ∧
        ((Go.Sx.inB (↑x1 : Int) (List.length S)) ∧
        ((Go.Sx.inB (↑x3 : Int) (List.length (List.getD S (Int.toNat (↑x1 : Int)) []))) ∧
        ((Go.Sx.inB (List.getD (List.getD S (Int.toNat (↑x1 : Int)) []) (Int.toNat (↑x3 : Int)) (0 : Int)) (List.length F)) ∧
        ((Go.Sx.inB (↑x5 : Int) (List.length (List.getD F (Int.toNat (List.getD (List.getD S (Int.toNat (↑x1 : Int)) []) (Int.toNat (↑x3 : Int)) (0 : Int))) []))) ∧
        ((Go.Sx.inB (List.getD (List.getD S (Int.toNat (↑x1 : Int)) []) (Int.toNat (↑x3 : Int)) (0 : Int)) (List.length S)) ∧
        ((Go.Sx.inB (↑x5 : Int) (List.length (List.getD S (Int.toNat (List.getD (List.getD S (Int.toNat (↑x1 : Int)) []) (Int.toNat (↑x3 : Int)) (0 : Int))) []))) ∧
        ((Go.Sx.inB (List.getD (List.getD F (Int.toNat (↑x1 : Int)) []) (Int.toNat (↑x3 : Int)) (0 : Int)) (List.length F)) ∧
        ((Go.Sx.inB (List.getD (List.getD F (Int.toNat (List.getD (List.getD S (Int.toNat (↑x1 : Int)) []) (Int.toNat (↑x3 : Int)) (0 : Int))) []) (Int.toNat (↑x5 : Int)) (0 : Int)) (List.length (List.getD F (Int.toNat (List.getD (List.getD F (Int.toNat (↑x1 : Int)) []) (Int.toNat (↑x3 : Int)) (0 : Int))) []))) ∧
        ((Go.Sx.inB (List.getD (List.getD F (Int.toNat (↑x1 : Int)) []) (Int.toNat (↑x3 : Int)) (0 : Int)) (List.length S)) ∧
        ((Go.Sx.inB (List.getD (List.getD F (Int.toNat (List.getD (List.getD S (Int.toNat (↑x1 : Int)) []) (Int.toNat (↑x3 : Int)) (0 : Int))) []) (Int.toNat (↑x5 : Int)) (0 : Int)) (List.length (List.getD S (Int.toNat (List.getD (List.getD F (Int.toNat (↑x1 : Int)) []) (Int.toNat (↑x3 : Int)) (0 : Int))) []))) ∧
        ((Go.Sx.inB (↑x3 : Int) (List.length F)) ∧
        ((Go.Sx.inB (↑x5 : Int) (List.length (List.getD F (Int.toNat (↑x3 : Int)) []))) ∧
        ((Go.Sx.inB (↑x3 : Int) (List.length S)) ∧
        ((Go.Sx.inB (↑x5 : Int) (List.length (List.getD S (Int.toNat (↑x3 : Int)) []))) ∧
        ((Go.Sx.inB (↑x1 : Int) (List.length F)) ∧
        ((Go.Sx.inB (List.getD (List.getD F (Int.toNat (↑x3 : Int)) []) (Int.toNat (↑x5 : Int)) (0 : Int)) (List.length (List.getD F (Int.toNat (↑x1 : Int)) []))) ∧
        ((Go.Sx.inB (↑x1 : Int) (List.length S)) ∧
        ((Go.Sx.inB (List.getD (List.getD F (Int.toNat (↑x3 : Int)) []) (Int.toNat (↑x5 : Int)) (0 : Int)) (List.length (List.getD S (Int.toNat (↑x1 : Int)) []))) ∧
        ((Go.Sx.inB (List.getD (List.getD S (Int.toNat (↑x1 : Int)) []) (Int.toNat (List.getD (List.getD F (Int.toNat (↑x3 : Int)) []) (Int.toNat (↑x5 : Int)) (0 : Int))) (0 : Int)) (List.length F)) ∧
        ((Go.Sx.inB (List.getD (List.getD S (Int.toNat (↑x3 : Int)) []) (Int.toNat (↑x5 : Int)) (0 : Int)) (List.length (List.getD F (Int.toNat (List.getD (List.getD S (Int.toNat (↑x1 : Int)) []) (Int.toNat (List.getD (List.getD F (Int.toNat (↑x3 : Int)) []) (Int.toNat (↑x5 : Int)) (0 : Int))) (0 : Int))) []))) ∧
        ((Go.Sx.inB (List.getD (List.getD S (Int.toNat (↑x1 : Int)) []) (Int.toNat (List.getD (List.getD F (Int.toNat (↑x3 : Int)) []) (Int.toNat (↑x5 : Int)) (0 : Int))) (0 : Int)) (List.length S)) ∧
        ((Go.Sx.inB (List.getD (List.getD S (Int.toNat (↑x3 : Int)) []) (Int.toNat (↑x5 : Int)) (0 : Int)) (List.length (List.getD S (Int.toNat (List.getD (List.getD S (Int.toNat (↑x1 : Int)) []) (Int.toNat (List.getD (List.getD F (Int.toNat (↑x3 : Int)) []) (Int.toNat (↑x5 : Int)) (0 : Int))) (0 : Int))) []))) ∧
        (BrP (List.getD (List.getD F (Int.toNat (List.getD (List.getD F (Int.toNat (↑x1 : Int)) []) (Int.toNat (↑x3 : Int)) (0 : Int))) []) (Int.toNat (List.getD (List.getD F (Int.toNat (List.getD (List.getD S (Int.toNat (↑x1 : Int)) []) (Int.toNat (↑x3 : Int)) (0 : Int))) []) (Int.toNat (↑x5 : Int)) (0 : Int))) (0 : Int) != List.getD (List.getD F (Int.toNat (↑x1 : Int)) []) (Int.toNat (List.getD (List.getD F (Int.toNat (↑x3 : Int)) []) (Int.toNat (↑x5 : Int)) (0 : Int))) (0 : Int))
          (((Bool.false = Option.isNone (Go.Sx.eqF F S)) ∧
          (List.length [(↑x1 : Int), (↑x3 : Int), (↑x5 : Int)] ≠ (0 : Nat))) ∧
          (True))
          (BrP (List.getD (List.getD S (Int.toNat (List.getD (List.getD F (Int.toNat (↑x1 : Int)) []) (Int.toNat (↑x3 : Int)) (0 : Int))) []) (Int.toNat (List.getD (List.getD F (Int.toNat (List.getD (List.getD S (Int.toNat (↑x1 : Int)) []) (Int.toNat (↑x3 : Int)) (0 : Int))) []) (Int.toNat (↑x5 : Int)) (0 : Int))) (0 : Int) != List.getD (List.getD F (Int.toNat (List.getD (List.getD S (Int.toNat (↑x1 : Int)) []) (Int.toNat (List.getD (List.getD F (Int.toNat (↑x3 : Int)) []) (Int.toNat (↑x5 : Int)) (0 : Int))) (0 : Int))) []) (Int.toNat (List.getD (List.getD S (Int.toNat (↑x3 : Int)) []) (Int.toNat (↑x5 : Int)) (0 : Int))) (0 : Int))
            (((Bool.false = Option.isNone (Go.Sx.eqF F S)) ∧
            (List.length [(↑x1 : Int), (↑x3 : Int), (↑x5 : Int)] ≠ (0 : Nat))) ∧
            (True))
            (BrP (List.getD (List.getD S (Int.toNat (List.getD (List.getD S (Int.toNat (↑x1 : Int)) []) (Int.toNat (↑x3 : Int)) (0 : Int))) []) (Int.toNat (↑x5 : Int)) (0 : Int) != List.getD (List.getD S (Int.toNat (List.getD (List.getD S (Int.toNat (↑x1 : Int)) []) (Int.toNat (List.getD (List.getD F (Int.toNat (↑x3 : Int)) []) (Int.toNat (↑x5 : Int)) (0 : Int))) (0 : Int))) []) (Int.toNat (List.getD (List.getD S (Int.toNat (↑x3 : Int)) []) (Int.toNat (↑x5 : Int)) (0 : Int))) (0 : Int))
              (((Bool.false = Option.isNone (Go.Sx.eqF F S)) ∧
              (List.length [(↑x1 : Int), (↑x3 : Int), (↑x5 : Int)] ≠ (0 : Nat))) ∧
              (True))
              ((Go.Sx.InR ((↑x5 : Int) + (1 : Int))) ∧
              (∃ x6 : Nat, (((x6 ≤ List.length F) ∧
              ((x3 < List.length F) ∧
              (Go.Sx.eqF F S = Option.or (Option.or (Go.Sx.firstO (List.length F) (Go.Sx.eqZ F S x1 x3) (List.length F - x6)) (Go.Sx.firstO (List.length F) (Go.Sx.eqY F S x1) (List.length F - (x3 + (1 : Nat))))) (Go.Sx.firstO (List.length F) (Go.Sx.eqX F S) (List.length F - (x1 + (1 : Nat))))))) ∧
              ((List.length F - x6 < List.length F - x5) ∧
              (((↑(List.length F) : Int) = (↑(List.length F) : Int)) ∧
              (((↑(List.length F) : Int) = (↑(List.length F) : Int)) ∧
              (((↑x1 : Int) = (↑x1 : Int)) ∧
              (((↑x1 : Int) = (↑x1 : Int)) ∧
              (((↑(List.length F) : Int) = (↑(List.length F) : Int)) ∧
              (((↑x3 : Int) = (↑x3 : Int)) ∧
              (((↑x3 : Int) = (↑x3 : Int)) ∧
              (((↑(List.length F) : Int) = (↑(List.length F) : Int)) ∧
              (((↑x5 : Int) + (1 : Int) = (↑x6 : Int)) ∧
              ((F = F) ∧
              (S = S))))))))))))))))))))))))))))))))))))))))))
        ((Go.Sx.InR ((↑x3 : Int) + (1 : Int))) ∧
        (∃ x7 : Nat, (((x7 ≤ List.length F) ∧
        ((x1 < List.length F) ∧
        (Go.Sx.eqF F S = Option.or (Go.Sx.firstO (List.length F) (Go.Sx.eqY F S x1) (List.length F - x7)) (Go.Sx.firstO (List.length F) (Go.Sx.eqX F S) (List.length F - (x1 + (1 : Nat))))))) ∧
        ((List.length F - x7 < List.length F - x3) ∧
        (((↑(List.length F) : Int) = (↑(List.length F) : Int)) ∧
        (((↑(List.length F) : Int) = (↑(List.length F) : Int)) ∧
        (((↑x1 : Int) = (↑x1 : Int)) ∧
        (((↑x1 : Int) = (↑x1 : Int)) ∧
        (((↑(List.length F) : Int) = (↑(List.length F) : Int)) ∧
        (((↑x3 : Int) + (1 : Int) = (↑x7 : Int)) ∧
        ((F = F) ∧
        (S = S))))))))))))))))
      ((Go.Sx.InR ((↑x1 : Int) + (1 : Int))) ∧
      (∃ x8 : Nat, (((x8 ≤ List.length F) ∧
      (Go.Sx.eqF F S = Go.Sx.firstO (List.length F) (Go.Sx.eqX F S) (List.length F - x8))) ∧
      ((List.length F - x8 < List.length F - x1) ∧
      (((↑(List.length F) : Int) = (↑(List.length F) : Int)) ∧
      (((↑(List.length F) : Int) = (↑(List.length F) : Int)) ∧
      (((↑x1 : Int) + (1 : Int) = (↑x8 : Int)) ∧
      ((F = F) ∧
      (S = S)))))))))))))
    ((Bool.true = Option.isNone (Go.Sx.eqF F S)) ∧
    (True))))))
theorem equationFault_vc (F : List (List Int)) (S : List (List Int)) : runF Try.prog (gam equationFault_G) noWr (equationFault_ann F S) Try.f154 (bodyOf Try.f154) [] [.agg [.rows .i64 (F), .rows .i64 (S)]] (equationFault_p F S) = equationFault_V F S := by kernel_rfl
theorem equationFault_ok (F : List (List Int)) (S : List (List Int)) (hpre : (equationFault_p F S).pre) : equationFault_V F S := by
  simp only [equationFault_p, equationFault_V, BrP_iff, true_and, and_true, decide_eq_true_eq, decide_eq_false_iff_not, bne_iff_ne, beq_iff_eq, bne_eq_false_iff_eq, beq_eq_false_iff_ne, Bool.not_eq_true, Bool.not_eq_false, Bool.not_true, Bool.not_false, Bool.not_eq_eq_eq_not, Int.toNat_natCast, List.length_append, List.length_take, List.length_replicate, List.length_set, List.length_map, List.length_drop, List.length_nil, List.length_cons, markL_length, inB, InR, room, bdsOk] at hpre ⊢
  obtain ⟨n1, n2, hl, hF, hS⟩ := pm_in hpre
  refine ⟨⟨0, ⟨by omega, rfl⟩, rfl⟩, fun i ⟨hi, hx⟩ => ⟨fun h => ⟨⟨0, ⟨by omega, by omega, ?_⟩, rfl⟩, fun j ⟨hj, _, hy⟩ => ⟨fun h2 => ⟨⟨0, ⟨by omega, by omega, ?_⟩, rfl⟩, fun k ⟨hk, _, hz⟩ => ⟨fun h3 => ?_, fun h3 => ?_⟩⟩, fun h2 => ?_⟩⟩, fun h => ?_⟩⟩
  · rw [hx, firstO_step _ _ i (by omega)]; rfl
  · rw [hy, firstO_step _ _ j (by omega)]; rfl
  · have hz1 : ¬ eqQ F S i j k → (eqF F S).isNone = false := fun h4 => by
      rw [hz, firstO_step _ _ k (by omega), show eqZ F S i j k = some (ls3 i j k) from if_neg h4]; rfl
    have hz2 : eqQ F S i j k → eqF F S = ((firstO F.length (eqZ F S i j) (F.length - (k + 1))).or (firstO F.length (eqY F S i) (F.length - (j + 1)))).or (firstO F.length (eqX F S) (F.length - (i + 1))) := fun h4 => by
      rw [hz, firstO_step _ _ k (by omega), show eqZ F S i j k = none from if_pos h4]; rfl
    have Q := eqQ_iff F S i j k
    clear hz hy hx
    have F1 := hF i (by omega)
    have S1 := hS i (by omega)
    have F2 := hF j (by omega)
    have S2 := hS j (by omega)
    have a := F1.2 j (by omega)
    have b := S1.2 j (by omega)
    have e := F2.2 k (by omega)
    have f := S2.2 k (by omega)
    unfold en at Q
    generalize (F.getD i []).getD j 0 = va at *
    generalize (S.getD i []).getD j 0 = vb at *
    generalize (F.getD j []).getD k 0 = ve at *
    generalize (S.getD j []).getD k 0 = vf at *
    have Fb := hF vb.toNat (by omega)
    have Sb := hS vb.toNat (by omega)
    have b2 := Fb.2 k (by omega)
    have e2 := S1.2 ve.toNat (by omega)
    generalize (F.getD vb.toNat []).getD k 0 = vb2 at *
    generalize (S.getD i []).getD ve.toNat 0 = ve2 at *
    have Fa := hF va.toNat (by omega)
    have Sa := hS va.toNat (by omega)
    have Fe := hF ve2.toNat (by omega)
    have Se := hS ve2.toNat (by omega)
    have go : eqQ F S i j k → (-9223372036854775808 ≤ (k : Int) + 1 ∧ (k : Int) + 1 ≤ 9223372036854775807) ∧ ∃ x6, (x6 ≤ F.length ∧ j < F.length ∧ eqF F S = ((firstO F.length (eqZ F S i j) (F.length - x6)).or (firstO F.length (eqY F S i) (F.length - (j + 1)))).or (firstO F.length (eqX F S) (F.length - (i + 1)))) ∧ F.length - x6 < F.length - k ∧ (k : Int) + 1 = (x6 : Int) := fun h4 =>
      ⟨by omega, k + 1, ⟨by omega, by omega, hz2 h4⟩, by omega, by omega⟩
    refine ⟨by omega, by omega, by omega, by omega, by omega, by omega, by omega, by omega, by omega, by omega, by omega, by omega, by omega, by omega, by omega, by omega, by omega, by omega, by omega, by omega, by omega, by omega, by omega, by omega,
      fun d1 => ⟨(hz1 fun c => d1 (Q.1 c).1).symm, by omega⟩, fun d1 => ⟨fun d2 => ⟨(hz1 fun c => d2 (Q.1 c).2.1).symm, by omega⟩, fun d2 => ⟨fun d3 => ⟨(hz1 fun c => d3 (Q.1 c).2.2).symm, by omega⟩, fun d3 => go (Q.2 ⟨d1, d2, d3⟩)⟩⟩⟩
  · refine ⟨by omega, j + 1, ⟨by omega, by omega, ?_⟩, by omega, by omega⟩
    rw [hz, show F.length - k = 0 by omega]; rfl
  · refine ⟨by omega, i + 1, ⟨by omega, ?_⟩, by omega, by omega⟩
    rw [hy, show F.length - j = 0 by omega]; rfl
  · rw [hx, show F.length - i = 0 by omega]; rfl
theorem equationFault_fits : Fits Try.prog 154 ⟨[], equationFault_ct⟩ := by
  refine fits_fn (Γ := gam equationFault_G) gok_nil Try.func154 (by kernel_rfl) (by kernel_rfl) (by kernel_rfl) fun ds p h hp => ?_
  unfold equationFault_ct at h
  split at h
  · cases h
    exact ⟨noWr, equationFault_ann _ _ , by rw [equationFault_vc]; exact equationFault_ok _ _  hp⟩
  · cases h

def solB (F S : List (List Int)) : Bool := pmB F S && (coF F S).isNone && (eqF F S).isNone

def IsSolution_p (F : List (List Int)) (S : List (List Int)) : Post := ⟨roomR F ∧ roomR S, .c (.bool (solB F S)), []⟩
def IsSolution_ct : List AD → Option Post
  | [.agg [.rows .i64 (F), .rows .i64 (S)]] => some (IsSolution_p F S)
  | _ => none
def IsSolution_G : List (Nat × Ctr) := [(152, ⟨[], IsPairMap_ct⟩), (153, ⟨[], collisionOf_ct⟩), (154, ⟨[], equationFault_ct⟩)]
def IsSolution_V (F : List (List Int)) (S : List (List Int)) : Prop :=
  ((((Go.Sx.roomR F) ∧
  (Go.Sx.roomR S)) ∧
  (True)) ∧
  (BrP (Go.Sx.pmB F S)
    (((Go.Sx.pmB F S = Bool.true) ∧
    (True)) ∧
    (BrP (Option.isNone (Go.Sx.coF F S))
      (((Go.Sx.pmB F S = Bool.true) ∧
      (True)) ∧
      ((Option.isNone (Go.Sx.eqF F S) = Go.Sx.solB F S) ∧
      (True)))
      ((Bool.false = Go.Sx.solB F S) ∧
      (True))))
    ((Bool.false = Go.Sx.solB F S) ∧
    (True))))
theorem IsSolution_vc (F : List (List Int)) (S : List (List Int)) : runF Try.prog (gam IsSolution_G) noWr noAnn Try.f126 (bodyOf Try.f126) [] [.agg [.rows .i64 (F), .rows .i64 (S)]] (IsSolution_p F S) = IsSolution_V F S := by kernel_rfl
theorem IsSolution_ok (F : List (List Int)) (S : List (List Int)) (hpre : (IsSolution_p F S).pre) : IsSolution_V F S := by
  simp only [IsSolution_p, IsSolution_V, BrP_iff, true_and, and_true, decide_eq_true_eq, decide_eq_false_iff_not, bne_iff_ne, beq_iff_eq, bne_eq_false_iff_eq, beq_eq_false_iff_ne, Bool.not_eq_true, Bool.not_eq_false, Bool.not_true, Bool.not_false, Bool.not_eq_eq_eq_not, Int.toNat_natCast, List.length_append, List.length_take, List.length_replicate, List.length_set, List.length_map, List.length_drop, List.length_nil, List.length_cons, markL_length, inB, InR, room, bdsOk] at hpre ⊢
  refine ⟨hpre, fun h => ⟨h, fun h2 => ⟨h, by simp [solB, h, h2]⟩, fun h2 => by simp [solB, h2]⟩, fun h => by simp [solB, h]⟩
theorem IsSolution_fits : Fits Try.prog 126 ⟨[], IsSolution_ct⟩ := by
  refine fits_fn (Γ := gam IsSolution_G) (gok_cons IsPairMap_fits (gok_cons collisionOf_fits (gok_cons equationFault_fits gok_nil))) Try.func126 (by kernel_rfl) (by kernel_rfl) (by kernel_rfl) fun ds p h hp => ?_
  unfold IsSolution_ct at h
  split at h
  · cases h
    exact ⟨noWr, noAnn, by rw [IsSolution_vc]; exact IsSolution_ok _ _  hp⟩
  · cases h

theorem coF_len {F S : List (List Int)} {l : List Int} (h : coF F S = some l) : l.length = 4 := by
  obtain ⟨x, h⟩ := firstO_some h
  obtain ⟨y, h⟩ := firstO_some h
  unfold coZ at h
  split at h
  · cases h; rfl
  · cases h

theorem eqF_len {F S : List (List Int)} {l : List Int} (h : eqF F S = some l) : l.length = 3 := by
  obtain ⟨x, h⟩ := firstO_some h
  obtain ⟨y, h⟩ := firstO_some h
  obtain ⟨z, h⟩ := firstO_some h
  unfold eqZ at h
  split at h
  · cases h
  · cases h; rfl

def l02Is_p (F : List (List Int)) (S : List (List Int)) : Post := ⟨roomR F ∧ roomR S, .c (.bool (solB F S)), []⟩
def l02Is_ct : List AD → Option Post
  | [.agg [.rows .i64 (F), .rows .i64 (S)]] => some (l02Is_p F S)
  | _ => none
def l02Is_G : List (Nat × Ctr) := [(149, ⟨[], l02Map_ct⟩), (150, ⟨[], l02Collision_ct⟩), (151, ⟨[], l02Fault_ct⟩)]
def l02Is_V (F : List (List Int)) (S : List (List Int)) : Prop :=
  ((((Go.Sx.roomR F) ∧
  (Go.Sx.roomR S)) ∧
  (True)) ∧
  (BrP (Go.Sx.pmB F S)
    (((Go.Sx.pmB F S = Bool.true) ∧
    (True)) ∧
    (BrP ((↑(List.length (Option.getD (Go.Sx.coF F S) [])) : Int) == (0 : Int))
      (((Go.Sx.pmB F S = Bool.true) ∧
      (True)) ∧
      ((((↑(List.length (Option.getD (Go.Sx.eqF F S) [])) : Int) == (0 : Int)) = Go.Sx.solB F S) ∧
      (True)))
      ((Bool.false = Go.Sx.solB F S) ∧
      (True))))
    ((Bool.false = Go.Sx.solB F S) ∧
    (True))))
theorem l02Is_vc (F : List (List Int)) (S : List (List Int)) : runF Try.prog (gam l02Is_G) noWr noAnn Try.f121 (bodyOf Try.f121) [] [.agg [.rows .i64 (F), .rows .i64 (S)]] (l02Is_p F S) = l02Is_V F S := by kernel_rfl
theorem l02Is_ok (F : List (List Int)) (S : List (List Int)) (hpre : (l02Is_p F S).pre) : l02Is_V F S := by
  simp only [l02Is_p, l02Is_V, BrP_iff, true_and, and_true, decide_eq_true_eq, decide_eq_false_iff_not, bne_iff_ne, beq_iff_eq, bne_eq_false_iff_eq, beq_eq_false_iff_ne, Bool.not_eq_true, Bool.not_eq_false, Bool.not_true, Bool.not_false, Bool.not_eq_eq_eq_not, Int.toNat_natCast, List.length_append, List.length_take, List.length_replicate, List.length_set, List.length_map, List.length_drop, List.length_nil, List.length_cons, markL_length, inB, InR, room, bdsOk] at hpre ⊢
  refine ⟨hpre, fun h => ⟨h, fun h2 => ⟨h, ?_⟩, fun h2 => ?_⟩, fun h => by simp [solB, h]⟩
  · have c : coF F S = none := by
      cases hc : coF F S with
      | none => rfl
      | some l => have := coF_len hc; rw [hc] at h2; simp at h2; rw [h2] at this; simp at this
    rw [solB, h, c]
    cases he : eqF F S with
    | none => rfl
    | some l => have := eqF_len he; simp [this]
  · cases hc : coF F S with
    | none => rw [hc] at h2; simp at h2
    | some l => simp [solB, hc]
theorem l02Is_fits : Fits Try.prog 121 ⟨[], l02Is_ct⟩ := by
  refine fits_fn (Γ := gam l02Is_G) (gok_cons l02Map_fits (gok_cons l02Collision_fits (gok_cons l02Fault_fits gok_nil))) Try.func121 (by kernel_rfl) (by kernel_rfl) (by kernel_rfl) fun ds p h hp => ?_
  unfold l02Is_ct at h
  split at h
  · cases h
    exact ⟨noWr, noAnn, by rw [l02Is_vc]; exact l02Is_ok _ _  hp⟩
  · cases h

def cloneTable_p (t : List (List Int)) : Post := ⟨t.length ≤ 144 ∧ (∀ r ∈ t, r.length ≠ 0 ∧ r.length ≤ 144), .c (.rows 24 2 .i64 (t)), []⟩
def cloneTable_ct : List AD → Option Post
  | [.c (.rows .i64 (t))] => some (cloneTable_p t)
  | _ => none
def cloneTable_ann (t : List (List Int)) : Nat → Option Ann
  | 0 => some (Ann.mk ((Nat)) (fun i => ⟨[(3, .c (.own (8))), (9, .c (.ro (.rows .i64 (t)))), (10, .c (.int .i64 ((t.length : Int)))), (11, .c (.int .i64 ((i : Int))))], [(8, some (.rows 0 24 2 .i64 (t.take i ++ List.replicate (t.length - i) [])))]⟩) (fun i => i ≤ t.length) (fun i => t.length - i) (fun _ => noAnn))
  | _ => none
def cloneTable_G : List (Nat × Ctr) := [(129, ⟨[], Clone_ct⟩)]
def cloneTable_V (t : List (List Int)) : Prop :=
  ((((0 : Int) ≤ (↑(List.length t) : Int)) ∧
  (((↑(List.length t) : Int) ≤ (↑(List.length t) : Int)) ∧
  (Go.Sx.room (Int.toNat (↑(List.length t) : Int))))) ∧
  ((∃ x0 : Nat, ((x0 ≤ List.length t) ∧
  ((t = t) ∧
  (((↑(List.length t) : Int) = (↑(List.length t) : Int)) ∧
  (((0 : Int) = (↑x0 : Int)) ∧
  (List.replicate (Int.toNat (↑(List.length t) : Int)) [] = List.take x0 t ++ List.replicate (List.length t - x0) ([] : List Int))))))) ∧
  (∀ x1 : Nat, ((x1 ≤ List.length t) →
  (BrP (Decidable.decide ((↑x1 : Int) < (↑(List.length t) : Int)))
    ((Go.Sx.inB (↑x1 : Int) (List.length t)) ∧
    ((((List.length (List.getD t (Int.toNat (↑x1 : Int)) []) ≠ (0 : Nat)) ∧
    (Go.Sx.room (List.length (List.getD t (Int.toNat (↑x1 : Int)) [])))) ∧
    (True)) ∧
    ((Go.Sx.inB (↑x1 : Int) (List.length (List.take x1 t ++ List.replicate (List.length t - x1) ([] : List Int)))) ∧
    ((Go.Sx.InR ((↑x1 : Int) + (1 : Int))) ∧
    (∃ x2 : Nat, ((x2 ≤ List.length t) ∧
    ((List.length t - x2 < List.length t - x1) ∧
    ((t = t) ∧
    (((↑(List.length t) : Int) = (↑(List.length t) : Int)) ∧
    (((↑x1 : Int) + (1 : Int) = (↑x2 : Int)) ∧
    (List.set (List.take x1 t ++ List.replicate (List.length t - x1) ([] : List Int)) (Int.toNat (↑x1 : Int)) (List.getD t (Int.toNat (↑x1 : Int)) []) = List.take x2 t ++ List.replicate (List.length t - x2) ([] : List Int))))))))))))
    ((List.take x1 t ++ List.replicate (List.length t - x1) ([] : List Int) = t) ∧
    (True)))))))
theorem cloneTable_vc (t : List (List Int)) : runF Try.prog (gam cloneTable_G) noWr (cloneTable_ann t) Try.f155 (bodyOf Try.f155) [] [.c (.rows .i64 (t))] (cloneTable_p t) = cloneTable_V t := by kernel_rfl
theorem cloneTable_ok (t : List (List Int)) (hpre : (cloneTable_p t).pre) : cloneTable_V t := by
  simp only [cloneTable_p, cloneTable_V, BrP_iff, true_and, and_true, decide_eq_true_eq, decide_eq_false_iff_not, bne_iff_ne, beq_iff_eq, bne_eq_false_iff_eq, beq_eq_false_iff_ne, Bool.not_eq_true, Bool.not_eq_false, Bool.not_true, Bool.not_false, Bool.not_eq_eq_eq_not, Int.toNat_natCast, List.length_append, List.length_take, List.length_replicate, List.length_set, List.length_map, List.length_drop, List.length_nil, List.length_cons, markL_length, inB, InR, room, bdsOk] at hpre ⊢
  obtain ⟨h1, h2⟩ := hpre
  refine ⟨by omega, ⟨0, by omega, rfl, by simp⟩, fun i hi => ⟨fun h => ?_, fun h => by rw [List.take_of_length_le (by omega), show t.length - i = 0 by omega, List.replicate_zero, List.append_nil]⟩⟩
  have r := h2 _ (getD_mem t [] i (by omega))
  refine ⟨by omega, ⟨by omega, by omega⟩, by omega, by omega, i + 1, by omega, by omega, by omega, ?_⟩
  rw [show t.length - i = (t.length - (i + 1)) + 1 by omega, List.replicate_succ, at_set _ _ _ _ _ (by rw [List.length_take]; omega), List.take_succ_eq_append_getElem (by omega), List.append_assoc]
  simp [List.getD, show i < t.length by omega]
theorem cloneTable_fits : Fits Try.prog 155 ⟨[], cloneTable_ct⟩ := by
  refine fits_fn (Γ := gam cloneTable_G) (gok_cons Clone_fits gok_nil) Try.func155 (by kernel_rfl) (by kernel_rfl) (by kernel_rfl) fun ds p h hp => ?_
  unfold cloneTable_ct at h
  split at h
  · cases h
    exact ⟨noWr, cloneTable_ann _ , by rw [cloneTable_vc]; exact cloneTable_ok _  hp⟩
  · cases h

/-- One entry of a table, put anew. -/
def put2 (t : List (List Int)) (u v : Nat) (x : Int) : List (List Int) := t.set u ((t.getD u []).set v x)

/-- The inverse, after k pairs. -/
def ivN (F S : List (List Int)) : Nat → List (List Int) × List (List Int)
  | 0 => (F, S)
  | k + 1 => (put2 (ivN F S k).1 (en F (k / F.length) (k % F.length)).toNat (en S (k / F.length) (k % F.length)).toNat ((k / F.length : Nat) : Int),
      put2 (ivN F S k).2 (en F (k / F.length) (k % F.length)).toNat (en S (k / F.length) (k % F.length)).toNat ((k % F.length : Nat) : Int))
def ivT (F S : List (List Int)) : List (List Int) × List (List Int) := ivN F S (F.length * F.length)

theorem mem_getD {α : Type} {l : List α} {x : α} (h : x ∈ l) (d : α) : ∃ i, i < l.length ∧ l.getD i d = x := by
  obtain ⟨i, hi, e⟩ := List.mem_iff_getElem.1 h
  exact ⟨i, hi, by rw [← e]; simp [List.getD, hi]⟩

theorem put2_len (t : List (List Int)) (u v : Nat) (x : Int) : (put2 t u v x).length = t.length := by simp [put2]

theorem put2_row (t : List (List Int)) (u v : Nat) (x : Int) (i : Nat) : ((put2 t u v x).getD i []).length = (t.getD i []).length := by
  unfold put2
  simp only [List.getD_eq_getElem?_getD, List.getElem?_set]
  split
  · rename_i e; subst e
    split
    · simp
    · rename_i h; simp [h]
  · rfl

theorem ivN_len {F S : List (List Int)} (h : pmB F S = true) : ∀ k, ((ivN F S k).1.length = F.length ∧ (ivN F S k).2.length = F.length) ∧ ∀ i, i < F.length → ((ivN F S k).1.getD i []).length = F.length ∧ ((ivN F S k).2.getD i []).length = F.length
  | 0 => by
    obtain ⟨n1, n2, hl, hF, hS⟩ := pm_in h
    exact ⟨⟨rfl, hl⟩, fun i hi => ⟨(hF i hi).1, (hS i hi).1⟩⟩
  | k + 1 => by
    obtain ⟨⟨a, b⟩, c⟩ := ivN_len h k
    simp only [ivN]
    exact ⟨⟨by rw [put2_len, a], by rw [put2_len, b]⟩, fun i hi => ⟨by rw [put2_row, (c i hi).1], by rw [put2_row, (c i hi).2]⟩⟩

def InverseSolution_p (F : List (List Int)) (S : List (List Int)) : Post := ⟨roomR F ∧ roomR S ∧ solB F S = true, .tup [.inr [.rows 24 2 .i64 ((ivT F S).1), .rows 24 2 .i64 ((ivT F S).2)], .inl (.int .i64 (0))], []⟩
def InverseSolution_ct : List AD → Option Post
  | [.agg [.rows .i64 (F), .rows .i64 (S)]] => some (InverseSolution_p F S)
  | _ => none
def InverseSolution_ann (F : List (List Int)) (S : List (List Int)) : Nat → Option Ann
  | 0 => some (Ann.mk ((Nat)) (fun x => ⟨[(1, .c (.ptr 1 0)), (2, .c (.ptr 2 0)), (4, .c (.ptr 4 0)), (22, .c (.ro (.rows .i64 (F)))), (23, .c (.int .i64 ((F.length : Int)))), (24, .c (.int .i64 ((x : Int))))], [(1, some (.box [.ro (.rows .i64 (F)), .ro (.rows .i64 (S))])), (2, some (.box [.nil, .nil])), (4, some (.box [.own (16), .own (19)])), (16, some (.rows 0 24 2 .i64 ((ivN F S (x * F.length)).1))), (19, some (.rows 0 24 2 .i64 ((ivN F S (x * F.length)).2)))]⟩) (fun x => x ≤ F.length) (fun x => F.length - x) (fun x => fun b_ => match b_ with | 2 => some (Ann.mk ((Nat)) (fun y => ⟨[(1, .c (.ptr 1 0)), (2, .c (.ptr 2 0)), (4, .c (.ptr 4 0)), (22, .c (.ro (.rows .i64 (F)))), (23, .c (.int .i64 ((F.length : Int)))), (24, .c (.int .i64 ((x : Int)))), (5, .c (.int .i64 ((x : Int)))), (29, .c (.ro (.ints .i64 (F.getD x [])))), (30, .c (.int .i64 ((F.length : Int)))), (31, .c (.int .i64 ((y : Int))))], [(1, some (.box [.ro (.rows .i64 (F)), .ro (.rows .i64 (S))])), (2, some (.box [.nil, .nil])), (4, some (.box [.own (16), .own (19)])), (16, some (.rows 0 24 2 .i64 ((ivN F S (x * F.length + y)).1))), (19, some (.rows 0 24 2 .i64 ((ivN F S (x * F.length + y)).2)))]⟩) (fun y => y ≤ F.length ∧ x < F.length) (fun y => F.length - y) (fun _ => noAnn)) | _ => none))
  | _ => none
def InverseSolution_G : List (Nat × Ctr) := [(126, ⟨[], IsSolution_ct⟩), (155, ⟨[], cloneTable_ct⟩)]
def InverseSolution_V (F : List (List Int)) (S : List (List Int)) : Prop :=
  ((((Go.Sx.roomR F) ∧
  (Go.Sx.roomR S)) ∧
  (True)) ∧
  (BrP (!Go.Sx.solB F S)
    (((([] = Prod.fst (Go.Sx.ivT F S)) ∧
    (([] = Prod.snd (Go.Sx.ivT F S)) ∧
    (True))) ∧
    (((1 : Int) = (0 : Int)) ∧
    (True))) ∧
    (True))
    ((((List.length F ≤ (144 : Nat)) ∧
    (∀ (r : List Int), r ∈ F → List.length r ≠ (0 : Nat) ∧ List.length r ≤ (144 : Nat))) ∧
    (True)) ∧
    ((((List.length S ≤ (144 : Nat)) ∧
    (∀ (r : List Int), r ∈ S → List.length r ≠ (0 : Nat) ∧ List.length r ≤ (144 : Nat))) ∧
    (True)) ∧
    ((∃ x0 : Nat, ((x0 ≤ List.length F) ∧
    ((F = F) ∧
    (((↑(List.length F) : Int) = (↑(List.length F) : Int)) ∧
    (((0 : Int) = (↑x0 : Int)) ∧
    ((F = F) ∧
    ((S = S) ∧
    ((F = Prod.fst (Go.Sx.ivN F S (x0 * List.length F))) ∧
    (S = Prod.snd (Go.Sx.ivN F S (x0 * List.length F))))))))))) ∧
    (∀ x1 : Nat, ((x1 ≤ List.length F) →
    (BrP (Decidable.decide ((↑x1 : Int) < (↑(List.length F) : Int)))
      ((Go.Sx.inB (↑x1 : Int) (List.length F)) ∧
      ((∃ x2 : Nat, (((x2 ≤ List.length F) ∧
      (x1 < List.length F)) ∧
      ((F = F) ∧
      (((↑(List.length F) : Int) = (↑(List.length F) : Int)) ∧
      (((↑x1 : Int) = (↑x1 : Int)) ∧
      (((↑x1 : Int) = (↑x1 : Int)) ∧
      ((List.getD F (Int.toNat (↑x1 : Int)) [] = List.getD F x1 []) ∧
      (((↑(List.length (List.getD F (Int.toNat (↑x1 : Int)) [])) : Int) = (↑(List.length F) : Int)) ∧
      (((0 : Int) = (↑x2 : Int)) ∧
      ((F = F) ∧
      ((S = S) ∧
      ((Prod.fst (Go.Sx.ivN F S (x1 * List.length F)) = Prod.fst (Go.Sx.ivN F S (x1 * List.length F + x2))) ∧
      (Prod.snd (Go.Sx.ivN F S (x1 * List.length F)) = Prod.snd (Go.Sx.ivN F S (x1 * List.length F + x2))))))))))))))) ∧
      (∀ x3 : Nat, (((x3 ≤ List.length F) ∧
      (x1 < List.length F)) →
      (BrP (Decidable.decide ((↑x3 : Int) < (↑(List.length F) : Int)))
        ((Go.Sx.inB (↑x3 : Int) (List.length (List.getD F x1 []))) ∧
        ((Go.Sx.inB (↑x1 : Int) (List.length S)) ∧
        ((Go.Sx.inB (↑x3 : Int) (List.length (List.getD S (Int.toNat (↑x1 : Int)) []))) ∧
        ((Go.Sx.inB (List.getD (List.getD F x1 []) (Int.toNat (↑x3 : Int)) (0 : Int)) (List.length (Prod.fst (Go.Sx.ivN F S (x1 * List.length F + x3))))) ∧
        ((Go.Sx.inB (List.getD (List.getD F x1 []) (Int.toNat (↑x3 : Int)) (0 : Int)) (List.length (Prod.snd (Go.Sx.ivN F S (x1 * List.length F + x3))))) ∧
        ((Go.Sx.inB (List.getD (List.getD S (Int.toNat (↑x1 : Int)) []) (Int.toNat (↑x3 : Int)) (0 : Int)) (List.length (List.getD (Prod.fst (Go.Sx.ivN F S (x1 * List.length F + x3))) (Int.toNat (List.getD (List.getD F x1 []) (Int.toNat (↑x3 : Int)) (0 : Int))) []))) ∧
        ((Go.Sx.inB (List.getD (List.getD S (Int.toNat (↑x1 : Int)) []) (Int.toNat (↑x3 : Int)) (0 : Int)) (List.length (List.getD (Prod.snd (Go.Sx.ivN F S (x1 * List.length F + x3))) (Int.toNat (List.getD (List.getD F x1 []) (Int.toNat (↑x3 : Int)) (0 : Int))) []))) ∧
        ((Go.Sx.InR ((↑x3 : Int) + (1 : Int))) ∧
        (∃ x4 : Nat, (((x4 ≤ List.length F) ∧
        (x1 < List.length F)) ∧
        ((List.length F - x4 < List.length F - x3) ∧
        ((F = F) ∧
        (((↑(List.length F) : Int) = (↑(List.length F) : Int)) ∧
        (((↑x1 : Int) = (↑x1 : Int)) ∧
        (((↑x1 : Int) = (↑x1 : Int)) ∧
        ((List.getD F x1 [] = List.getD F x1 []) ∧
        (((↑(List.length F) : Int) = (↑(List.length F) : Int)) ∧
        (((↑x3 : Int) + (1 : Int) = (↑x4 : Int)) ∧
        ((F = F) ∧
        ((S = S) ∧
        ((List.set (Prod.fst (Go.Sx.ivN F S (x1 * List.length F + x3))) (Int.toNat (List.getD (List.getD F x1 []) (Int.toNat (↑x3 : Int)) (0 : Int))) (List.set (List.getD (Prod.fst (Go.Sx.ivN F S (x1 * List.length F + x3))) (Int.toNat (List.getD (List.getD F x1 []) (Int.toNat (↑x3 : Int)) (0 : Int))) []) (Int.toNat (List.getD (List.getD S (Int.toNat (↑x1 : Int)) []) (Int.toNat (↑x3 : Int)) (0 : Int))) (↑x1 : Int)) = Prod.fst (Go.Sx.ivN F S (x1 * List.length F + x4))) ∧
        (List.set (Prod.snd (Go.Sx.ivN F S (x1 * List.length F + x3))) (Int.toNat (List.getD (List.getD F x1 []) (Int.toNat (↑x3 : Int)) (0 : Int))) (List.set (List.getD (Prod.snd (Go.Sx.ivN F S (x1 * List.length F + x3))) (Int.toNat (List.getD (List.getD F x1 []) (Int.toNat (↑x3 : Int)) (0 : Int))) []) (Int.toNat (List.getD (List.getD S (Int.toNat (↑x1 : Int)) []) (Int.toNat (↑x3 : Int)) (0 : Int))) (↑x3 : Int)) = Prod.snd (Go.Sx.ivN F S (x1 * List.length F + x4))))))))))))))))))))))))
        ((Go.Sx.InR ((↑x1 : Int) + (1 : Int))) ∧
        (∃ x5 : Nat, ((x5 ≤ List.length F) ∧
        ((List.length F - x5 < List.length F - x1) ∧
        ((F = F) ∧
        (((↑(List.length F) : Int) = (↑(List.length F) : Int)) ∧
        (((↑x1 : Int) + (1 : Int) = (↑x5 : Int)) ∧
        ((F = F) ∧
        ((S = S) ∧
        ((Prod.fst (Go.Sx.ivN F S (x1 * List.length F + x3)) = Prod.fst (Go.Sx.ivN F S (x5 * List.length F))) ∧
        (Prod.snd (Go.Sx.ivN F S (x1 * List.length F + x3)) = Prod.snd (Go.Sx.ivN F S (x5 * List.length F))))))))))))))))))
      ((((Prod.fst (Go.Sx.ivN F S (x1 * List.length F)) = Prod.fst (Go.Sx.ivT F S)) ∧
      ((Prod.snd (Go.Sx.ivN F S (x1 * List.length F)) = Prod.snd (Go.Sx.ivT F S)) ∧
      (True))) ∧
      (((0 : Int) = (0 : Int)) ∧
      (True))) ∧
      (True))))))))))
theorem InverseSolution_vc (F : List (List Int)) (S : List (List Int)) : runF Try.prog (gam InverseSolution_G) noWr (InverseSolution_ann F S) Try.f128 (bodyOf Try.f128) [] [.agg [.rows .i64 (F), .rows .i64 (S)]] (InverseSolution_p F S) = InverseSolution_V F S := by kernel_rfl
theorem InverseSolution_ok (F : List (List Int)) (S : List (List Int)) (hpre : (InverseSolution_p F S).pre) : InverseSolution_V F S := by
  simp only [InverseSolution_p, InverseSolution_V, BrP_iff, true_and, and_true, decide_eq_true_eq, decide_eq_false_iff_not, bne_iff_ne, beq_iff_eq, bne_eq_false_iff_eq, beq_eq_false_iff_ne, Bool.not_eq_true, Bool.not_eq_false, Bool.not_true, Bool.not_false, Bool.not_eq_eq_eq_not, Int.toNat_natCast, List.length_append, List.length_take, List.length_replicate, List.length_set, List.length_map, List.length_drop, List.length_nil, List.length_cons, markL_length, inB, InR, room, bdsOk] at hpre ⊢
  obtain ⟨r1, r2, hs⟩ := hpre
  refine ⟨⟨r1, r2⟩, fun h => absurd (hs.symm.trans h) (by decide), fun _ => ?_⟩
  have hp : pmB F S = true := by
    simp only [solB, Bool.and_eq_true] at hs
    exact hs.1.1
  obtain ⟨n1, n2, hl, hF, hS⟩ := pm_in hp
  refine ⟨⟨by omega, fun r hr => ?_⟩, ⟨by omega, fun r hr => ?_⟩, ⟨0, by omega, rfl, by rw [Nat.zero_mul]; rfl, by rw [Nat.zero_mul]; rfl⟩, fun x hx => ⟨fun h => ⟨by omega, ⟨0, by omega, by have := (hF x (by omega)).1; omega, rfl, rfl, rfl⟩, fun y ⟨hy, _⟩ => ⟨fun h3 => ?_, fun h3 => ?_⟩⟩, fun h => ?_⟩⟩
  · obtain ⟨i, hi, e⟩ := mem_getD hr []
    have := (hF i hi).1
    rw [e] at this; omega
  · obtain ⟨i, hi, e⟩ := mem_getD hr []
    have := (hS i (by omega)).1
    rw [e] at this; omega
  · have F1 := hF x (by omega)
    have S1 := hS x (by omega)
    have a := F1.2 y (by omega)
    have b := S1.2 y (by omega)
    have L := ivN_len hp (x * F.length + y)
    have L1 := (L.2 ((F.getD x []).getD y 0).toNat (by omega))
    have d1 : (x * F.length + y) / F.length = x := by
      rw [Nat.mul_comm, Nat.mul_add_div (by omega), Nat.div_eq_of_lt (by omega)]; omega
    have d2 : (x * F.length + y) % F.length = y := by
      rw [Nat.mul_comm, Nat.mul_add_mod, Nat.mod_eq_of_lt (by omega)]
    refine ⟨by omega, by omega, by omega, by omega, by omega, by omega, by omega, by omega, y + 1, by omega, by omega, by omega, ?_, ?_⟩
    · rw [← Nat.add_assoc]
      simp only [ivN, d1, d2]; rfl
    · rw [← Nat.add_assoc]
      simp only [ivN, d1, d2]; rfl
  · have ey : y = F.length := by omega
    subst ey
    refine ⟨by omega, x + 1, by omega, by omega, by omega, ?_, ?_⟩
    · rw [Nat.succ_mul]
    · rw [Nat.succ_mul]
  · rw [show x = F.length by omega]; exact ⟨rfl, rfl⟩
theorem InverseSolution_fits : Fits Try.prog 128 ⟨[], InverseSolution_ct⟩ := by
  refine fits_fn (Γ := gam InverseSolution_G) (gok_cons IsSolution_fits (gok_cons cloneTable_fits gok_nil)) Try.func128 (by kernel_rfl) (by kernel_rfl) (by kernel_rfl) fun ds p h hp => ?_
  unfold InverseSolution_ct at h
  split at h
  · cases h
    exact ⟨noWr, InverseSolution_ann _ _ , by rw [InverseSolution_vc]; exact InverseSolution_ok _ _  hp⟩
  · cases h

end Go.Sx

