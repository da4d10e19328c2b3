/- Contracts on the way of PairChains. -/
import Derived.Test.YtegeohcghndpcaaBase
open Go Go.Proofs
namespace Go.Sx
set_option linter.unusedSimpArgs false
set_option linter.unusedVariables false

def dotN (a b : List Int) : Nat → Int
  | 0 => 0
  | i + 1 => dotN a b i + a.getD i 0 * b.getD i 0

theorem mul_le36 {x y : Int} (h1 : 0 ≤ x ∧ x ≤ 6) (h2 : 0 ≤ y ∧ y ≤ 6) : 0 ≤ x * y ∧ x * y ≤ 36 :=
  ⟨Int.mul_nonneg h1.1 h2.1, Int.le_trans (Int.mul_le_mul h1.2 h2.2 h2.1 (by omega)) (by omega)⟩

theorem dotN_le {p : Int} {a b : List Int} (hp : p ≤ 7) (ha : allW 0 (p - 1) a = true) (hb : allW 0 (p - 1) b = true) : ∀ i, i ≤ a.length → i ≤ b.length → 0 ≤ dotN a b i ∧ dotN a b i ≤ 36 * (i : Int)
  | 0, _, _ => by simp [dotN]
  | i + 1, h1, h2 => by
    have h3 := dotN_le hp ha hb i (by omega) (by omega)
    have h4 := allW_get ha i (by omega)
    have h5 := allW_get hb i (by omega)
    have := mul_le36 (x := a.getD i 0) (y := b.getD i 0) (by omega) (by omega)
    simp only [dotN]
    omega

def primeB (p : Int) : Bool := decide (p = 2 ∨ p = 3 ∨ p = 5 ∨ p = 7)

def pairOk (p : Int) (a b : List Int) : Bool := primeB p && decide (a.length ≤ 512) && decide (a.length = b.length) && (allW 0 (p - 1) a && allW 0 (p - 1) b)

def pairC (p : Int) (a b : List Int) : Int × Int := if pairOk p a b = true then ((dotN a b a.length).tmod p, 0) else (0, 2)

def l15Prime_p (p : Int) : Post := ⟨True, .c (.bool (primeB p)), []⟩
def l15Prime_ct : List AD → Option Post
  | [.c (.int .i64 (p))] => some (l15Prime_p p)
  | _ => none
def l15Prime_G : List (Nat × Ctr) := []
def l15Prime_V (p : Int) : Prop :=
  (BrP (p == (2 : Int))
    ((Bool.true = Go.Sx.primeB p) ∧
    (True))
    (BrP (p == (3 : Int))
      ((Bool.true = Go.Sx.primeB p) ∧
      (True))
      (BrP (p == (5 : Int))
        ((Bool.true = Go.Sx.primeB p) ∧
        (True))
        (((p == (7 : Int)) = Go.Sx.primeB p) ∧
        (True)))))
theorem l15Prime_vc (p : Int) : runF Try.prog (gam l15Prime_G) noWr noAnn Try.f113 (bodyOf Try.f113) [] [.c (.int .i64 (p))] (l15Prime_p p) = l15Prime_V p := by kernel_rfl
theorem l15Prime_ok (p : Int) (hpre : (l15Prime_p p).pre) : l15Prime_V p := by
  simp only [l15Prime_p, l15Prime_V, BrP_iff, true_and, and_true, decide_eq_true_eq, decide_eq_false_iff_not, bne_iff_ne, beq_iff_eq, bne_eq_false_iff_eq, beq_eq_false_iff_ne, Bool.not_eq_true, Bool.not_eq_false, Bool.not_true, Bool.not_false, Bool.not_eq_eq_eq_not, Int.toNat_natCast, List.length_append, List.length_take, List.length_replicate, List.length_set, List.length_map, List.length_drop, List.length_nil, List.length_cons, markL_length, inB, InR, room, bdsOk] at hpre ⊢
  refine ⟨fun h => ?_, fun h => ⟨fun h => ?_, fun h => ⟨fun h => ?_, fun h => ?_⟩⟩⟩ <;> simp [primeB, *]
  rw [Bool.eq_iff_iff]; simp
theorem l15Prime_fits : Fits Try.prog 113 ⟨[], l15Prime_ct⟩ := by
  refine fits_fn (Γ := gam l15Prime_G) gok_nil Try.func113 (by kernel_rfl) (by kernel_rfl) (by kernel_rfl) fun ds p h hp => ?_
  unfold l15Prime_ct at h
  split at h
  · cases h
    exact ⟨noWr, noAnn, by rw [l15Prime_vc]; exact l15Prime_ok _  hp⟩
  · cases h

def isFieldPrime_p (p : Int) : Post := ⟨True, .c (.bool (primeB p)), []⟩
def isFieldPrime_ct : List AD → Option Post
  | [.c (.int .i64 (p))] => some (isFieldPrime_p p)
  | _ => none
def isFieldPrime_G : List (Nat × Ctr) := []
def isFieldPrime_V (p : Int) : Prop :=
  (BrP (p == (2 : Int))
    ((Bool.true = Go.Sx.primeB p) ∧
    (True))
    (BrP (p == (3 : Int))
      ((Bool.true = Go.Sx.primeB p) ∧
      (True))
      (BrP (p == (5 : Int))
        ((Bool.true = Go.Sx.primeB p) ∧
        (True))
        (((p == (7 : Int)) = Go.Sx.primeB p) ∧
        (True)))))
theorem isFieldPrime_vc (p : Int) : runF Try.prog (gam isFieldPrime_G) noWr noAnn Try.f145 (bodyOf Try.f145) [] [.c (.int .i64 (p))] (isFieldPrime_p p) = isFieldPrime_V p := by kernel_rfl
theorem isFieldPrime_ok (p : Int) (hpre : (isFieldPrime_p p).pre) : isFieldPrime_V p := by
  simp only [isFieldPrime_p, isFieldPrime_V, BrP_iff, true_and, and_true, decide_eq_true_eq, decide_eq_false_iff_not, bne_iff_ne, beq_iff_eq, bne_eq_false_iff_eq, beq_eq_false_iff_ne, Bool.not_eq_true, Bool.not_eq_false, Bool.not_true, Bool.not_false, Bool.not_eq_eq_eq_not, Int.toNat_natCast, List.length_append, List.length_take, List.length_replicate, List.length_set, List.length_map, List.length_drop, List.length_nil, List.length_cons, markL_length, inB, InR, room, bdsOk] at hpre ⊢
  refine ⟨fun h => ?_, fun h => ⟨fun h => ?_, fun h => ⟨fun h => ?_, fun h => ?_⟩⟩⟩ <;> simp [primeB, *]
  rw [Bool.eq_iff_iff]; simp
theorem isFieldPrime_fits : Fits Try.prog 145 ⟨[], isFieldPrime_ct⟩ := by
  refine fits_fn (Γ := gam isFieldPrime_G) gok_nil Try.func145 (by kernel_rfl) (by kernel_rfl) (by kernel_rfl) fun ds p h hp => ?_
  unfold isFieldPrime_ct at h
  split at h
  · cases h
    exact ⟨noWr, noAnn, by rw [isFieldPrime_vc]; exact isFieldPrime_ok _  hp⟩
  · cases h

def l15Pair_p (p : Int) (a : List Int) (b : List Int) : Post := ⟨2 ≤ p ∧ p ≤ 7 ∧ a.length ≤ 512 ∧ a.length = b.length ∧ allW 0 (p - 1) a = true ∧ allW 0 (p - 1) b = true, .c (.int .i64 ((dotN a b a.length).tmod p)), []⟩
def l15Pair_ct : List AD → Option Post
  | [.c (.int .i64 (p)), .c (.ints .i64 (a)), .c (.ints .i64 (b))] => some (l15Pair_p p a b)
  | _ => none
def l15Pair_ann (p : Int) (a : List Int) (b : List Int) : Nat → Option Ann
  | 0 => some (Ann.mk ((Nat)) (fun i => ⟨[(0, .c (.int .i64 (p))), (1, .c (.ro (.ints .i64 (a)))), (2, .c (.ro (.ints .i64 (b)))), (7, .c (.int .i64 ((dotN a b i).tmod p))), (8, .c (.int .i64 ((i : Int))))], []⟩) (fun i => i ≤ a.length) (fun i => a.length - i) (fun _ => noAnn))
  | _ => none
def l15Pair_G : List (Nat × Ctr) := []
def l15Pair_V (p : Int) (a : List Int) (b : List Int) : Prop :=
  ((∃ x0 : Nat, ((x0 ≤ List.length a) ∧
  ((p = p) ∧
  ((a = a) ∧
  ((b = b) ∧
  (((0 : Int) = Int.tmod (Go.Sx.dotN a b x0) p) ∧
  ((0 : Int) = (↑x0 : Int)))))))) ∧
  (∀ x1 : Nat, ((x1 ≤ List.length a) →
  (BrP (Decidable.decide ((↑x1 : Int) < (↑(List.length a) : Int)))
    ((Go.Sx.inB (↑x1 : Int) (List.length a)) ∧
    ((Go.Sx.inB (↑x1 : Int) (List.length b)) ∧
    ((Go.Sx.InR (List.getD a (Int.toNat (↑x1 : Int)) (0 : Int) * List.getD b (Int.toNat (↑x1 : Int)) (0 : Int))) ∧
    ((Go.Sx.InR (Int.tmod (Go.Sx.dotN a b x1) p + List.getD a (Int.toNat (↑x1 : Int)) (0 : Int) * List.getD b (Int.toNat (↑x1 : Int)) (0 : Int))) ∧
    ((p ≠ (0 : Int)) ∧
    ((Go.Sx.InR ((↑x1 : Int) + (1 : Int))) ∧
    (∃ x2 : Nat, ((x2 ≤ List.length a) ∧
    ((List.length a - x2 < List.length a - x1) ∧
    ((p = p) ∧
    ((a = a) ∧
    ((b = b) ∧
    ((Int.tmod (Int.tmod (Go.Sx.dotN a b x1) p + List.getD a (Int.toNat (↑x1 : Int)) (0 : Int) * List.getD b (Int.toNat (↑x1 : Int)) (0 : Int)) p = Int.tmod (Go.Sx.dotN a b x2) p) ∧
    ((↑x1 : Int) + (1 : Int) = (↑x2 : Int)))))))))))))))
    ((Int.tmod (Go.Sx.dotN a b x1) p = Int.tmod (Go.Sx.dotN a b (List.length a)) p) ∧
    (True))))))
theorem l15Pair_vc (p : Int) (a : List Int) (b : List Int) : runF Try.prog (gam l15Pair_G) noWr (l15Pair_ann p a b) Try.f70 (bodyOf Try.f70) [] [.c (.int .i64 (p)), .c (.ints .i64 (a)), .c (.ints .i64 (b))] (l15Pair_p p a b) = l15Pair_V p a b := by kernel_rfl
theorem l15Pair_ok (p : Int) (a : List Int) (b : List Int) (hpre : (l15Pair_p p a b).pre) : l15Pair_V p a b := by
  simp only [l15Pair_p, l15Pair_V, BrP_iff, true_and, and_true, decide_eq_true_eq, decide_eq_false_iff_not, bne_iff_ne, beq_iff_eq, bne_eq_false_iff_eq, beq_eq_false_iff_ne, Bool.not_eq_true, Bool.not_eq_false, Bool.not_true, Bool.not_false, Bool.not_eq_eq_eq_not, Int.toNat_natCast, List.length_append, List.length_take, List.length_replicate, List.length_set, List.length_map, List.length_drop, List.length_nil, List.length_cons, markL_length, inB, InR, room, bdsOk] at hpre ⊢
  obtain ⟨h1, h2, h3, h4, h5, h6⟩ := hpre
  refine ⟨⟨0, by omega, by simp [dotN], rfl⟩, fun i hi => ⟨fun h => ?_, fun h => ?_⟩⟩
  · have q1 := dotN_le h2 h5 h6 i hi (by omega)
    have q2 := allW_get h5 i (by omega)
    have q3 := allW_get h6 i (by omega)
    have q4 := mul_le36 (x := a.getD i 0) (y := b.getD i 0) (by omega) (by omega)
    have e1 : (dotN a b i).tmod p = dotN a b i % p := Int.tmod_eq_emod_of_nonneg q1.1
    have q5 := Int.emod_nonneg (dotN a b i) (show p ≠ 0 by omega)
    have q6 := Int.emod_lt_of_pos (dotN a b i) (show 0 < p by omega)
    rw [e1]
    refine ⟨by omega, by omega, by omega, by omega, by omega, by omega, i + 1, by omega, by omega, ?_, by omega⟩
    rw [Int.tmod_eq_emod_of_nonneg (by omega)]
    simp only [dotN]
    rw [Int.tmod_eq_emod_of_nonneg (by omega), Int.emod_add_emod]
  · rw [show i = a.length by omega]
theorem l15Pair_fits : Fits Try.prog 70 ⟨[], l15Pair_ct⟩ := by
  refine fits_fn (Γ := gam l15Pair_G) gok_nil Try.func70 (by kernel_rfl) (by kernel_rfl) (by kernel_rfl) fun ds p h hp => ?_
  unfold l15Pair_ct at h
  split at h
  · cases h
    exact ⟨noWr, l15Pair_ann _ _ _ , by rw [l15Pair_vc]; exact l15Pair_ok _ _ _  hp⟩
  · cases h

def pairing_p (p : Int) (a : List Int) (b : List Int) : Post := ⟨2 ≤ p ∧ p ≤ 7 ∧ a.length ≤ 512 ∧ a.length = b.length ∧ allW 0 (p - 1) a = true ∧ allW 0 (p - 1) b = true, .c (.int .i64 ((dotN a b a.length).tmod p)), []⟩
def pairing_ct : List AD → Option Post
  | [.c (.int .i64 (p)), .c (.ints .i64 (a)), .c (.ints .i64 (b))] => some (pairing_p p a b)
  | _ => none
def pairing_ann (p : Int) (a : List Int) (b : List Int) : Nat → Option Ann
  | 0 => some (Ann.mk ((Nat)) (fun i => ⟨[(0, .c (.int .i64 (p))), (2, .c (.ro (.ints .i64 (b)))), (7, .c (.int .i64 (dotN a b i))), (10, .c (.ro (.ints .i64 (a)))), (11, .c (.int .i64 ((a.length : Int)))), (12, .c (.int .i64 ((i : Int))))], []⟩) (fun i => i ≤ a.length) (fun i => a.length - i) (fun _ => noAnn))
  | _ => none
def pairing_G : List (Nat × Ctr) := []
def pairing_V (p : Int) (a : List Int) (b : List Int) : Prop :=
  ((∃ x0 : Nat, ((x0 ≤ List.length a) ∧
  ((p = p) ∧
  ((b = b) ∧
  (((0 : Int) = Go.Sx.dotN a b x0) ∧
  ((a = a) ∧
  (((↑(List.length a) : Int) = (↑(List.length a) : Int)) ∧
  ((0 : Int) = (↑x0 : Int))))))))) ∧
  (∀ x1 : Nat, ((x1 ≤ List.length a) →
  (BrP (Decidable.decide ((↑x1 : Int) < (↑(List.length a) : Int)))
    ((Go.Sx.inB (↑x1 : Int) (List.length a)) ∧
    ((Go.Sx.inB (↑x1 : Int) (List.length b)) ∧
    ((Go.Sx.InR (List.getD a (Int.toNat (↑x1 : Int)) (0 : Int) * List.getD b (Int.toNat (↑x1 : Int)) (0 : Int))) ∧
    ((Go.Sx.InR (Go.Sx.dotN a b x1 + List.getD a (Int.toNat (↑x1 : Int)) (0 : Int) * List.getD b (Int.toNat (↑x1 : Int)) (0 : Int))) ∧
    ((Go.Sx.InR ((↑x1 : Int) + (1 : Int))) ∧
    (∃ x2 : Nat, ((x2 ≤ List.length a) ∧
    ((List.length a - x2 < List.length a - x1) ∧
    ((p = p) ∧
    ((b = b) ∧
    ((Go.Sx.dotN a b x1 + List.getD a (Int.toNat (↑x1 : Int)) (0 : Int) * List.getD b (Int.toNat (↑x1 : Int)) (0 : Int) = Go.Sx.dotN a b x2) ∧
    ((a = a) ∧
    (((↑(List.length a) : Int) = (↑(List.length a) : Int)) ∧
    ((↑x1 : Int) + (1 : Int) = (↑x2 : Int)))))))))))))))
    ((p ≠ (0 : Int)) ∧
    ((Int.tmod (Go.Sx.dotN a b x1) p = Int.tmod (Go.Sx.dotN a b (List.length a)) p) ∧
    (True)))))))
theorem pairing_vc (p : Int) (a : List Int) (b : List Int) : runF Try.prog (gam pairing_G) noWr (pairing_ann p a b) Try.f75 (bodyOf Try.f75) [] [.c (.int .i64 (p)), .c (.ints .i64 (a)), .c (.ints .i64 (b))] (pairing_p p a b) = pairing_V p a b := by kernel_rfl
theorem pairing_ok (p : Int) (a : List Int) (b : List Int) (hpre : (pairing_p p a b).pre) : pairing_V p a b := by
  simp only [pairing_p, pairing_V, BrP_iff, true_and, and_true, decide_eq_true_eq, decide_eq_false_iff_not, bne_iff_ne, beq_iff_eq, bne_eq_false_iff_eq, beq_eq_false_iff_ne, Bool.not_eq_true, Bool.not_eq_false, Bool.not_true, Bool.not_false, Bool.not_eq_eq_eq_not, Int.toNat_natCast, List.length_append, List.length_take, List.length_replicate, List.length_set, List.length_map, List.length_drop, List.length_nil, List.length_cons, markL_length, inB, InR, room, bdsOk] at hpre ⊢
  obtain ⟨h1, h2, h3, h4, h5, h6⟩ := hpre
  refine ⟨⟨0, by omega, by simp [dotN], rfl⟩, fun i hi => ⟨fun h => ?_, fun h => ?_⟩⟩
  · have q1 := dotN_le h2 h5 h6 i hi (by omega)
    have q2 := allW_get h5 i (by omega)
    have q3 := allW_get h6 i (by omega)
    have q4 := mul_le36 (x := a.getD i 0) (y := b.getD i 0) (by omega) (by omega)
    exact ⟨by omega, by omega, by omega, by omega, by omega, i + 1, by omega, by omega, rfl, by omega⟩
  · rw [show i = a.length by omega]
    exact ⟨by omega, rfl⟩
theorem pairing_fits : Fits Try.prog 75 ⟨[], pairing_ct⟩ := by
  refine fits_fn (Γ := gam pairing_G) gok_nil Try.func75 (by kernel_rfl) (by kernel_rfl) (by kernel_rfl) fun ds p h hp => ?_
  unfold pairing_ct at h
  split at h
  · cases h
    exact ⟨noWr, pairing_ann _ _ _ , by rw [pairing_vc]; exact pairing_ok _ _ _  hp⟩
  · cases h

theorem primeB_le {p : Int} (h : primeB p = true) : 2 ≤ p ∧ p ≤ 7 := by
  have := of_decide_eq_true h
  omega

theorem pairC_no {p : Int} {a b : List Int} (h : pairOk p a b = false) : 0 = (pairC p a b).1 ∧ 2 = (pairC p a b).2 := by simp [pairC, h]
theorem pairC_yes {p : Int} {a b : List Int} (h : pairOk p a b = true) : (dotN a b a.length).tmod p = (pairC p a b).1 ∧ 0 = (pairC p a b).2 := by simp [pairC, h]




end Go.Sx

