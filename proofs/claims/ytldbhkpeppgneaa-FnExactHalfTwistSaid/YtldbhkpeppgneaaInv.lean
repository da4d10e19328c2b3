/- Contracts on the way of InverseBraid and ReduceBraid. -/
import Derived.Test.YtldbhkpeppgneaaBraidSum
open Go Go.Proofs
namespace Go.Sx
set_option linter.unusedSimpArgs false
set_option linter.unusedVariables false

def negL (l : List Int) : List Int := l.map fun x => -x

theorem negL_length (l : List Int) : (negL l).length = l.length := by simp [negL]
theorem negL_getD (l : List Int) (i : Nat) (h : i < l.length) : (negL l).getD i 0 = -l.getD i 0 := by
  simp [negL, List.getD_eq_getElem?_getD, h]

theorem rev_getD (l : List Int) (i : Nat) (h : i < l.length) : l.reverse.getD i 0 = l.getD (l.length - 1 - i) 0 := by
  simp [List.getD_eq_getElem?_getD, List.getElem?_reverse h]

/-- The first i and the last i numbers exchanged. -/
def revT (l : List Int) (i : Nat) : List Int := tab l.length fun t => if t < i ∨ l.length - i ≤ t then l.getD (l.length - 1 - t) 0 else l.getD t 0

theorem revT_zero (l : List Int) : revT l 0 = l := by
  conv => rhs; rw [eq_tab l]
  apply tab_ext
  intro t ht
  rw [if_neg (by omega)]

theorem revT_end (l : List Int) (i : Nat) (h : l.length ≤ 2 * i + 1) : revT l i = l.reverse := by
  apply list_ext (by simp [revT, tab_length])
  intro t ht
  simp only [revT, tab_length] at ht
  rw [revT, tab_getD _ _ _ ht, rev_getD l t ht]
  split
  · rfl
  · rw [show l.length - 1 - t = t by omega]

theorem revT_step (l : List Int) (i : Nat) (h : 2 * i + 1 < l.length) :
    ((revT l i).set i ((revT l i).getD (l.length - 1 - i) 0)).set (l.length - 1 - i) ((revT l i).getD i 0) = revT l (i + 1) := by
  have e1 : (revT l i).getD (l.length - 1 - i) 0 = l.getD (l.length - 1 - i) 0 := by
    rw [revT, tab_getD _ _ _ (by omega), if_neg (by omega)]
  have e2 : (revT l i).getD i 0 = l.getD i 0 := by
    rw [revT, tab_getD _ _ _ (by omega), if_neg (by omega)]
  rw [e1, e2, revT, tab_set, tab_set]
  apply tab_ext
  intro t ht
  by_cases h1 : t = l.length - 1 - i
  · rw [if_pos h1, if_pos (by omega), show l.length - 1 - t = i by omega]
  · rw [if_neg h1]
    by_cases h2 : t = i
    · rw [if_pos h2, if_pos (by omega), h2]
    · rw [if_neg h2]
      by_cases h3 : t < i ∨ l.length - i ≤ t
      · rw [if_pos h3, if_pos (by omega)]
      · rw [if_neg h3, if_neg (by omega)]

def opposites_p (l : List Int) : Post := ⟨room l.length ∧ ∀ x ∈ l, -1000000 ≤ x ∧ x ≤ 1000000, .c (.ints 2 .i64 (negL l)), []⟩
def opposites_ct : List AD → Option Post
  | [.c (.ints .i64 (l))] => some (opposites_p l)
  | _ => none
def opposites_ann (l : List Int) : Nat → Option Ann
  | 0 => some (Ann.mk ((Nat)) (fun i => ⟨[(3, .c (.own (10))), (9, .c (.ro (.ints .i64 (l)))), (10, .c (.int .i64 ((l.length : Int)))), (11, .c (.int .i64 ((i : Int))))], [(10, some (.ints 2 .i64 ((negL l).take i ++ List.replicate ((negL l).length - i) 0)))]⟩) (fun i => i ≤ l.length) (fun i => l.length - i) (fun _ => noAnn))
  | _ => none
def opposites_G : List (Nat × Ctr) := []
def opposites_V (l : List Int) : Prop :=
  ((((0 : Int) ≤ (↑(List.length l) : Int)) ∧
  (((↑(List.length l) : Int) ≤ (↑(List.length l) : Int)) ∧
  (Go.Sx.room (Int.toNat (↑(List.length l) : Int))))) ∧
  ((∃ x0 : Nat, ((x0 ≤ List.length l) ∧
  ((l = l) ∧
  (((↑(List.length l) : Int) = (↑(List.length l) : Int)) ∧
  (((0 : Int) = (↑x0 : Int)) ∧
  (List.replicate (Int.toNat (↑(List.length l) : Int)) (0 : Int) = List.take x0 (Go.Sx.negL l) ++ List.replicate (List.length (Go.Sx.negL l) - x0) (0 : Int))))))) ∧
  (∀ x1 : Nat, ((x1 ≤ List.length l) →
  (BrP (Decidable.decide ((↑x1 : Int) < (↑(List.length l) : Int)))
    ((Go.Sx.inB (↑x1 : Int) (List.length l)) ∧
    ((Go.Sx.InR (-List.getD l (Int.toNat (↑x1 : Int)) (0 : Int))) ∧
    ((Go.Sx.inB (↑x1 : Int) (List.length (List.take x1 (Go.Sx.negL l) ++ List.replicate (List.length (Go.Sx.negL l) - x1) (0 : Int)))) ∧
    ((Go.Sx.InR ((↑x1 : Int) + (1 : Int))) ∧
    (∃ x2 : Nat, ((x2 ≤ List.length l) ∧
    ((List.length l - x2 < List.length l - x1) ∧
    ((l = l) ∧
    (((↑(List.length l) : Int) = (↑(List.length l) : Int)) ∧
    (((↑x1 : Int) + (1 : Int) = (↑x2 : Int)) ∧
    (List.set (List.take x1 (Go.Sx.negL l) ++ List.replicate (List.length (Go.Sx.negL l) - x1) (0 : Int)) (Int.toNat (↑x1 : Int)) (-List.getD l (Int.toNat (↑x1 : Int)) (0 : Int)) = List.take x2 (Go.Sx.negL l) ++ List.replicate (List.length (Go.Sx.negL l) - x2) (0 : Int))))))))))))
    ((List.take x1 (Go.Sx.negL l) ++ List.replicate (List.length (Go.Sx.negL l) - x1) (0 : Int) = Go.Sx.negL l) ∧
    (True)))))))
theorem opposites_vc (l : List Int) : runF Try.prog (gam opposites_G) noWr (opposites_ann l) Try.f86 (bodyOf Try.f86) [] [.c (.ints .i64 (l))] (opposites_p l) = opposites_V l := by kernel_rfl
theorem opposites_ok (l : List Int) (hpre : (opposites_p l).pre) : opposites_V l := by
  simp only [opposites_p, opposites_V, BrP_iff, true_and, and_true, decide_eq_true_eq, decide_eq_false_iff_not, bne_iff_ne, beq_iff_eq, bne_eq_false_iff_eq, beq_eq_false_iff_ne, Bool.not_eq_true, Bool.not_eq_false, Bool.not_true, Bool.not_false, Bool.not_eq_eq_eq_not, Int.toNat_natCast, List.length_append, List.length_take, List.length_replicate, List.length_set, List.length_map, List.length_drop, List.length_nil, List.length_cons, markL_length, inB, InR, room, bdsOk] at hpre ⊢
  obtain ⟨h1, h2⟩ := hpre
  have hl := negL_length l
  refine ⟨by omega, ⟨0, by omega, rfl, fill_start _ _ _ hl⟩, fun i hi => ⟨fun h => ?_, fun h => fill_end _ _ _ (by omega)⟩⟩
  have h3 := h2 _ (getD_mem l 0 i (by omega))
  refine ⟨by omega, by omega, by omega, by omega, i + 1, by omega, by omega, by omega, ?_⟩
  rw [← fill_step (negL l) 0 0 i (by omega), negL_getD _ _ (by omega)]
theorem opposites_fits : Fits Try.prog 86 ⟨[], opposites_ct⟩ := by
  refine fits_fn (Γ := gam opposites_G) gok_nil Try.func86 (by kernel_rfl) (by kernel_rfl) (by kernel_rfl) fun ds p h hp => ?_
  unfold opposites_ct at h
  split at h
  · cases h
    exact ⟨noWr, opposites_ann _ , by rw [opposites_vc]; exact opposites_ok _  hp⟩
  · cases h

def Reverse_p (l : List Int) : Post := ⟨room l.length, .tup [], [.ints 2 .i64 (l.reverse)]⟩
def Reverse_ct : List AD → Option Post
  | [.c (.ints .i64 (l))] => some (Reverse_p l)
  | _ => none
def Reverse_ann (l : List Int) : Nat → Option Ann
  | 0 => some (Ann.mk ((Nat)) (fun i => ⟨[(0, .c (.own (700))), (2, .c (.int .i64 ((i : Int)))), (3, .c (.int .i64 ((l.length : Int) - 1 - (i : Int))))], [(700, some (.ints 2 .i64 (revT l i)))]⟩) (fun i => 2 * i ≤ l.length + 1) (fun i => l.length - i) (fun _ => noAnn))
  | _ => none
def Reverse_G : List (Nat × Ctr) := []
def Reverse_V (l : List Int) : Prop :=
  ((Go.Sx.InR ((↑(List.length l) : Int) - (1 : Int))) ∧
  ((∃ x0 : Nat, (((2 : Nat) * x0 ≤ List.length l + (1 : Nat)) ∧
  (((0 : Int) = (↑x0 : Int)) ∧
  (((↑(List.length l) : Int) - (1 : Int) = (↑(List.length l) : Int) - (1 : Int) - (↑x0 : Int)) ∧
  (l = Go.Sx.revT l x0))))) ∧
  (∀ x1 : Nat, (((2 : Nat) * x1 ≤ List.length l + (1 : Nat)) →
  (BrP (Decidable.decide ((↑x1 : Int) < (↑(List.length l) : Int) - (1 : Int) - (↑x1 : Int)))
    ((Go.Sx.inB ((↑(List.length l) : Int) - (1 : Int) - (↑x1 : Int)) (List.length (Go.Sx.revT l x1))) ∧
    ((Go.Sx.inB (↑x1 : Int) (List.length (Go.Sx.revT l x1))) ∧
    ((Go.Sx.inB (↑x1 : Int) (List.length (Go.Sx.revT l x1))) ∧
    ((Go.Sx.inB ((↑(List.length l) : Int) - (1 : Int) - (↑x1 : Int)) (List.length (List.set (Go.Sx.revT l x1) (Int.toNat (↑x1 : Int)) (List.getD (Go.Sx.revT l x1) (Int.toNat ((↑(List.length l) : Int) - (1 : Int) - (↑x1 : Int))) (0 : Int))))) ∧
    ((Go.Sx.InR ((↑x1 : Int) + (1 : Int))) ∧
    ((Go.Sx.InR ((↑(List.length l) : Int) - (1 : Int) - (↑x1 : Int) - (1 : Int))) ∧
    (∃ x2 : Nat, (((2 : Nat) * x2 ≤ List.length l + (1 : Nat)) ∧
    ((List.length l - x2 < List.length l - x1) ∧
    (((↑x1 : Int) + (1 : Int) = (↑x2 : Int)) ∧
    (((↑(List.length l) : Int) - (1 : Int) - (↑x1 : Int) - (1 : Int) = (↑(List.length l) : Int) - (1 : Int) - (↑x2 : Int)) ∧
    (List.set (List.set (Go.Sx.revT l x1) (Int.toNat (↑x1 : Int)) (List.getD (Go.Sx.revT l x1) (Int.toNat ((↑(List.length l) : Int) - (1 : Int) - (↑x1 : Int))) (0 : Int))) (Int.toNat ((↑(List.length l) : Int) - (1 : Int) - (↑x1 : Int))) (List.getD (Go.Sx.revT l x1) (Int.toNat (↑x1 : Int)) (0 : Int)) = Go.Sx.revT l x2))))))))))))
    ((True) ∧
    ((Go.Sx.revT l x1 = List.reverse l) ∧
    (True))))))))
theorem Reverse_vc (l : List Int) : runF Try.prog (gam Reverse_G) noWr (Reverse_ann l) Try.f87 (bodyOf Try.f87) [(0, 0)] [.c (.ints .i64 (l))] (Reverse_p l) = Reverse_V l := by kernel_rfl
theorem Reverse_ok (l : List Int) (hpre : (Reverse_p l).pre) : Reverse_V l := by
  simp only [Reverse_p, Reverse_V, BrP_iff, true_and, and_true, decide_eq_true_eq, decide_eq_false_iff_not, bne_iff_ne, beq_iff_eq, bne_eq_false_iff_eq, beq_eq_false_iff_ne, Bool.not_eq_true, Bool.not_eq_false, Bool.not_true, Bool.not_false, Bool.not_eq_eq_eq_not, Int.toNat_natCast, List.length_append, List.length_take, List.length_replicate, List.length_set, List.length_map, List.length_drop, List.length_nil, List.length_cons, markL_length, inB, InR, room, bdsOk] at hpre ⊢
  refine ⟨by omega, ⟨0, by omega, rfl, by omega, (revT_zero l).symm⟩, fun i hi => ⟨fun h => ?_, fun h => revT_end l i (by omega)⟩⟩
  have hl : (revT l i).length = l.length := by rw [revT, tab_length]
  rw [hl, show ((l.length : Int) - 1 - (i : Int)).toNat = l.length - 1 - i by omega]
  exact ⟨by omega, by omega, by omega, by omega, by omega, by omega, i + 1, by omega, by omega, by omega, by omega, revT_step l i (by omega)⟩
theorem Reverse_fits : Fits Try.prog 87 ⟨[(0, 0)], Reverse_ct⟩ := by
  refine fits_fn (Γ := gam Reverse_G) gok_nil Try.func87 (by kernel_rfl) (by kernel_rfl) (by kernel_rfl) fun ds p h hp => ?_
  unfold Reverse_ct at h
  split at h
  · cases h
    exact ⟨noWr, Reverse_ann _ , by rw [Reverse_vc]; exact Reverse_ok _  hp⟩
  · cases h

def l16Inverse_p (s : Int) (w : List Int) : Post := ⟨room w.length ∧ ∀ x ∈ w, -1000000 ≤ x ∧ x ≤ 1000000, .agg [.int .i64 (s), .ints 2 .i64 ((negL w).reverse)], []⟩
def l16Inverse_ct : List AD → Option Post
  | [.agg [.int .i64 (s), .ints .i64 (w)]] => some (l16Inverse_p s w)
  | _ => none
def l16Inverse_ann (s : Int) (w : List Int) : Nat → Option Ann
  | 0 => some (Ann.mk ((Nat)) (fun i => ⟨[(1, .c (.ptr 1 0)), (2, .c (.ptr 2 0)), (3, .c (.ptr 3 0)), (4, .c (.int .i64 ((i : Int) - 1)))], [(1, some (.box [.int .i64 (s), .ro (.ints .i64 (w))])), (2, some (.box [.int .i64 (0), .nil])), (3, some (.box [.int .i64 (s), .own (10)])), (10, some (.ints 2 .i64 ((negL w).reverse.take (w.length - i))))]⟩) (fun i => i ≤ w.length) (fun i => i) (fun _ => noAnn))
  | _ => none
def l16Inverse_G : List (Nat × Ctr) := []
def l16Inverse_V (s : Int) (w : List Int) : Prop :=
  ((Go.Sx.InR ((↑(List.length w) : Int) - (1 : Int))) ∧
  ((∃ x0 : Nat, ((x0 ≤ List.length w) ∧
  (((↑(List.length w) : Int) - (1 : Int) = (↑x0 : Int) - (1 : Int)) ∧
  ((s = s) ∧
  ((w = w) ∧
  (((0 : Int) = (0 : Int)) ∧
  ((s = s) ∧
  (List.take (List.length w - x0) (List.reverse (Go.Sx.negL w)) = [])))))))) ∧
  (∀ x1 : Nat, ((x1 ≤ List.length w) →
  (BrP (Decidable.decide ((0 : Int) ≤ (↑x1 : Int) - (1 : Int)))
    ((Go.Sx.inB ((↑x1 : Int) - (1 : Int)) (List.length w)) ∧
    ((Go.Sx.InR (-List.getD w (Int.toNat ((↑x1 : Int) - (1 : Int))) (0 : Int))) ∧
    ((Go.Sx.room (List.length (List.take (List.length w - x1) (List.reverse (Go.Sx.negL w))) + List.length [-List.getD w (Int.toNat ((↑x1 : Int) - (1 : Int))) (0 : Int)])) ∧
    ((Go.Sx.InR ((↑x1 : Int) - (1 : Int) - (1 : Int))) ∧
    (∃ x2 : Nat, ((x2 ≤ List.length w) ∧
    ((x2 < x1) ∧
    (((↑x1 : Int) - (1 : Int) - (1 : Int) = (↑x2 : Int) - (1 : Int)) ∧
    ((s = s) ∧
    ((w = w) ∧
    (((0 : Int) = (0 : Int)) ∧
    ((s = s) ∧
    (List.take (List.length w - x1) (List.reverse (Go.Sx.negL w)) ++ [-List.getD w (Int.toNat ((↑x1 : Int) - (1 : Int))) (0 : Int)] = List.take (List.length w - x2) (List.reverse (Go.Sx.negL w)))))))))))))))
    (((s = s) ∧
    ((List.take (List.length w - x1) (List.reverse (Go.Sx.negL w)) = List.reverse (Go.Sx.negL w)) ∧
    (True))) ∧
    (True)))))))
theorem l16Inverse_vc (s : Int) (w : List Int) : runF Try.prog (gam l16Inverse_G) noWr (l16Inverse_ann s w) Try.f85 (bodyOf Try.f85) [] [.agg [.int .i64 (s), .ints .i64 (w)]] (l16Inverse_p s w) = l16Inverse_V s w := by kernel_rfl
theorem l16Inverse_ok (s : Int) (w : List Int) (hpre : (l16Inverse_p s w).pre) : l16Inverse_V s w := by
  simp only [l16Inverse_p, l16Inverse_V, BrP_iff, true_and, and_true, decide_eq_true_eq, decide_eq_false_iff_not, bne_iff_ne, beq_iff_eq, bne_eq_false_iff_eq, beq_eq_false_iff_ne, Bool.not_eq_true, Bool.not_eq_false, Bool.not_true, Bool.not_false, Bool.not_eq_eq_eq_not, Int.toNat_natCast, List.length_append, List.length_take, List.length_replicate, List.length_set, List.length_map, List.length_drop, List.length_nil, List.length_cons, markL_length, inB, InR, room, bdsOk] at hpre ⊢
  obtain ⟨h1, h2⟩ := hpre
  have hl : (negL w).reverse.length = w.length := by rw [List.length_reverse, negL_length]
  refine ⟨by omega, ⟨w.length, by omega, rfl, by simp⟩, fun i hi => ⟨fun h => ?_, fun h => ?_⟩⟩
  · rw [hl, show ((i : Int) - 1).toNat = i - 1 by omega]
    have h3 := h2 _ (getD_mem w 0 (i - 1) (by omega))
    refine ⟨by omega, by omega, by omega, by omega, i - 1, by omega, by omega, by omega, ?_⟩
    rw [show w.length - (i - 1) = w.length - i + 1 by omega, ← take_snoc (negL w).reverse 0 (w.length - i) (by omega), rev_getD _ _ (by rw [negL_length]; omega), negL_length, negL_getD _ _ (by omega),
      show w.length - 1 - (w.length - i) = i - 1 by omega]
  · rw [List.take_of_length_le (by omega)]
theorem l16Inverse_fits : Fits Try.prog 85 ⟨[], l16Inverse_ct⟩ := by
  refine fits_fn (Γ := gam l16Inverse_G) gok_nil Try.func85 (by kernel_rfl) (by kernel_rfl) (by kernel_rfl) fun ds p h hp => ?_
  unfold l16Inverse_ct at h
  split at h
  · cases h
    exact ⟨noWr, l16Inverse_ann _ _ , by rw [l16Inverse_vc]; exact l16Inverse_ok _ _  hp⟩
  · cases h

def invC (s : Int) (w : List Int) : (Int × List Int) × Int := if braidB s w = true then ((s, (negL w).reverse), 0) else ((0, []), 1)

theorem invC_len (s : Int) (w : List Int) : (invC s w).1.2.length ≤ 30 := by
  unfold invC
  split
  · rename_i h
    have := braidB_len h
    simp only [List.length_reverse, negL_length]
    omega
  · simp

theorem braidB_mem {s : Int} {w : List Int} (h : braidB s w = true) : ∀ x ∈ w, -1000000 ≤ x ∧ x ≤ 1000000 := fun x hx => by
  obtain ⟨i, hi⟩ := List.getElem?_of_mem hx
  have hlt := (List.getElem?_eq_some_iff.1 hi).1
  have h1 := braidB_get h i hlt
  have h2 := braidB_s h
  rw [List.getD_eq_getElem?_getD, hi] at h1
  simp only [Option.getD_some] at h1
  omega

def sInverseBraid_p (s : Int) (w : List Int) : Post := ⟨room w.length, .tup [.inr [.int .i64 ((invC s w).1.1), .ints 2 .i64 ((invC s w).1.2)], .inl (.int .i64 ((invC s w).2))], []⟩
def sInverseBraid_ct : List AD → Option Post
  | [.agg [.int .i64 (s), .ints .i64 (w)]] => some (sInverseBraid_p s w)
  | _ => none
def sInverseBraid_G : List (Nat × Ctr) := [(67, ⟨[], l16Is_ct⟩), (85, ⟨[], l16Inverse_ct⟩)]
def sInverseBraid_V (s : Int) (w : List Int) : Prop :=
  (((Go.Sx.room (List.length w)) ∧
  (True)) ∧
  (BrP (!Go.Sx.braidB s w)
    (((((0 : Int) = Prod.fst (Prod.fst (Go.Sx.invC s w))) ∧
    (([] = Prod.snd (Prod.fst (Go.Sx.invC s w))) ∧
    (True))) ∧
    (((1 : Int) = Prod.snd (Go.Sx.invC s w)) ∧
    (True))) ∧
    (True))
    ((((Go.Sx.room (List.length w)) ∧
    (∀ (x : Int), x ∈ w → (-1000000 : Int) ≤ x ∧ x ≤ (1000000 : Int))) ∧
    (True)) ∧
    ((((s = Prod.fst (Prod.fst (Go.Sx.invC s w))) ∧
    ((List.reverse (Go.Sx.negL w) = Prod.snd (Prod.fst (Go.Sx.invC s w))) ∧
    (True))) ∧
    (((0 : Int) = Prod.snd (Go.Sx.invC s w)) ∧
    (True))) ∧
    (True)))))
theorem sInverseBraid_vc (s : Int) (w : List Int) : runF Try.prog (gam sInverseBraid_G) noWr noAnn Try.f43 (bodyOf Try.f43) [] [.agg [.int .i64 (s), .ints .i64 (w)]] (sInverseBraid_p s w) = sInverseBraid_V s w := by kernel_rfl
theorem sInverseBraid_ok (s : Int) (w : List Int) (hpre : (sInverseBraid_p s w).pre) : sInverseBraid_V s w := by
  simp only [sInverseBraid_p, sInverseBraid_V, BrP_iff, true_and, and_true, decide_eq_true_eq, decide_eq_false_iff_not, bne_iff_ne, beq_iff_eq, bne_eq_false_iff_eq, beq_eq_false_iff_ne, Bool.not_eq_true, Bool.not_eq_false, Bool.not_true, Bool.not_false, Bool.not_eq_eq_eq_not, Int.toNat_natCast, List.length_append, List.length_take, List.length_replicate, List.length_set, List.length_map, List.length_drop, List.length_nil, List.length_cons, markL_length, inB, InR, room, bdsOk] at hpre ⊢
  exact ⟨hpre, fun h => by simp [invC, h], fun h => ⟨⟨hpre, braidB_mem h⟩, by simp [invC, h]⟩⟩
theorem sInverseBraid_fits : Fits Try.prog 43 ⟨[], sInverseBraid_ct⟩ := by
  refine fits_fn (Γ := gam sInverseBraid_G) (gok_cons l16Is_fits (gok_cons l16Inverse_fits gok_nil)) Try.func43 (by kernel_rfl) (by kernel_rfl) (by kernel_rfl) fun ds p h hp => ?_
  unfold sInverseBraid_ct at h
  split at h
  · cases h
    exact ⟨noWr, noAnn, by rw [sInverseBraid_vc]; exact sInverseBraid_ok _ _  hp⟩
  · cases h

def iInverseBraid_p (s : Int) (w : List Int) : Post := ⟨room w.length, .tup [.inr [.int .i64 ((invC s w).1.1), .ints 2 .i64 ((invC s w).1.2)], .inl (.int .i64 ((invC s w).2))], []⟩
def iInverseBraid_ct : List AD → Option Post
  | [.agg [.int .i64 (s), .ints .i64 (w)]] => some (iInverseBraid_p s w)
  | _ => none
def iInverseBraid_G : List (Nat × Ctr) := [(25, ⟨[], iIsBraid_ct⟩), (86, ⟨[], opposites_ct⟩), (87, ⟨[(0, 0)], Reverse_ct⟩)]
def iInverseBraid_V (s : Int) (w : List Int) : Prop :=
  (((Go.Sx.room (List.length w)) ∧
  (True)) ∧
  (BrP (!Go.Sx.braidB s w)
    (((((0 : Int) = Prod.fst (Prod.fst (Go.Sx.invC s w))) ∧
    (([] = Prod.snd (Prod.fst (Go.Sx.invC s w))) ∧
    (True))) ∧
    (((1 : Int) = Prod.snd (Go.Sx.invC s w)) ∧
    (True))) ∧
    (True))
    ((((Go.Sx.room (List.length w)) ∧
    (∀ (x : Int), x ∈ w → (-1000000 : Int) ≤ x ∧ x ≤ (1000000 : Int))) ∧
    (True)) ∧
    (((Go.Sx.room (List.length (Go.Sx.negL w))) ∧
    ((List.length (List.reverse (Go.Sx.negL w)) = List.length (Go.Sx.negL w)) ∧
    (True))) ∧
    ((((s = Prod.fst (Prod.fst (Go.Sx.invC s w))) ∧
    ((List.reverse (Go.Sx.negL w) = Prod.snd (Prod.fst (Go.Sx.invC s w))) ∧
    (True))) ∧
    (((0 : Int) = Prod.snd (Go.Sx.invC s w)) ∧
    (True))) ∧
    (True))))))
theorem iInverseBraid_vc (s : Int) (w : List Int) : runF Try.prog (gam iInverseBraid_G) noWr noAnn Try.f44 (bodyOf Try.f44) [] [.agg [.int .i64 (s), .ints .i64 (w)]] (iInverseBraid_p s w) = iInverseBraid_V s w := by kernel_rfl
theorem iInverseBraid_ok (s : Int) (w : List Int) (hpre : (iInverseBraid_p s w).pre) : iInverseBraid_V s w := by
  simp only [iInverseBraid_p, iInverseBraid_V, BrP_iff, true_and, and_true, decide_eq_true_eq, decide_eq_false_iff_not, bne_iff_ne, beq_iff_eq, bne_eq_false_iff_eq, beq_eq_false_iff_ne, Bool.not_eq_true, Bool.not_eq_false, Bool.not_true, Bool.not_false, Bool.not_eq_eq_eq_not, Int.toNat_natCast, List.length_append, List.length_take, List.length_replicate, List.length_set, List.length_map, List.length_drop, List.length_nil, List.length_cons, markL_length, inB, InR, room, bdsOk] at hpre ⊢
  exact ⟨hpre, fun h => by simp [invC, h], fun h => ⟨⟨hpre, braidB_mem h⟩, ⟨by rw [negL_length]; exact hpre, by simp⟩, by simp [invC, h]⟩⟩
theorem iInverseBraid_fits : Fits Try.prog 44 ⟨[], iInverseBraid_ct⟩ := by
  refine fits_fn (Γ := gam iInverseBraid_G) (gok_cons iIsBraid_fits (gok_cons opposites_fits (gok_cons Reverse_fits gok_nil))) Try.func44 (by kernel_rfl) (by kernel_rfl) (by kernel_rfl) fun ds p h hp => ?_
  unfold iInverseBraid_ct at h
  split at h
  · cases h
    exact ⟨noWr, noAnn, by rw [iInverseBraid_vc]; exact iInverseBraid_ok _ _  hp⟩
  · cases h

def lInverseBraid_p (s : Int) (w : List Int) : Post := ⟨(w.length : Int) ≤ 9223372036854775807, .c (.bool (true)), []⟩
def lInverseBraid_ct : List AD → Option Post
  | [.agg [.int .i64 (s), .ints .i64 (w)]] => some (lInverseBraid_p s w)
  | _ => none
def lInverseBraid_G : List (Nat × Ctr) := [(22, ⟨[], szBraid_ct⟩), (24, ⟨[], toBraid_ct⟩), (26, ⟨[], eqBraid_ct⟩), (35, ⟨[(0, 1)], markBraid_ct⟩), (36, ⟨[], heldBraid_ct⟩), (43, ⟨[], sInverseBraid_ct⟩), (44, ⟨[], iInverseBraid_ct⟩)]
def lInverseBraid_V (s : Int) (w : List Int) : Prop :=
  (((((↑(List.length w) : Int) ≤ (9223372036854775807 : Int)) ∧
  (((0 : Int) ≤ (1048576 : Int)) ∧
  ((1048576 : Int) ≤ (1099511627776 : Int)))) ∧
  (True)) ∧
  (BrP (Decidable.decide ((if (1048576 : Int) < (↑(List.length w) : Int) then (-1 : Int) else (1048576 : Int) - (↑(List.length w) : Int)) < (0 : Int)))
    ((Bool.true = Bool.true) ∧
    (True))
    (((Go.Sx.room (List.length w)) ∧
    (True)) ∧
    (((Go.Sx.room (List.length w)) ∧
    (True)) ∧
    (((Go.Sx.room (List.length w)) ∧
    (True)) ∧
    (((Go.Sx.room (List.length w)) ∧
    (True)) ∧
    (((Go.Sx.room (List.length (Prod.snd (Prod.fst (Go.Sx.invC s w))))) ∧
    (True)) ∧
    (BrP (!Decidable.decide (Prod.fst (Prod.fst (Go.Sx.invC s w)) = Prod.fst (Prod.fst (Go.Sx.invC s w)) ∧ Prod.snd (Prod.fst (Go.Sx.invC s w)) = Prod.snd (Prod.fst (Go.Sx.invC s w))))
      ((Bool.false = Bool.true) ∧
      (True))
      (BrP (Prod.snd (Go.Sx.invC s w) != Prod.snd (Go.Sx.invC s w))
        ((Bool.false = Bool.true) ∧
        (True))
        (((Go.Sx.room (List.length w)) ∧
        (True)) ∧
        (((Go.Sx.room (List.length w)) ∧
        (True)) ∧
        (BrP (!Decidable.decide (s = s ∧ w = w))
          ((Bool.false = Bool.true) ∧
          (True))
          ((((Go.Sx.room (List.length w)) ∧
          (((0 : Int) ≤ (1 : Int)) ∧
          ((1 : Int) ≤ (1099511627776 : Int)))) ∧
          ((List.length (Go.Sx.markL (1 : Int) (List.length w)) = List.length w) ∧
          (True))) ∧
          (BrP (Decidable.decide ((1 : Int) + (↑(List.length w) : Int) < (0 : Int)))
            ((Bool.false = Bool.true) ∧
            (True))
            (((Go.Sx.room (List.length (Prod.snd (Prod.fst (Go.Sx.invC s w))))) ∧
            (True)) ∧
            (BrP (!Decidable.decide (Prod.fst (Prod.fst (Go.Sx.invC s w)) = Prod.fst (Prod.fst (Go.Sx.invC s w)) ∧ Prod.snd (Prod.fst (Go.Sx.invC s w)) = Prod.snd (Prod.fst (Go.Sx.invC s w))))
              ((Bool.false = Bool.true) ∧
              (True))
              (BrP (Prod.snd (Go.Sx.invC s w) != Prod.snd (Go.Sx.invC s w))
                ((Bool.false = Bool.true) ∧
                (True))
                ((((Go.Sx.room (List.length (Prod.snd (Prod.fst (Go.Sx.invC s w))))) ∧
                (((0 : Int) ≤ (1 : Int)) ∧
                ((1 : Int) ≤ (1099511627776 : Int)))) ∧
                ((List.length (Go.Sx.markL (1 : Int) (List.length (Prod.snd (Prod.fst (Go.Sx.invC s w))))) = List.length (Prod.snd (Prod.fst (Go.Sx.invC s w)))) ∧
                (True))) ∧
                ((((Go.Sx.room (List.length (Go.Sx.markL (1 : Int) (List.length (Prod.snd (Prod.fst (Go.Sx.invC s w))))))) ∧
                (((0 : Int) ≤ (1 : Int)) ∧
                ((1 : Int) ≤ (1099511627776 : Int)))) ∧
                (True)) ∧
                (BrP (Decidable.decide ((if Go.Sx.markL (1 : Int) (List.length (Prod.snd (Prod.fst (Go.Sx.invC s w)))) = Go.Sx.markL (1 : Int) (List.length (Go.Sx.markL (1 : Int) (List.length (Prod.snd (Prod.fst (Go.Sx.invC s w)))))) then (1 : Int) + (↑(List.length (Go.Sx.markL (1 : Int) (List.length (Prod.snd (Prod.fst (Go.Sx.invC s w)))))) : Int) else (-1 : Int)) < (0 : Int)))
                  ((Bool.false = Bool.true) ∧
                  (True))
                  (BrP ((if Go.Sx.markL (1 : Int) (List.length (Prod.snd (Prod.fst (Go.Sx.invC s w)))) = Go.Sx.markL (1 : Int) (List.length (Go.Sx.markL (1 : Int) (List.length (Prod.snd (Prod.fst (Go.Sx.invC s w)))))) then (1 : Int) + (↑(List.length (Go.Sx.markL (1 : Int) (List.length (Prod.snd (Prod.fst (Go.Sx.invC s w)))))) : Int) else (-1 : Int)) != (1 : Int) + (↑(List.length (Prod.snd (Prod.fst (Go.Sx.invC s w)))) : Int))
                    ((Bool.false = Bool.true) ∧
                    (True))
                    (((Go.Sx.room (List.length w)) ∧
                    (True)) ∧
                    (((Go.Sx.room (List.length w)) ∧
                    (True)) ∧
                    (((Go.Sx.room (List.length (Prod.snd (Prod.fst (Go.Sx.invC s w))))) ∧
                    (True)) ∧
                    (BrP (!Decidable.decide (Prod.fst (Prod.fst (Go.Sx.invC s w)) = Prod.fst (Prod.fst (Go.Sx.invC s w)) ∧ Prod.snd (Prod.fst (Go.Sx.invC s w)) = Prod.snd (Prod.fst (Go.Sx.invC s w))))
                      ((Bool.false = Bool.true) ∧
                      (True))
                      (BrP (Prod.snd (Go.Sx.invC s w) != Prod.snd (Go.Sx.invC s w))
                        ((Bool.false = Bool.true) ∧
                        (True))
                        ((((Go.Sx.room (List.length (Go.Sx.markL (1 : Int) (List.length (Prod.snd (Prod.fst (Go.Sx.invC s w))))))) ∧
                        (((0 : Int) ≤ (1 : Int)) ∧
                        ((1 : Int) ≤ (1099511627776 : Int)))) ∧
                        (True)) ∧
                        (BrP (Decidable.decide ((if Go.Sx.markL (1 : Int) (List.length (Prod.snd (Prod.fst (Go.Sx.invC s w)))) = Go.Sx.markL (1 : Int) (List.length (Go.Sx.markL (1 : Int) (List.length (Prod.snd (Prod.fst (Go.Sx.invC s w)))))) then (1 : Int) + (↑(List.length (Go.Sx.markL (1 : Int) (List.length (Prod.snd (Prod.fst (Go.Sx.invC s w)))))) : Int) else (-1 : Int)) < (0 : Int)))
                          ((Bool.false = Bool.true) ∧
                          (True))
                          (BrP ((if Go.Sx.markL (1 : Int) (List.length (Prod.snd (Prod.fst (Go.Sx.invC s w)))) = Go.Sx.markL (1 : Int) (List.length (Go.Sx.markL (1 : Int) (List.length (Prod.snd (Prod.fst (Go.Sx.invC s w)))))) then (1 : Int) + (↑(List.length (Go.Sx.markL (1 : Int) (List.length (Prod.snd (Prod.fst (Go.Sx.invC s w)))))) : Int) else (-1 : Int)) != (1 : Int) + (↑(List.length (Prod.snd (Prod.fst (Go.Sx.invC s w)))) : Int))
                            ((Bool.false = Bool.true) ∧
                            (True))
                            ((Bool.true = Bool.true) ∧
                            (True)))))))))))))))))))))))))))))))
theorem lInverseBraid_vc (s : Int) (w : List Int) : runF Try.prog (gam lInverseBraid_G) noWr noAnn Try.f11 (bodyOf Try.f11) [] [.agg [.int .i64 (s), .ints .i64 (w)]] (lInverseBraid_p s w) = lInverseBraid_V s w := by kernel_rfl
theorem lInverseBraid_ok (s : Int) (w : List Int) (hpre : (lInverseBraid_p s w).pre) : lInverseBraid_V s w := by
  simp only [lInverseBraid_p, lInverseBraid_V, BrP_iff, true_and, and_true, decide_eq_true_eq, decide_eq_false_iff_not, bne_iff_ne, beq_iff_eq, bne_eq_false_iff_eq, beq_eq_false_iff_ne, Bool.not_eq_true, Bool.not_eq_false, Bool.not_true, Bool.not_false, Bool.not_eq_eq_eq_not, Int.toNat_natCast, List.length_append, List.length_take, List.length_replicate, List.length_set, List.length_map, List.length_drop, List.length_nil, List.length_cons, markL_length, inB, InR, room, bdsOk] at hpre ⊢
  refine ⟨⟨hpre, by omega, by omega⟩, fun _ => trivial, fun h => ?_⟩
  have hw : w.length ≤ 1099511627776 := by split at h <;> omega
  have hl := invC_len s w
  have h1 : (invC s w).1.2.length ≤ 1099511627776 := by omega
  have h2 : ¬ (1 + ((invC s w).1.2.length : Int) < 0) := by omega
  have h3 : ¬ (1 + (w.length : Int) < 0) := by omega
  simp [hw, h1, h2, h3]
theorem lInverseBraid_fits : Fits Try.prog 11 ⟨[], lInverseBraid_ct⟩ := by
  refine fits_fn (Γ := gam lInverseBraid_G) (gok_cons szBraid_fits (gok_cons toBraid_fits (gok_cons eqBraid_fits (gok_cons markBraid_fits (gok_cons heldBraid_fits (gok_cons sInverseBraid_fits (gok_cons iInverseBraid_fits gok_nil))))))) Try.func11 (by kernel_rfl) (by kernel_rfl) (by kernel_rfl) fun ds p h hp => ?_
  unfold lInverseBraid_ct at h
  split at h
  · cases h
    exact ⟨noWr, noAnn, by rw [lInverseBraid_vc]; exact lInverseBraid_ok _ _  hp⟩
  · cases h

/-- One letter laid upon a reduced word. -/
def redS (st : List Int) (x : Int) : List Int := if st.length ≠ 0 ∧ st.getD (st.length - 1) 0 = -x then st.take (st.length - 1) else st ++ [x]

def redN (w : List Int) : Nat → List Int
  | 0 => []
  | i + 1 => redS (redN w i) (w.getD i 0)

theorem redN_len (w : List Int) : ∀ i, (redN w i).length ≤ i
  | 0 => by simp [redN]
  | i + 1 => by
    have := redN_len w i
    simp only [redN, redS]
    split
    · simp only [List.length_take]; omega
    · simp only [List.length_append, List.length_cons, List.length_nil]; omega

def redC (s : Int) (w : List Int) : (Int × List Int) × Int := if braidB s w = true then ((s, redN w w.length), 0) else ((0, []), 1)

theorem redC_len (s : Int) (w : List Int) : (redC s w).1.2.length ≤ 30 := by
  unfold redC
  split
  · rename_i h
    have := braidB_len h
    have := redN_len w w.length
    simp only []
    omega
  · simp

theorem redS_pop {st l : List Int} {x : Int} (h0 : st.length ≤ l.length) (h : l.take st.length = st) (h1 : 0 < st.length) (h2 : l.getD (st.length - 1) 0 = -x) :
    (redS st x).length = st.length - 1 ∧ l.take (redS st x).length = redS st x := by
  have e : st.getD (st.length - 1) 0 = l.getD (st.length - 1) 0 := by
    have := take_getD l 0 st.length (st.length - 1) (by omega)
    rw [h] at this
    exact this
  have : redS st x = st.take (st.length - 1) := by
    unfold redS
    rw [if_pos ⟨by omega, by rw [e, h2]⟩]
  rw [this]
  have hl : (st.take (st.length - 1)).length = st.length - 1 := by simp
  rw [hl]
  refine ⟨rfl, ?_⟩
  conv => rhs; rw [← h]
  rw [List.take_take, h, Nat.min_eq_left (by omega)]

theorem redS_push {st l : List Int} {x : Int} (h0 : st.length ≤ l.length) (h : l.take st.length = st) (h2 : st.length = 0 ∨ l.getD (st.length - 1) 0 ≠ -x) :
    redS st x = l.take st.length ++ [x] := by
  rw [h]
  unfold redS
  rw [if_neg]
  rintro ⟨h3, h4⟩
  rcases h2 with h2 | h2
  · exact h3 h2
  · apply h2
    rw [← h4]
    have := take_getD l 0 st.length (st.length - 1) (by omega)
    rw [h] at this
    exact this.symm

def l01Own_p (l : List Int) : Post := ⟨room l.length, .c (.ints 2 .i64 (l)), []⟩
def l01Own_ct : List AD → Option Post
  | [.c (.ints .i64 (l))] => some (l01Own_p l)
  | _ => none
def l01Own_G : List (Nat × Ctr) := []
def l01Own_V (l : List Int) : Prop :=
  ((Go.Sx.room (List.length ([] : List Int) + List.length l)) ∧
  (([] ++ l = l) ∧
  (True)))
theorem l01Own_vc (l : List Int) : runF Try.prog (gam l01Own_G) noWr noAnn Try.f84 (bodyOf Try.f84) [] [.c (.ints .i64 (l))] (l01Own_p l) = l01Own_V l := by kernel_rfl
theorem l01Own_ok (l : List Int) (hpre : (l01Own_p l).pre) : l01Own_V l := by
  simp only [l01Own_p, l01Own_V, BrP_iff, true_and, and_true, decide_eq_true_eq, decide_eq_false_iff_not, bne_iff_ne, beq_iff_eq, bne_eq_false_iff_eq, beq_eq_false_iff_ne, Bool.not_eq_true, Bool.not_eq_false, Bool.not_true, Bool.not_false, Bool.not_eq_eq_eq_not, Int.toNat_natCast, List.length_append, List.length_take, List.length_replicate, List.length_set, List.length_map, List.length_drop, List.length_nil, List.length_cons, markL_length, inB, InR, room, bdsOk] at hpre ⊢
  simp [hpre]
theorem l01Own_fits : Fits Try.prog 84 ⟨[], l01Own_ct⟩ := by
  refine fits_fn (Γ := gam l01Own_G) gok_nil Try.func84 (by kernel_rfl) (by kernel_rfl) (by kernel_rfl) fun ds p h hp => ?_
  unfold l01Own_ct at h
  split at h
  · cases h
    exact ⟨noWr, noAnn, by rw [l01Own_vc]; exact l01Own_ok _  hp⟩
  · cases h

def sReduceBraid_p (s : Int) (w : List Int) : Post := ⟨room w.length, .tup [.inr [.int .i64 ((redC s w).1.1), .ints 2 .i64 ((redC s w).1.2)], .inl (.int .i64 ((redC s w).2))], []⟩
def sReduceBraid_ct : List AD → Option Post
  | [.agg [.int .i64 (s), .ints .i64 (w)]] => some (sReduceBraid_p s w)
  | _ => none
def sReduceBraid_ann (s : Int) (w : List Int) : Nat → Option Ann
  | 0 => some (Ann.mk ((Nat) × (List Int)) (fun x => match x with | (i, l) => ⟨[(1, .c (.ptr 1 0)), (2, .c (.ptr 2 0)), (4, .c (.pre 10 ((redN w i).length))), (5, .c (.int .i64 ((i : Int))))], [(1, some (.box [.int .i64 (s), .ro (.ints .i64 (w))])), (2, some (.box [.int .i64 (0), .nil])), (10, some (.ints 2 .i64 (l)))]⟩) (fun x => match x with | (i, l) => i ≤ w.length ∧ braidB s w = true ∧ (redN w i).length ≤ l.length ∧ l.take (redN w i).length = redN w i) (fun x => match x with | (i, l) => w.length - i) (fun _ => noAnn))
  | _ => none
def sReduceBraid_G : List (Nat × Ctr) := [(67, ⟨[], l16Is_ct⟩), (84, ⟨[], l01Own_ct⟩)]
def sReduceBraid_V (s : Int) (w : List Int) : Prop :=
  (((Go.Sx.room (List.length w)) ∧
  (True)) ∧
  (BrP (!Go.Sx.braidB s w)
    (((((0 : Int) = Prod.fst (Prod.fst (Go.Sx.redC s w))) ∧
    (([] = Prod.snd (Prod.fst (Go.Sx.redC s w))) ∧
    (True))) ∧
    (((1 : Int) = Prod.snd (Go.Sx.redC s w)) ∧
    (True))) ∧
    (True))
    ((∃ x0 : Nat × List Int, (((Prod.fst x0 ≤ List.length w) ∧
    ((Go.Sx.braidB s w = Bool.true) ∧
    ((List.length (Go.Sx.redN w (Prod.fst x0)) ≤ List.length (Prod.snd x0)) ∧
    (List.take (List.length (Go.Sx.redN w (Prod.fst x0))) (Prod.snd x0) = Go.Sx.redN w (Prod.fst x0))))) ∧
    ((List.length ([] : List Int) = List.length (Go.Sx.redN w x0.1)) ∧
    (((0 : Int) = (↑x0.1 : Int)) ∧
    ((s = s) ∧
    ((w = w) ∧
    (((0 : Int) = (0 : Int)) ∧
    ([] = x0.2)))))))) ∧
    (∀ x1 : Nat × List Int, (((Prod.fst x1 ≤ List.length w) ∧
    ((Go.Sx.braidB s w = Bool.true) ∧
    ((List.length (Go.Sx.redN w (Prod.fst x1)) ≤ List.length (Prod.snd x1)) ∧
    (List.take (List.length (Go.Sx.redN w (Prod.fst x1))) (Prod.snd x1) = Go.Sx.redN w (Prod.fst x1))))) →
    (BrP (Decidable.decide ((↑x1.1 : Int) < (↑(List.length w) : Int)))
      (BrP (Decidable.decide ((0 : Int) < (↑(List.length (Go.Sx.redN w x1.1)) : Int)))
        ((Go.Sx.InR ((↑(List.length (Go.Sx.redN w x1.1)) : Int) - (1 : Int))) ∧
        ((Go.Sx.inB ((↑(List.length (Go.Sx.redN w x1.1)) : Int) - (1 : Int)) (List.length (Go.Sx.redN w x1.1))) ∧
        ((Go.Sx.inB (↑x1.1 : Int) (List.length w)) ∧
        ((Go.Sx.InR (-List.getD w (Int.toNat (↑x1.1 : Int)) (0 : Int))) ∧
        (BrP (List.getD x1.2 (Int.toNat ((↑(List.length (Go.Sx.redN w x1.1)) : Int) - (1 : Int))) (0 : Int) == -List.getD w (Int.toNat (↑x1.1 : Int)) (0 : Int))
          ((Go.Sx.InR ((↑(List.length (Go.Sx.redN w x1.1)) : Int) - (1 : Int))) ∧
          ((Go.Sx.bdsOk (List.length (Go.Sx.redN w x1.1)) Option.none (Option.some ((↑(List.length (Go.Sx.redN w x1.1)) : Int) - (1 : Int)))) ∧
          ((Go.Sx.InR ((↑x1.1 : Int) + (1 : Int))) ∧
          (∃ x2 : Nat × List Int, (((Prod.fst x2 ≤ List.length w) ∧
          ((Go.Sx.braidB s w = Bool.true) ∧
          ((List.length (Go.Sx.redN w (Prod.fst x2)) ≤ List.length (Prod.snd x2)) ∧
          (List.take (List.length (Go.Sx.redN w (Prod.fst x2))) (Prod.snd x2) = Go.Sx.redN w (Prod.fst x2))))) ∧
          ((List.length w - Prod.fst x2 < List.length w - Prod.fst x1) ∧
          ((Int.toNat ((↑(List.length (Go.Sx.redN w x1.1)) : Int) - (1 : Int)) = List.length (Go.Sx.redN w x2.1)) ∧
          (((↑x1.1 : Int) + (1 : Int) = (↑x2.1 : Int)) ∧
          ((s = s) ∧
          ((w = w) ∧
          (((0 : Int) = (0 : Int)) ∧
          (x1.2 = x2.2))))))))))))
          ((Go.Sx.inB (↑x1.1 : Int) (List.length w)) ∧
          ((Go.Sx.room (List.length (Go.Sx.redN w x1.1) + List.length [List.getD w (Int.toNat (↑x1.1 : Int)) (0 : Int)])) ∧
          ((Go.Sx.InR ((↑x1.1 : Int) + (1 : Int))) ∧
          (∃ x3 : Nat × List Int, (((Prod.fst x3 ≤ List.length w) ∧
          ((Go.Sx.braidB s w = Bool.true) ∧
          ((List.length (Go.Sx.redN w (Prod.fst x3)) ≤ List.length (Prod.snd x3)) ∧
          (List.take (List.length (Go.Sx.redN w (Prod.fst x3))) (Prod.snd x3) = Go.Sx.redN w (Prod.fst x3))))) ∧
          ((List.length w - Prod.fst x3 < List.length w - Prod.fst x1) ∧
          ((List.length (List.take (List.length (Go.Sx.redN w x1.1)) x1.2 ++ [List.getD w (Int.toNat (↑x1.1 : Int)) (0 : Int)]) = List.length (Go.Sx.redN w x3.1)) ∧
          (((↑x1.1 : Int) + (1 : Int) = (↑x3.1 : Int)) ∧
          ((s = s) ∧
          ((w = w) ∧
          (((0 : Int) = (0 : Int)) ∧
          (List.take (List.length (Go.Sx.redN w x1.1)) x1.2 ++ [List.getD w (Int.toNat (↑x1.1 : Int)) (0 : Int)] = x3.2)))))))))))))))))
        ((Go.Sx.inB (↑x1.1 : Int) (List.length w)) ∧
        ((Go.Sx.room (List.length (Go.Sx.redN w x1.1) + List.length [List.getD w (Int.toNat (↑x1.1 : Int)) (0 : Int)])) ∧
        ((Go.Sx.InR ((↑x1.1 : Int) + (1 : Int))) ∧
        (∃ x4 : Nat × List Int, (((Prod.fst x4 ≤ List.length w) ∧
        ((Go.Sx.braidB s w = Bool.true) ∧
        ((List.length (Go.Sx.redN w (Prod.fst x4)) ≤ List.length (Prod.snd x4)) ∧
        (List.take (List.length (Go.Sx.redN w (Prod.fst x4))) (Prod.snd x4) = Go.Sx.redN w (Prod.fst x4))))) ∧
        ((List.length w - Prod.fst x4 < List.length w - Prod.fst x1) ∧
        ((List.length (List.take (List.length (Go.Sx.redN w x1.1)) x1.2 ++ [List.getD w (Int.toNat (↑x1.1 : Int)) (0 : Int)]) = List.length (Go.Sx.redN w x4.1)) ∧
        (((↑x1.1 : Int) + (1 : Int) = (↑x4.1 : Int)) ∧
        ((s = s) ∧
        ((w = w) ∧
        (((0 : Int) = (0 : Int)) ∧
        (List.take (List.length (Go.Sx.redN w x1.1)) x1.2 ++ [List.getD w (Int.toNat (↑x1.1 : Int)) (0 : Int)] = x4.2)))))))))))))
      (((Go.Sx.room (List.length (List.take (List.length (Go.Sx.redN w x1.1)) (List.drop (0 : Nat) x1.2)))) ∧
      (True)) ∧
      ((((s = Prod.fst (Prod.fst (Go.Sx.redC s w))) ∧
      ((List.take (List.length (Go.Sx.redN w x1.1)) (List.drop (0 : Nat) x1.2) = Prod.snd (Prod.fst (Go.Sx.redC s w))) ∧
      (True))) ∧
      (((0 : Int) = Prod.snd (Go.Sx.redC s w)) ∧
      (True))) ∧
      (True)))))))))
theorem sReduceBraid_vc (s : Int) (w : List Int) : runF Try.prog (gam sReduceBraid_G) noWr (sReduceBraid_ann s w) Try.f41 (bodyOf Try.f41) [] [.agg [.int .i64 (s), .ints .i64 (w)]] (sReduceBraid_p s w) = sReduceBraid_V s w := by kernel_rfl
theorem sReduceBraid_ok (s : Int) (w : List Int) (hpre : (sReduceBraid_p s w).pre) : sReduceBraid_V s w := by
  simp only [sReduceBraid_p, sReduceBraid_V, BrP_iff, true_and, and_true, decide_eq_true_eq, decide_eq_false_iff_not, bne_iff_ne, beq_iff_eq, bne_eq_false_iff_eq, beq_eq_false_iff_ne, Bool.not_eq_true, Bool.not_eq_false, Bool.not_true, Bool.not_false, Bool.not_eq_eq_eq_not, Int.toNat_natCast, List.length_append, List.length_take, List.length_replicate, List.length_set, List.length_map, List.length_drop, List.length_nil, List.length_cons, markL_length, inB, InR, room, bdsOk] at hpre ⊢
  refine ⟨hpre, fun h => by simp [redC, h], fun hb => ⟨⟨(0, []), ⟨by simp, hb, by simp [redN], by simp [redN]⟩, rfl, rfl, rfl⟩, ?_⟩⟩
  have h30 := braidB_len hb
  rintro ⟨i, l⟩ ⟨g1, _, g2, g3⟩
  simp only [] at g1 g2 g3 ⊢
  have hlen := redN_len w i
  have hs := braidB_s hb
  refine ⟨fun h => ?_, fun h => ?_⟩
  · have hg := braidB_get hb i (by omega)
    have push : ((redN w i).length = 0 ∨ l.getD ((redN w i).length - 1) 0 ≠ -w.getD i 0) → ∃ x3 : Nat × List Int, (x3.1 ≤ w.length ∧ braidB s w = true ∧ (redN w x3.1).length ≤ x3.2.length ∧ x3.2.take (redN w x3.1).length = redN w x3.1) ∧
        w.length - x3.1 < w.length - i ∧ min (redN w i).length l.length + (0 + 1) = (redN w x3.1).length ∧ (i : Int) + 1 = (x3.1 : Int) ∧ l.take (redN w i).length ++ [w.getD i 0] = x3.2 := fun hc => by
      have := redS_push g2 g3 hc
      refine ⟨(i + 1, l.take (redN w i).length ++ [w.getD i 0]), ⟨by simp only []; omega, hb, ?_, ?_⟩, by simp only []; omega, ?_, by simp only []; omega, rfl⟩
      · simp only [redN, this]; exact Nat.le_refl _
      · simp only [redN, this, List.take_length]
      · simp only [redN, this, List.length_append, List.length_take, List.length_cons, List.length_nil]
    refine ⟨fun h1 => ⟨by omega, by omega, by omega, by omega, fun h2 => ⟨by omega, by omega, by omega, ?_⟩, fun h2 => ⟨by omega, by omega, by omega, push ?_⟩⟩, fun h1 => ⟨by omega, by omega, by omega, push ?_⟩⟩
    · rw [show (((redN w i).length : Int) - 1).toNat = (redN w i).length - 1 by omega] at h2 ⊢
      have := redS_pop g2 g3 (by omega) h2
      exact ⟨(i + 1, l), ⟨by simp only []; omega, hb, by simp only [redN]; omega, by simp only [redN]; exact this.2⟩, by simp only []; omega, by simp only [redN]; omega, by simp only []; omega, rfl⟩
    · rw [show (((redN w i).length : Int) - 1).toNat = (redN w i).length - 1 by omega] at h2
      exact .inr h2
    · exact .inl (by omega)
  · rw [List.drop_zero, g3, show i = w.length by omega]
    have := redN_len w w.length
    exact ⟨by omega, by simp [redC, hb]⟩
theorem sReduceBraid_fits : Fits Try.prog 41 ⟨[], sReduceBraid_ct⟩ := by
  refine fits_fn (Γ := gam sReduceBraid_G) (gok_cons l16Is_fits (gok_cons l01Own_fits gok_nil)) Try.func41 (by kernel_rfl) (by kernel_rfl) (by kernel_rfl) fun ds p h hp => ?_
  unfold sReduceBraid_ct at h
  split at h
  · cases h
    exact ⟨noWr, sReduceBraid_ann _ _ , by rw [sReduceBraid_vc]; exact sReduceBraid_ok _ _  hp⟩
  · cases h

def iReduceBraid_p (s : Int) (w : List Int) : Post := ⟨room w.length, .tup [.inr [.int .i64 ((redC s w).1.1), .ints 2 .i64 ((redC s w).1.2)], .inl (.int .i64 ((redC s w).2))], []⟩
def iReduceBraid_ct : List AD → Option Post
  | [.agg [.int .i64 (s), .ints .i64 (w)]] => some (iReduceBraid_p s w)
  | _ => none
def iReduceBraid_ann (s : Int) (w : List Int) : Nat → Option Ann
  | 0 => some (Ann.mk ((Nat) × (List Int)) (fun x => match x with | (i, l) => ⟨[(2, .c (.ptr 2 0)), (4, .c (.ptr 4 0)), (16, .c (.ro (.ints .i64 (w)))), (17, .c (.int .i64 ((w.length : Int)))), (18, .c (.int .i64 ((i : Int))))], [(2, some (.box [.int .i64 (0), .nil])), (4, some (.box [.int .i64 (s), .pre 10 ((redN w i).length)])), (10, some (.ints 2 .i64 (l)))]⟩) (fun x => match x with | (i, l) => i ≤ w.length ∧ braidB s w = true ∧ (redN w i).length ≤ l.length ∧ l.take (redN w i).length = redN w i) (fun x => match x with | (i, l) => w.length - i) (fun _ => noAnn))
  | _ => none
def iReduceBraid_G : List (Nat × Ctr) := [(25, ⟨[], iIsBraid_ct⟩)]
def iReduceBraid_V (s : Int) (w : List Int) : Prop :=
  (((Go.Sx.room (List.length w)) ∧
  (True)) ∧
  (BrP (!Go.Sx.braidB s w)
    (((((0 : Int) = Prod.fst (Prod.fst (Go.Sx.redC s w))) ∧
    (([] = Prod.snd (Prod.fst (Go.Sx.redC s w))) ∧
    (True))) ∧
    (((1 : Int) = Prod.snd (Go.Sx.redC s w)) ∧
    (True))) ∧
    (True))
    ((∃ x0 : Nat × List Int, (((Prod.fst x0 ≤ List.length w) ∧
    ((Go.Sx.braidB s w = Bool.true) ∧
    ((List.length (Go.Sx.redN w (Prod.fst x0)) ≤ List.length (Prod.snd x0)) ∧
    (List.take (List.length (Go.Sx.redN w (Prod.fst x0))) (Prod.snd x0) = Go.Sx.redN w (Prod.fst x0))))) ∧
    ((w = w) ∧
    (((↑(List.length w) : Int) = (↑(List.length w) : Int)) ∧
    (((0 : Int) = (↑x0.1 : Int)) ∧
    (((0 : Int) = (0 : Int)) ∧
    ((s = s) ∧
    ((List.length (Go.Sx.redN w x0.1) = (0 : Nat)) ∧
    (x0.2 = []))))))))) ∧
    (∀ x1 : Nat × List Int, (((Prod.fst x1 ≤ List.length w) ∧
    ((Go.Sx.braidB s w = Bool.true) ∧
    ((List.length (Go.Sx.redN w (Prod.fst x1)) ≤ List.length (Prod.snd x1)) ∧
    (List.take (List.length (Go.Sx.redN w (Prod.fst x1))) (Prod.snd x1) = Go.Sx.redN w (Prod.fst x1))))) →
    (BrP (Decidable.decide ((↑x1.1 : Int) < (↑(List.length w) : Int)))
      ((Go.Sx.inB (↑x1.1 : Int) (List.length w)) ∧
      ((Go.Sx.InR ((↑(List.length (Go.Sx.redN w x1.1)) : Int) - (1 : Int))) ∧
      (BrP (Decidable.decide ((0 : Int) ≤ (↑(List.length (Go.Sx.redN w x1.1)) : Int) - (1 : Int)))
        ((Go.Sx.inB ((↑(List.length (Go.Sx.redN w x1.1)) : Int) - (1 : Int)) (List.length (Go.Sx.redN w x1.1))) ∧
        ((Go.Sx.InR (-List.getD w (Int.toNat (↑x1.1 : Int)) (0 : Int))) ∧
        (BrP (List.getD x1.2 (Int.toNat ((↑(List.length (Go.Sx.redN w x1.1)) : Int) - (1 : Int))) (0 : Int) == -List.getD w (Int.toNat (↑x1.1 : Int)) (0 : Int))
          ((Go.Sx.bdsOk (List.length (Go.Sx.redN w x1.1)) Option.none (Option.some ((↑(List.length (Go.Sx.redN w x1.1)) : Int) - (1 : Int)))) ∧
          ((Go.Sx.InR ((↑x1.1 : Int) + (1 : Int))) ∧
          (∃ x2 : Nat × List Int, (((Prod.fst x2 ≤ List.length w) ∧
          ((Go.Sx.braidB s w = Bool.true) ∧
          ((List.length (Go.Sx.redN w (Prod.fst x2)) ≤ List.length (Prod.snd x2)) ∧
          (List.take (List.length (Go.Sx.redN w (Prod.fst x2))) (Prod.snd x2) = Go.Sx.redN w (Prod.fst x2))))) ∧
          ((List.length w - Prod.fst x2 < List.length w - Prod.fst x1) ∧
          ((w = w) ∧
          (((↑(List.length w) : Int) = (↑(List.length w) : Int)) ∧
          (((↑x1.1 : Int) + (1 : Int) = (↑x2.1 : Int)) ∧
          (((0 : Int) = (0 : Int)) ∧
          ((s = s) ∧
          ((Int.toNat ((↑(List.length (Go.Sx.redN w x1.1)) : Int) - (1 : Int)) = List.length (Go.Sx.redN w x2.1)) ∧
          (x1.2 = x2.2))))))))))))
          ((Go.Sx.room (List.length (Go.Sx.redN w x1.1) + List.length [List.getD w (Int.toNat (↑x1.1 : Int)) (0 : Int)])) ∧
          ((Go.Sx.InR ((↑x1.1 : Int) + (1 : Int))) ∧
          (∃ x3 : Nat × List Int, (((Prod.fst x3 ≤ List.length w) ∧
          ((Go.Sx.braidB s w = Bool.true) ∧
          ((List.length (Go.Sx.redN w (Prod.fst x3)) ≤ List.length (Prod.snd x3)) ∧
          (List.take (List.length (Go.Sx.redN w (Prod.fst x3))) (Prod.snd x3) = Go.Sx.redN w (Prod.fst x3))))) ∧
          ((List.length w - Prod.fst x3 < List.length w - Prod.fst x1) ∧
          ((w = w) ∧
          (((↑(List.length w) : Int) = (↑(List.length w) : Int)) ∧
          (((↑x1.1 : Int) + (1 : Int) = (↑x3.1 : Int)) ∧
          (((0 : Int) = (0 : Int)) ∧
          ((s = s) ∧
          ((List.length (List.take (List.length (Go.Sx.redN w x1.1)) x1.2 ++ [List.getD w (Int.toNat (↑x1.1 : Int)) (0 : Int)]) = List.length (Go.Sx.redN w x3.1)) ∧
          (List.take (List.length (Go.Sx.redN w x1.1)) x1.2 ++ [List.getD w (Int.toNat (↑x1.1 : Int)) (0 : Int)] = x3.2)))))))))))))))
        ((Go.Sx.room (List.length (Go.Sx.redN w x1.1) + List.length [List.getD w (Int.toNat (↑x1.1 : Int)) (0 : Int)])) ∧
        ((Go.Sx.InR ((↑x1.1 : Int) + (1 : Int))) ∧
        (∃ x4 : Nat × List Int, (((Prod.fst x4 ≤ List.length w) ∧
        ((Go.Sx.braidB s w = Bool.true) ∧
        ((List.length (Go.Sx.redN w (Prod.fst x4)) ≤ List.length (Prod.snd x4)) ∧
        (List.take (List.length (Go.Sx.redN w (Prod.fst x4))) (Prod.snd x4) = Go.Sx.redN w (Prod.fst x4))))) ∧
        ((List.length w - Prod.fst x4 < List.length w - Prod.fst x1) ∧
        ((w = w) ∧
        (((↑(List.length w) : Int) = (↑(List.length w) : Int)) ∧
        (((↑x1.1 : Int) + (1 : Int) = (↑x4.1 : Int)) ∧
        (((0 : Int) = (0 : Int)) ∧
        ((s = s) ∧
        ((List.length (List.take (List.length (Go.Sx.redN w x1.1)) x1.2 ++ [List.getD w (Int.toNat (↑x1.1 : Int)) (0 : Int)]) = List.length (Go.Sx.redN w x4.1)) ∧
        (List.take (List.length (Go.Sx.redN w x1.1)) x1.2 ++ [List.getD w (Int.toNat (↑x1.1 : Int)) (0 : Int)] = x4.2)))))))))))))))
      ((((s = Prod.fst (Prod.fst (Go.Sx.redC s w))) ∧
      ((List.take (List.length (Go.Sx.redN w x1.1)) x1.2 = Prod.snd (Prod.fst (Go.Sx.redC s w))) ∧
      (True))) ∧
      (((0 : Int) = Prod.snd (Go.Sx.redC s w)) ∧
      (True))) ∧
      (True))))))))
theorem iReduceBraid_vc (s : Int) (w : List Int) : runF Try.prog (gam iReduceBraid_G) noWr (iReduceBraid_ann s w) Try.f42 (bodyOf Try.f42) [] [.agg [.int .i64 (s), .ints .i64 (w)]] (iReduceBraid_p s w) = iReduceBraid_V s w := by kernel_rfl
theorem iReduceBraid_ok (s : Int) (w : List Int) (hpre : (iReduceBraid_p s w).pre) : iReduceBraid_V s w := by
  simp only [iReduceBraid_p, iReduceBraid_V, BrP_iff, true_and, and_true, decide_eq_true_eq, decide_eq_false_iff_not, bne_iff_ne, beq_iff_eq, bne_eq_false_iff_eq, beq_eq_false_iff_ne, Bool.not_eq_true, Bool.not_eq_false, Bool.not_true, Bool.not_false, Bool.not_eq_eq_eq_not, Int.toNat_natCast, List.length_append, List.length_take, List.length_replicate, List.length_set, List.length_map, List.length_drop, List.length_nil, List.length_cons, markL_length, inB, InR, room, bdsOk] at hpre ⊢
  refine ⟨hpre, fun h => by simp [redC, h], fun hb => ⟨⟨(0, []), ⟨by simp, hb, by simp [redN], by simp [redN]⟩, rfl, rfl, rfl⟩, ?_⟩⟩
  have h30 := braidB_len hb
  rintro ⟨i, l⟩ ⟨g1, _, g2, g3⟩
  simp only [] at g1 g2 g3 ⊢
  have hlen := redN_len w i
  have hs := braidB_s hb
  refine ⟨fun h => ?_, fun h => ?_⟩
  · have hg := braidB_get hb i (by omega)
    have push : ((redN w i).length = 0 ∨ l.getD ((redN w i).length - 1) 0 ≠ -w.getD i 0) → ∃ x3 : Nat × List Int, (x3.1 ≤ w.length ∧ braidB s w = true ∧ (redN w x3.1).length ≤ x3.2.length ∧ x3.2.take (redN w x3.1).length = redN w x3.1) ∧
        w.length - x3.1 < w.length - i ∧ (i : Int) + 1 = (x3.1 : Int) ∧ min (redN w i).length l.length + (0 + 1) = (redN w x3.1).length ∧ l.take (redN w i).length ++ [w.getD i 0] = x3.2 := fun hc => by
      have := redS_push g2 g3 hc
      refine ⟨(i + 1, l.take (redN w i).length ++ [w.getD i 0]), ⟨by simp only []; omega, hb, ?_, ?_⟩, by simp only []; omega, by simp only []; omega, ?_, rfl⟩
      · simp only [redN, this]; exact Nat.le_refl _
      · simp only [redN, this, List.take_length]
      · simp only [redN, this, List.length_append, List.length_take, List.length_cons, List.length_nil]
    refine ⟨by omega, by omega, fun h1 => ⟨by omega, by omega, fun h2 => ⟨by omega, by omega, ?_⟩, fun h2 => ⟨by omega, by omega, push ?_⟩⟩, fun h1 => ⟨by omega, by omega, push ?_⟩⟩
    · rw [show (((redN w i).length : Int) - 1).toNat = (redN w i).length - 1 by omega] at h2 ⊢
      have := redS_pop g2 g3 (by omega) h2
      exact ⟨(i + 1, l), ⟨by simp only []; omega, hb, by simp only [redN]; omega, by simp only [redN]; exact this.2⟩, by simp only []; omega, by simp only []; omega, by simp only [redN]; omega, rfl⟩
    · rw [show (((redN w i).length : Int) - 1).toNat = (redN w i).length - 1 by omega] at h2
      exact .inr h2
    · exact .inl (by omega)
  · rw [g3, show i = w.length by omega]
    simp [redC, hb]
theorem iReduceBraid_fits : Fits Try.prog 42 ⟨[], iReduceBraid_ct⟩ := by
  refine fits_fn (Γ := gam iReduceBraid_G) (gok_cons iIsBraid_fits gok_nil) Try.func42 (by kernel_rfl) (by kernel_rfl) (by kernel_rfl) fun ds p h hp => ?_
  unfold iReduceBraid_ct at h
  split at h
  · cases h
    exact ⟨noWr, iReduceBraid_ann _ _ , by rw [iReduceBraid_vc]; exact iReduceBraid_ok _ _  hp⟩
  · cases h

def lReduceBraid_p (s : Int) (w : List Int) : Post := ⟨(w.length : Int) ≤ 9223372036854775807, .c (.bool (true)), []⟩
def lReduceBraid_ct : List AD → Option Post
  | [.agg [.int .i64 (s), .ints .i64 (w)]] => some (lReduceBraid_p s w)
  | _ => none
def lReduceBraid_G : List (Nat × Ctr) := [(22, ⟨[], szBraid_ct⟩), (24, ⟨[], toBraid_ct⟩), (26, ⟨[], eqBraid_ct⟩), (35, ⟨[(0, 1)], markBraid_ct⟩), (36, ⟨[], heldBraid_ct⟩), (41, ⟨[], sReduceBraid_ct⟩), (42, ⟨[], iReduceBraid_ct⟩)]
def lReduceBraid_V (s : Int) (w : List Int) : Prop :=
  (((((↑(List.length w) : Int) ≤ (9223372036854775807 : Int)) ∧
  (((0 : Int) ≤ (1048576 : Int)) ∧
  ((1048576 : Int) ≤ (1099511627776 : Int)))) ∧
  (True)) ∧
  (BrP (Decidable.decide ((if (1048576 : Int) < (↑(List.length w) : Int) then (-1 : Int) else (1048576 : Int) - (↑(List.length w) : Int)) < (0 : Int)))
    ((Bool.true = Bool.true) ∧
    (True))
    (((Go.Sx.room (List.length w)) ∧
    (True)) ∧
    (((Go.Sx.room (List.length w)) ∧
    (True)) ∧
    (((Go.Sx.room (List.length w)) ∧
    (True)) ∧
    (((Go.Sx.room (List.length w)) ∧
    (True)) ∧
    (((Go.Sx.room (List.length (Prod.snd (Prod.fst (Go.Sx.redC s w))))) ∧
    (True)) ∧
    (BrP (!Decidable.decide (Prod.fst (Prod.fst (Go.Sx.redC s w)) = Prod.fst (Prod.fst (Go.Sx.redC s w)) ∧ Prod.snd (Prod.fst (Go.Sx.redC s w)) = Prod.snd (Prod.fst (Go.Sx.redC s w))))
      ((Bool.false = Bool.true) ∧
      (True))
      (BrP (Prod.snd (Go.Sx.redC s w) != Prod.snd (Go.Sx.redC s w))
        ((Bool.false = Bool.true) ∧
        (True))
        (((Go.Sx.room (List.length w)) ∧
        (True)) ∧
        (((Go.Sx.room (List.length w)) ∧
        (True)) ∧
        (BrP (!Decidable.decide (s = s ∧ w = w))
          ((Bool.false = Bool.true) ∧
          (True))
          ((((Go.Sx.room (List.length w)) ∧
          (((0 : Int) ≤ (1 : Int)) ∧
          ((1 : Int) ≤ (1099511627776 : Int)))) ∧
          ((List.length (Go.Sx.markL (1 : Int) (List.length w)) = List.length w) ∧
          (True))) ∧
          (BrP (Decidable.decide ((1 : Int) + (↑(List.length w) : Int) < (0 : Int)))
            ((Bool.false = Bool.true) ∧
            (True))
            (((Go.Sx.room (List.length (Prod.snd (Prod.fst (Go.Sx.redC s w))))) ∧
            (True)) ∧
            (BrP (!Decidable.decide (Prod.fst (Prod.fst (Go.Sx.redC s w)) = Prod.fst (Prod.fst (Go.Sx.redC s w)) ∧ Prod.snd (Prod.fst (Go.Sx.redC s w)) = Prod.snd (Prod.fst (Go.Sx.redC s w))))
              ((Bool.false = Bool.true) ∧
              (True))
              (BrP (Prod.snd (Go.Sx.redC s w) != Prod.snd (Go.Sx.redC s w))
                ((Bool.false = Bool.true) ∧
                (True))
                ((((Go.Sx.room (List.length (Prod.snd (Prod.fst (Go.Sx.redC s w))))) ∧
                (((0 : Int) ≤ (1 : Int)) ∧
                ((1 : Int) ≤ (1099511627776 : Int)))) ∧
                ((List.length (Go.Sx.markL (1 : Int) (List.length (Prod.snd (Prod.fst (Go.Sx.redC s w))))) = List.length (Prod.snd (Prod.fst (Go.Sx.redC s w)))) ∧
                (True))) ∧
                ((((Go.Sx.room (List.length (Go.Sx.markL (1 : Int) (List.length (Prod.snd (Prod.fst (Go.Sx.redC s w))))))) ∧
                (((0 : Int) ≤ (1 : Int)) ∧
                ((1 : Int) ≤ (1099511627776 : Int)))) ∧
                (True)) ∧
                (BrP (Decidable.decide ((if Go.Sx.markL (1 : Int) (List.length (Prod.snd (Prod.fst (Go.Sx.redC s w)))) = Go.Sx.markL (1 : Int) (List.length (Go.Sx.markL (1 : Int) (List.length (Prod.snd (Prod.fst (Go.Sx.redC s w)))))) then (1 : Int) + (↑(List.length (Go.Sx.markL (1 : Int) (List.length (Prod.snd (Prod.fst (Go.Sx.redC s w)))))) : Int) else (-1 : Int)) < (0 : Int)))
                  ((Bool.false = Bool.true) ∧
                  (True))
                  (BrP ((if Go.Sx.markL (1 : Int) (List.length (Prod.snd (Prod.fst (Go.Sx.redC s w)))) = Go.Sx.markL (1 : Int) (List.length (Go.Sx.markL (1 : Int) (List.length (Prod.snd (Prod.fst (Go.Sx.redC s w)))))) then (1 : Int) + (↑(List.length (Go.Sx.markL (1 : Int) (List.length (Prod.snd (Prod.fst (Go.Sx.redC s w)))))) : Int) else (-1 : Int)) != (1 : Int) + (↑(List.length (Prod.snd (Prod.fst (Go.Sx.redC s w)))) : Int))
                    ((Bool.false = Bool.true) ∧
                    (True))
                    (((Go.Sx.room (List.length w)) ∧
                    (True)) ∧
                    (((Go.Sx.room (List.length w)) ∧
                    (True)) ∧
                    (((Go.Sx.room (List.length (Prod.snd (Prod.fst (Go.Sx.redC s w))))) ∧
                    (True)) ∧
                    (BrP (!Decidable.decide (Prod.fst (Prod.fst (Go.Sx.redC s w)) = Prod.fst (Prod.fst (Go.Sx.redC s w)) ∧ Prod.snd (Prod.fst (Go.Sx.redC s w)) = Prod.snd (Prod.fst (Go.Sx.redC s w))))
                      ((Bool.false = Bool.true) ∧
                      (True))
                      (BrP (Prod.snd (Go.Sx.redC s w) != Prod.snd (Go.Sx.redC s w))
                        ((Bool.false = Bool.true) ∧
                        (True))
                        ((((Go.Sx.room (List.length (Go.Sx.markL (1 : Int) (List.length (Prod.snd (Prod.fst (Go.Sx.redC s w))))))) ∧
                        (((0 : Int) ≤ (1 : Int)) ∧
                        ((1 : Int) ≤ (1099511627776 : Int)))) ∧
                        (True)) ∧
                        (BrP (Decidable.decide ((if Go.Sx.markL (1 : Int) (List.length (Prod.snd (Prod.fst (Go.Sx.redC s w)))) = Go.Sx.markL (1 : Int) (List.length (Go.Sx.markL (1 : Int) (List.length (Prod.snd (Prod.fst (Go.Sx.redC s w)))))) then (1 : Int) + (↑(List.length (Go.Sx.markL (1 : Int) (List.length (Prod.snd (Prod.fst (Go.Sx.redC s w)))))) : Int) else (-1 : Int)) < (0 : Int)))
                          ((Bool.false = Bool.true) ∧
                          (True))
                          (BrP ((if Go.Sx.markL (1 : Int) (List.length (Prod.snd (Prod.fst (Go.Sx.redC s w)))) = Go.Sx.markL (1 : Int) (List.length (Go.Sx.markL (1 : Int) (List.length (Prod.snd (Prod.fst (Go.Sx.redC s w)))))) then (1 : Int) + (↑(List.length (Go.Sx.markL (1 : Int) (List.length (Prod.snd (Prod.fst (Go.Sx.redC s w)))))) : Int) else (-1 : Int)) != (1 : Int) + (↑(List.length (Prod.snd (Prod.fst (Go.Sx.redC s w)))) : Int))
                            ((Bool.false = Bool.true) ∧
                            (True))
                            ((Bool.true = Bool.true) ∧
                            (True)))))))))))))))))))))))))))))))
theorem lReduceBraid_vc (s : Int) (w : List Int) : runF Try.prog (gam lReduceBraid_G) noWr noAnn Try.f10 (bodyOf Try.f10) [] [.agg [.int .i64 (s), .ints .i64 (w)]] (lReduceBraid_p s w) = lReduceBraid_V s w := by kernel_rfl
theorem lReduceBraid_ok (s : Int) (w : List Int) (hpre : (lReduceBraid_p s w).pre) : lReduceBraid_V s w := by
  simp only [lReduceBraid_p, lReduceBraid_V, BrP_iff, true_and, and_true, decide_eq_true_eq, decide_eq_false_iff_not, bne_iff_ne, beq_iff_eq, bne_eq_false_iff_eq, beq_eq_false_iff_ne, Bool.not_eq_true, Bool.not_eq_false, Bool.not_true, Bool.not_false, Bool.not_eq_eq_eq_not, Int.toNat_natCast, List.length_append, List.length_take, List.length_replicate, List.length_set, List.length_map, List.length_drop, List.length_nil, List.length_cons, markL_length, inB, InR, room, bdsOk] at hpre ⊢
  refine ⟨⟨hpre, by omega, by omega⟩, fun _ => trivial, fun h => ?_⟩
  have hw : w.length ≤ 1099511627776 := by split at h <;> omega
  have hl := redC_len s w
  have h1 : (redC s w).1.2.length ≤ 1099511627776 := by omega
  have h2 : ¬ (1 + ((redC s w).1.2.length : Int) < 0) := by omega
  have h3 : ¬ (1 + (w.length : Int) < 0) := by omega
  simp [hw, h1, h2, h3]
theorem lReduceBraid_fits : Fits Try.prog 10 ⟨[], lReduceBraid_ct⟩ := by
  refine fits_fn (Γ := gam lReduceBraid_G) (gok_cons szBraid_fits (gok_cons toBraid_fits (gok_cons eqBraid_fits (gok_cons markBraid_fits (gok_cons heldBraid_fits (gok_cons sReduceBraid_fits (gok_cons iReduceBraid_fits gok_nil))))))) Try.func10 (by kernel_rfl) (by kernel_rfl) (by kernel_rfl) fun ds p h hp => ?_
  unfold lReduceBraid_ct at h
  split at h
  · cases h
    exact ⟨noWr, noAnn, by rw [lReduceBraid_vc]; exact lReduceBraid_ok _ _  hp⟩
  · cases h

end Go.Sx

