/- Contracts on the way of LevelOfBrace. -/
import Derived.Test.YtaipacgkkjkjdaaSoc
open Go Go.Proofs
namespace Go.Sx
set_option linter.unusedSimpArgs false
set_option linter.unusedVariables false

def Equal_p (a : List Int) (b : List Int) : Post := ⟨a.length ≤ 9223372036854775807 ∧ b.length ≤ 9223372036854775807, .c (.bool (decide (a = b))), []⟩
def Equal_ct : List AD → Option Post
  | [.c (.ints .i64 (a)), .c (.ints .i64 (b))] => some (Equal_p a b)
  | _ => none
def Equal_ann (a : List Int) (b : List Int) : Nat → Option Ann
  | 0 => some (Ann.mk ((Nat)) (fun i => ⟨[(0, .c (.ro (.ints .i64 (a)))), (1, .c (.ro (.ints .i64 (b)))), (12, .c (.int .i64 ((a.length : Int)))), (13, .c (.int .i64 ((i : Int))))], []⟩) (fun i => i ≤ a.length ∧ a.length = b.length ∧ decide (a = b) = decide (a.drop i = b.drop i)) (fun i => a.length - i) (fun _ => noAnn))
  | _ => none
def Equal_G : List (Nat × Ctr) := []
def Equal_V (a : List Int) (b : List Int) : Prop :=
  (BrP ((↑(List.length a) : Int) != (↑(List.length b) : Int))
    ((Bool.false = Decidable.decide (a = b)) ∧
    (True))
    ((∃ x0 : Nat, (((x0 ≤ List.length a) ∧
    ((List.length a = List.length b) ∧
    (Decidable.decide (a = b) = Decidable.decide (List.drop x0 a = List.drop x0 b)))) ∧
    ((a = a) ∧
    ((b = b) ∧
    (((↑(List.length a) : Int) = (↑(List.length a) : Int)) ∧
    ((0 : Int) = (↑x0 : Int))))))) ∧
    (∀ x1 : Nat, (((x1 ≤ List.length a) ∧
    ((List.length a = List.length b) ∧
    (Decidable.decide (a = b) = Decidable.decide (List.drop x1 a = List.drop x1 b)))) →
    (BrP (Decidable.decide ((↑x1 : Int) < (↑(List.length a) : Int)))
      ((Go.Sx.inB (↑x1 : Int) (List.length a)) ∧
      ((Go.Sx.inB (↑x1 : Int) (List.length b)) ∧
      (BrP (List.getD a (Int.toNat (↑x1 : Int)) (0 : Int) != List.getD b (Int.toNat (↑x1 : Int)) (0 : Int))
        ((Bool.false = Decidable.decide (a = b)) ∧
        (True))
        ((Go.Sx.InR ((↑x1 : Int) + (1 : Int))) ∧
        (∃ x2 : Nat, (((x2 ≤ List.length a) ∧
        ((List.length a = List.length b) ∧
        (Decidable.decide (a = b) = Decidable.decide (List.drop x2 a = List.drop x2 b)))) ∧
        ((List.length a - x2 < List.length a - x1) ∧
        ((a = a) ∧
        ((b = b) ∧
        (((↑(List.length a) : Int) = (↑(List.length a) : Int)) ∧
        ((↑x1 : Int) + (1 : Int) = (↑x2 : Int))))))))))))
      ((Bool.true = Decidable.decide (a = b)) ∧
      (True)))))))
theorem Equal_vc (a : List Int) (b : List Int) : runF Try.prog (gam Equal_G) noWr (Equal_ann a b) Try.f88 (bodyOf Try.f88) [] [.c (.ints .i64 (a)), .c (.ints .i64 (b))] (Equal_p a b) = Equal_V a b := by kernel_rfl
theorem Equal_ok (a : List Int) (b : List Int) (hpre : (Equal_p a b).pre) : Equal_V a b := by
  simp only [Equal_p, Equal_V, BrP_iff, true_and, and_true, decide_eq_true_eq, decide_eq_false_iff_not, bne_iff_ne, beq_iff_eq, bne_eq_false_iff_eq, beq_eq_false_iff_ne, Bool.not_eq_true, Bool.not_eq_false, Bool.not_true, Bool.not_false, Bool.not_eq_eq_eq_not, Int.toNat_natCast, List.length_append, List.length_take, List.length_replicate, List.length_set, List.length_map, List.length_drop, List.length_nil, List.length_cons, markL_length, inB, InR, room, bdsOk] at hpre ⊢
  refine ⟨fun h => ?_, fun h => ⟨⟨0, ⟨by omega, by omega, rfl⟩, rfl⟩, fun i ⟨hi, hl, he⟩ => ⟨fun h2 => ?_, fun h2 => ?_⟩⟩⟩
  · exact (decide_eq_false fun e => h (by rw [e])).symm
  · have ea := drop_cons' a 0 i (by omega)
    have eb := drop_cons' b 0 i (by omega)
    refine ⟨by omega, by omega, fun h3 => ?_, fun h3 => ⟨by omega, i + 1, ⟨by omega, hl, ?_⟩, by omega, by omega⟩⟩
    · rw [he, ea, eb]
      exact (decide_eq_false fun e => h3 (by injection e)).symm
    · rw [he, ea, eb, h3]
      simp
  · rw [he, List.drop_eq_nil_of_le (by omega), List.drop_eq_nil_of_le (by omega)]; rfl
theorem Equal_fits : Fits Try.prog 88 ⟨[], Equal_ct⟩ := by
  refine fits_fn (Γ := gam Equal_G) gok_nil Try.func88 (by kernel_rfl) (by kernel_rfl) (by kernel_rfl) fun ds p h hp => ?_
  unfold Equal_ct at h
  split at h
  · cases h
    exact ⟨noWr, Equal_ann _ _ , by rw [Equal_vc]; exact Equal_ok _ _  hp⟩
  · cases h

def transposed1_p (x : Int) (y : Int) (t : List (List Int)) : Post := ⟨tabB t = true ∧ 0 ≤ x ∧ x < (t.length : Int) ∧ 0 ≤ y ∧ y < (t.length : Int), .c (.int .i64 (en t y.toNat x.toNat)), []⟩
def transposed1_ct : List AD → Option Post
  | [.c (.int .i64 (x)), .c (.int .i64 (y)), .box [.rows .i64 (t)]] => some (transposed1_p x y t)
  | _ => none
def transposed1_G : List (Nat × Ctr) := []
def transposed1_V (x : Int) (y : Int) (t : List (List Int)) : Prop :=
  ((Go.Sx.inB y (List.length t)) ∧
  ((Go.Sx.inB x (List.length (List.getD t (Int.toNat y) []))) ∧
  ((List.getD (List.getD t (Int.toNat y) []) (Int.toNat x) (0 : Int) = Go.Sx.en t (Int.toNat y) (Int.toNat x)) ∧
  (True))))
theorem transposed1_vc (x : Int) (y : Int) (t : List (List Int)) : runF Try.prog (gam transposed1_G) noWr noAnn Try.f117 (bodyOf Try.f117) [] [.c (.int .i64 (x)), .c (.int .i64 (y)), .box [.rows .i64 (t)]] (transposed1_p x y t) = transposed1_V x y t := by kernel_rfl
theorem transposed1_ok (x : Int) (y : Int) (t : List (List Int)) (hpre : (transposed1_p x y t).pre) : transposed1_V x y t := by
  simp only [transposed1_p, transposed1_V, BrP_iff, true_and, and_true, decide_eq_true_eq, decide_eq_false_iff_not, bne_iff_ne, beq_iff_eq, bne_eq_false_iff_eq, beq_eq_false_iff_ne, Bool.not_eq_true, Bool.not_eq_false, Bool.not_true, Bool.not_false, Bool.not_eq_eq_eq_not, Int.toNat_natCast, List.length_append, List.length_take, List.length_replicate, List.length_set, List.length_map, List.length_drop, List.length_nil, List.length_cons, markL_length, inB, InR, room, bdsOk] at hpre ⊢
  obtain ⟨h1, x1, x2, y1, y2⟩ := hpre
  obtain ⟨n1, n2, ht⟩ := tabB_of h1
  have r := ht y.toNat (by omega)
  exact ⟨by omega, by omega, rfl⟩
theorem transposed1_fits : Fits Try.prog 117 ⟨[], transposed1_ct⟩ := by
  refine fits_fn (Γ := gam transposed1_G) gok_nil Try.func117 (by kernel_rfl) (by kernel_rfl) (by kernel_rfl) fun ds p h hp => ?_
  unfold transposed1_ct at h
  split at h
  · cases h
    exact ⟨noWr, noAnn, by rw [transposed1_vc]; exact transposed1_ok _ _ _  hp⟩
  · cases h

def trT (t : List (List Int)) : List (List Int) := tabR t.length fun x y => en t y x

def transposed_p (t : List (List Int)) : Post := ⟨tabB t = true, .c (.rows 25 2 .i64 (trT t)), []⟩
def transposed_ct : List AD → Option Post
  | [.c (.rows .i64 (t))] => some (transposed_p t)
  | _ => none
def transposed_G : List (Nat × Ctr) := [(96, ⟨[], tableBy_ct⟩), (117, ⟨[], transposed1_ct⟩)]
def transposed_V (t : List (List Int)) : Prop :=
  (((((0 : Int) ≤ (↑(List.length t) : Int)) ∧
  (((↑(List.length t) : Int) ≤ (144 : Int)) ∧
  (∀ (x y : Int), (0 : Int) ≤ x → x < (↑(List.length t) : Int) → (0 : Int) ≤ y → y < (↑(List.length t) : Int) → Go.Sx.ctQI (Go.Sx.transposed1_ct [Go.Sx.AD.c (Go.Sx.FC.int Go.IntKind.i64 x), Go.Sx.AD.c (Go.Sx.FC.int Go.IntKind.i64 y), Go.Sx.AD.box [Go.Sx.FC.rows Go.IntKind.i64 t]])))) ∧
  (True)) ∧
  (((Go.Sx.tabR (Int.toNat (↑(List.length t) : Int)) fun (x y : Nat) => Go.Sx.ctI (Go.Sx.transposed1_ct [Go.Sx.AD.c (Go.Sx.FC.int Go.IntKind.i64 (↑x : Int)), Go.Sx.AD.c (Go.Sx.FC.int Go.IntKind.i64 (↑y : Int)), Go.Sx.AD.box [Go.Sx.FC.rows Go.IntKind.i64 t]])) = Go.Sx.trT t) ∧
  (True)))
theorem transposed_vc (t : List (List Int)) : runF Try.prog (gam transposed_G) noWr noAnn Try.f87 (bodyOf Try.f87) [] [.c (.rows .i64 (t))] (transposed_p t) = transposed_V t := by kernel_rfl
theorem transposed_ok (t : List (List Int)) (hpre : (transposed_p t).pre) : transposed_V t := by
  simp only [transposed_p, transposed_V, BrP_iff, true_and, and_true, decide_eq_true_eq, decide_eq_false_iff_not, bne_iff_ne, beq_iff_eq, bne_eq_false_iff_eq, beq_eq_false_iff_ne, Bool.not_eq_true, Bool.not_eq_false, Bool.not_true, Bool.not_false, Bool.not_eq_eq_eq_not, Int.toNat_natCast, List.length_append, List.length_take, List.length_replicate, List.length_set, List.length_map, List.length_drop, List.length_nil, List.length_cons, markL_length, inB, InR, room, bdsOk] at hpre ⊢
  obtain ⟨n1, n2, ht⟩ := tabB_of hpre
  exact ⟨⟨by omega, by omega, fun x y a1 a2 a3 a4 => ⟨hpre, a1, a2, a3, a4⟩⟩, tabR_ext fun x y hx hy => rfl⟩
theorem transposed_fits : Fits Try.prog 87 ⟨[], transposed_ct⟩ := by
  refine fits_fn (Γ := gam transposed_G) (gok_cons tableBy_fits (gok_cons transposed1_fits gok_nil)) Try.func87 (by kernel_rfl) (by kernel_rfl) (by kernel_rfl) fun ds p h hp => ?_
  unfold transposed_ct at h
  split at h
  · cases h
    exact ⟨noWr, noAnn, by rw [transposed_vc]; exact transposed_ok _  hp⟩
  · cases h

theorem list_ext0 {a b : List Int} (h : a.length = b.length) (k : ∀ i, i < a.length → a.getD i 0 = b.getD i 0) : a = b := by
  apply List.ext_getElem h
  intro i h1 h2
  have := k i h1
  rwa [getD_lt a 0 i h1, getD_lt b 0 i h2] at this

theorem soP_iff {a c : List (List Int)} (h1 : tabB a = true) (h2 : tabB c = true) (hl : c.length = a.length) {x : Nat} (hx : x < a.length) :
    soP a c x = true ↔ (a.getD x [] = c.getD x [] ∧ a.getD x [] = (trT a).getD x []) := by
  have ra := (tabB_of h1).2.2 x hx
  have rc := (tabB_of h2).2.2 x (by omega)
  have et : (trT a).getD x [] = tab a.length fun y => en a y x := tabR_getD _ _ _ hx
  rw [soP, List.all_eq_true]
  constructor
  · intro h
    have h : ∀ y, y < a.length → en c x y = en a x y ∧ en a x y = en a y x := fun y hy => by
      have := h y (by simpa using hy)
      rw [soQ, Bool.and_eq_true, decide_eq_true_eq, decide_eq_true_eq] at this
      exact this
    refine ⟨list_ext0 (by omega) fun i hi => (h i (by omega)).1.symm, ?_⟩
    rw [et]
    exact list_ext0 (by rw [tab_length]; omega) fun i hi => by rw [tab_getD _ _ _ (by omega)]; exact (h i (by omega)).2
  · rintro ⟨e1, e2⟩ y hy
    have hy : y < a.length := by simpa using hy
    rw [soQ, Bool.and_eq_true, decide_eq_true_eq, decide_eq_true_eq]
    refine ⟨by unfold en; rw [e1], ?_⟩
    rw [et] at e2
    show (a.getD x []).getD y 0 = _
    rw [e2, tab_getD _ _ _ hy]

theorem soM_yes {a c : List (List Int)} {i : Nat} (h : soP a c i = true) : soM a c i ||| 2 ^ i = soM a c (i + 1) := by
  unfold soM; simp only [mskN]; rw [if_pos h]
theorem soM_no {a c : List (List Int)} {i : Nat} (h : ¬ soP a c i = true) : soM a c i = soM a c (i + 1) := by
  unfold soM; simp only [mskN]; rw [if_neg h]
theorem soM_lt (a c : List (List Int)) {i n : Nat} (h : i ≤ n) (hn : n ≤ 12) : soM a c i < 4096 := by
  have := mskN_lt (soP a c) i
  have h2 := pow_12 (n := i) (by omega)
  unfold soM; omega

def socleOf_p (a : List (List Int)) (c : List (List Int)) : Post := ⟨tabB a = true ∧ tabB c = true ∧ c.length = a.length, .c (.int .i64 (soS a c)), []⟩
def socleOf_ct : List AD → Option Post
  | [.agg [.rows .i64 (a), .rows .i64 (c)]] => some (socleOf_p a c)
  | _ => none
def socleOf_ann (a : List (List Int)) (c : List (List Int)) : Nat → Option Ann
  | 0 => some (Ann.mk ((Nat)) (fun i => ⟨[(1, .c (.ptr 1 0)), (3, .c (.own (9))), (4, .c (.int .i64 (((soM a c i : Nat) : Int)))), (11, .c (.ro (.rows .i64 (a)))), (12, .c (.int .i64 ((a.length : Int)))), (13, .c (.int .i64 ((i : Int))))], [(1, some (.box [.ro (.rows .i64 (a)), .ro (.rows .i64 (c))])), (9, some (.rows 0 25 2 .i64 (trT a)))]⟩) (fun i => i ≤ a.length) (fun i => a.length - i) (fun _ => noAnn))
  | _ => none
def socleOf_G : List (Nat × Ctr) := [(87, ⟨[], transposed_ct⟩), (88, ⟨[], Equal_ct⟩)]
def socleOf_V (a : List (List Int)) (c : List (List Int)) : Prop :=
  (((Go.Sx.tabB a = Bool.true) ∧
  (True)) ∧
  ((∃ x0 : Nat, ((x0 ≤ List.length a) ∧
  (((0 : Int) = (↑(Go.Sx.soM a c x0) : Int)) ∧
  ((a = a) ∧
  (((↑(List.length a) : Int) = (↑(List.length a) : Int)) ∧
  (((0 : Int) = (↑x0 : Int)) ∧
  ((a = a) ∧
  ((c = c) ∧
  (Go.Sx.trT a = Go.Sx.trT a))))))))) ∧
  (∀ x1 : Nat, ((x1 ≤ List.length a) →
  (BrP (Decidable.decide ((↑x1 : Int) < (↑(List.length a) : Int)))
    ((Go.Sx.inB (↑x1 : Int) (List.length a)) ∧
    ((Go.Sx.inB (↑x1 : Int) (List.length c)) ∧
    ((((List.length (List.getD a (Int.toNat (↑x1 : Int)) []) ≤ (9223372036854775807 : Nat)) ∧
    (List.length (List.getD c (Int.toNat (↑x1 : Int)) []) ≤ (9223372036854775807 : Nat))) ∧
    (True)) ∧
    (BrP (Decidable.decide (List.getD a (Int.toNat (↑x1 : Int)) [] = List.getD c (Int.toNat (↑x1 : Int)) []))
      ((Go.Sx.inB (↑x1 : Int) (List.length (Go.Sx.trT a))) ∧
      ((((List.length (List.getD a (Int.toNat (↑x1 : Int)) []) ≤ (9223372036854775807 : Nat)) ∧
      (List.length (List.getD (Go.Sx.trT a) (Int.toNat (↑x1 : Int)) []) ≤ (9223372036854775807 : Nat))) ∧
      (True)) ∧
      (BrP (Decidable.decide (List.getD a (Int.toNat (↑x1 : Int)) [] = List.getD (Go.Sx.trT a) (Int.toNat (↑x1 : Int)) []))
        (((((0 : Int) ≤ (↑x1 : Int)) ∧
        ((↑x1 : Int) ≤ (62 : Int))) ∧
        (Go.Sx.InR ((1 : Int) * (2 : Int) ^ Int.toNat (↑x1 : Int)))) ∧
        (((Go.IntKind.i64 = Go.IntKind.i64) ∧
        ((((0 : Int) ≤ (↑(Go.Sx.soM a c x1) : Int)) ∧
        ((↑(Go.Sx.soM a c x1) : Int) ≤ (9223372036854775807 : Int))) ∧
        (((0 : Int) ≤ (1 : Int) * (2 : Int) ^ Int.toNat (↑x1 : Int)) ∧
        ((1 : Int) * (2 : Int) ^ Int.toNat (↑x1 : Int) ≤ (9223372036854775807 : Int))))) ∧
        ((Go.Sx.InR ((↑x1 : Int) + (1 : Int))) ∧
        (∃ x2 : Nat, ((x2 ≤ List.length a) ∧
        ((List.length a - x2 < List.length a - x1) ∧
        (((↑(Int.toNat (↑(Go.Sx.soM a c x1) : Int) ||| Int.toNat ((1 : Int) * (2 : Int) ^ Int.toNat (↑x1 : Int))) : Int) = (↑(Go.Sx.soM a c x2) : Int)) ∧
        ((a = a) ∧
        (((↑(List.length a) : Int) = (↑(List.length a) : Int)) ∧
        (((↑x1 : Int) + (1 : Int) = (↑x2 : Int)) ∧
        ((a = a) ∧
        ((c = c) ∧
        (Go.Sx.trT a = Go.Sx.trT a)))))))))))))
        ((Go.Sx.InR ((↑x1 : Int) + (1 : Int))) ∧
        (∃ x3 : Nat, ((x3 ≤ List.length a) ∧
        ((List.length a - x3 < List.length a - x1) ∧
        (((↑(Go.Sx.soM a c x1) : Int) = (↑(Go.Sx.soM a c x3) : Int)) ∧
        ((a = a) ∧
        (((↑(List.length a) : Int) = (↑(List.length a) : Int)) ∧
        (((↑x1 : Int) + (1 : Int) = (↑x3 : Int)) ∧
        ((a = a) ∧
        ((c = c) ∧
        (Go.Sx.trT a = Go.Sx.trT a))))))))))))))
      ((Go.Sx.InR ((↑x1 : Int) + (1 : Int))) ∧
      (∃ x4 : Nat, ((x4 ≤ List.length a) ∧
      ((List.length a - x4 < List.length a - x1) ∧
      (((↑(Go.Sx.soM a c x1) : Int) = (↑(Go.Sx.soM a c x4) : Int)) ∧
      ((a = a) ∧
      (((↑(List.length a) : Int) = (↑(List.length a) : Int)) ∧
      (((↑x1 : Int) + (1 : Int) = (↑x4 : Int)) ∧
      ((a = a) ∧
      ((c = c) ∧
      (Go.Sx.trT a = Go.Sx.trT a)))))))))))))))
    (((↑(Go.Sx.soM a c x1) : Int) = Go.Sx.soS a c) ∧
    (True)))))))
theorem socleOf_vc (a : List (List Int)) (c : List (List Int)) : runF Try.prog (gam socleOf_G) noWr (socleOf_ann a c) Try.f52 (bodyOf Try.f52) [] [.agg [.rows .i64 (a), .rows .i64 (c)]] (socleOf_p a c) = socleOf_V a c := by kernel_rfl
theorem socleOf_ok (a : List (List Int)) (c : List (List Int)) (hpre : (socleOf_p a c).pre) : socleOf_V a c := by
  simp only [socleOf_p, socleOf_V, BrP_iff, true_and, and_true, decide_eq_true_eq, decide_eq_false_iff_not, bne_iff_ne, beq_iff_eq, bne_eq_false_iff_eq, beq_eq_false_iff_ne, Bool.not_eq_true, Bool.not_eq_false, Bool.not_true, Bool.not_false, Bool.not_eq_eq_eq_not, Int.toNat_natCast, List.length_append, List.length_take, List.length_replicate, List.length_set, List.length_map, List.length_drop, List.length_nil, List.length_cons, markL_length, inB, InR, room, bdsOk] at hpre ⊢
  obtain ⟨h1, h2, hl⟩ := hpre
  obtain ⟨n1, n2, ha⟩ := tabB_of h1
  obtain ⟨_, _, hc⟩ := tabB_of h2
  have hT : (trT a).length = a.length := tabR_length _ _
  refine ⟨h1, ⟨0, by omega, rfl, rfl⟩, fun i hi => ⟨fun h => ?_, fun h => ?_⟩⟩
  · have hs := soP_iff h1 h2 hl (x := i) (by omega)
    have r1 := (ha i (by omega)).1
    have r2 := (hc i (by omega)).1
    have r3 : ((trT a).getD i []).length = a.length := by rw [trT, tabR_getD _ _ _ (by omega), tab_length]
    have ml := soM_lt a c (i := i) (n := a.length) (by omega) n2
    have p12 := pow_12 (n := i) (by omega)
    have pp := Int.natCast_nonneg (2 ^ i)
    have pn : (1 * (2 : Int) ^ i) = ((2 ^ i : Nat) : Int) := by rw [Int.one_mul, Int.natCast_pow]; rfl
    rw [pn]
    refine ⟨by omega, by omega, by omega, fun e1 => ⟨by omega, by omega, fun e2 => ?_, fun e2 => ?_⟩, fun e1 => ?_⟩
    · refine ⟨by omega, by omega, by omega, i + 1, by omega, by omega, ?_, by omega⟩
      rw [Int.toNat_natCast, soM_yes (hs.2 ⟨e1, e2⟩)]
    · exact ⟨by omega, i + 1, by omega, by omega, by rw [soM_no fun h => e2 (hs.1 h).2], by omega⟩
    · exact ⟨by omega, i + 1, by omega, by omega, by rw [soM_no fun h => e1 (hs.1 h).1], by omega⟩
  · rw [show i = a.length by omega]; rfl
theorem socleOf_fits : Fits Try.prog 52 ⟨[], socleOf_ct⟩ := by
  refine fits_fn (Γ := gam socleOf_G) (gok_cons transposed_fits (gok_cons Equal_fits gok_nil)) Try.func52 (by kernel_rfl) (by kernel_rfl) (by kernel_rfl) fun ds p h hp => ?_
  unfold socleOf_ct at h
  split at h
  · cases h
    exact ⟨noWr, socleOf_ann _ _ , by rw [socleOf_vc]; exact socleOf_ok _ _  hp⟩
  · cases h

def l12Socle_p (a : List (List Int)) (c : List (List Int)) : Post := ⟨tabB a = true ∧ tabB c = true ∧ c.length = a.length, .c (.int .i64 (soS a c)), []⟩
def l12Socle_ct : List AD → Option Post
  | [.agg [.rows .i64 (a), .rows .i64 (c)]] => some (l12Socle_p a c)
  | _ => none
def l12Socle_ann (a : List (List Int)) (c : List (List Int)) : Nat → Option Ann
  | 0 => some (Ann.mk ((Nat)) (fun i => ⟨[(1, .c (.ptr 1 0)), (3, .c (.int .i64 (((soM a c i : Nat) : Int)))), (4, .c (.int .i64 ((i : Int))))], [(1, some (.box [.ro (.rows .i64 (a)), .ro (.rows .i64 (c))]))]⟩) (fun i => i ≤ a.length) (fun i => a.length - i) (fun i => fun b_ => match b_ with | 2 => some (Ann.mk ((Nat)) (fun j => ⟨[(1, .c (.ptr 1 0)), (3, .c (.int .i64 (((soM a c i : Nat) : Int)))), (4, .c (.int .i64 ((i : Int)))), (5, .c (.bool (((List.range j).all (soQ a c i))))), (6, .c (.int .i64 ((j : Int))))], [(1, some (.box [.ro (.rows .i64 (a)), .ro (.rows .i64 (c))]))]⟩) (fun j => j ≤ a.length ∧ i < a.length) (fun j => a.length - j) (fun _ => noAnn)) | _ => none))
  | _ => none
def l12Socle_G : List (Nat × Ctr) := []
def l12Socle_V (a : List (List Int)) (c : List (List Int)) : Prop :=
  ((∃ x0 : Nat, ((x0 ≤ List.length a) ∧
  (((0 : Int) = (↑(Go.Sx.soM a c x0) : Int)) ∧
  (((0 : Int) = (↑x0 : Int)) ∧
  ((a = a) ∧
  (c = c)))))) ∧
  (∀ x1 : Nat, ((x1 ≤ List.length a) →
  (BrP (Decidable.decide ((↑x1 : Int) < (↑(List.length a) : Int)))
    ((∃ x2 : Nat, (((x2 ≤ List.length a) ∧
    (x1 < List.length a)) ∧
    (((↑(Go.Sx.soM a c x1) : Int) = (↑(Go.Sx.soM a c x1) : Int)) ∧
    (((↑x1 : Int) = (↑x1 : Int)) ∧
    ((Bool.true = List.all (List.range x2) (Go.Sx.soQ a c x1)) ∧
    (((0 : Int) = (↑x2 : Int)) ∧
    ((a = a) ∧
    (c = c)))))))) ∧
    (∀ x3 : Nat, (((x3 ≤ List.length a) ∧
    (x1 < List.length a)) →
    (BrP (Decidable.decide ((↑x3 : Int) < (↑(List.length a) : Int)))
      (BrP (List.all (List.range x3) (Go.Sx.soQ a c x1))
        ((Go.Sx.inB (↑x1 : Int) (List.length c)) ∧
        ((Go.Sx.inB (↑x3 : Int) (List.length (List.getD c (Int.toNat (↑x1 : Int)) []))) ∧
        ((Go.Sx.inB (↑x1 : Int) (List.length a)) ∧
        ((Go.Sx.inB (↑x3 : Int) (List.length (List.getD a (Int.toNat (↑x1 : Int)) []))) ∧
        (BrP (List.getD (List.getD c (Int.toNat (↑x1 : Int)) []) (Int.toNat (↑x3 : Int)) (0 : Int) == List.getD (List.getD a (Int.toNat (↑x1 : Int)) []) (Int.toNat (↑x3 : Int)) (0 : Int))
          ((Go.Sx.inB (↑x1 : Int) (List.length a)) ∧
          ((Go.Sx.inB (↑x3 : Int) (List.length (List.getD a (Int.toNat (↑x1 : Int)) []))) ∧
          ((Go.Sx.inB (↑x3 : Int) (List.length a)) ∧
          ((Go.Sx.inB (↑x1 : Int) (List.length (List.getD a (Int.toNat (↑x3 : Int)) []))) ∧
          ((Go.Sx.InR ((↑x3 : Int) + (1 : Int))) ∧
          (∃ x4 : Nat, (((x4 ≤ List.length a) ∧
          (x1 < List.length a)) ∧
          ((List.length a - x4 < List.length a - x3) ∧
          (((↑(Go.Sx.soM a c x1) : Int) = (↑(Go.Sx.soM a c x1) : Int)) ∧
          (((↑x1 : Int) = (↑x1 : Int)) ∧
          (((List.getD (List.getD a (Int.toNat (↑x1 : Int)) []) (Int.toNat (↑x3 : Int)) (0 : Int) == List.getD (List.getD a (Int.toNat (↑x3 : Int)) []) (Int.toNat (↑x1 : Int)) (0 : Int)) = List.all (List.range x4) (Go.Sx.soQ a c x1)) ∧
          (((↑x3 : Int) + (1 : Int) = (↑x4 : Int)) ∧
          ((a = a) ∧
          (c = c))))))))))))))
          ((Go.Sx.InR ((↑x3 : Int) + (1 : Int))) ∧
          (∃ x5 : Nat, (((x5 ≤ List.length a) ∧
          (x1 < List.length a)) ∧
          ((List.length a - x5 < List.length a - x3) ∧
          (((↑(Go.Sx.soM a c x1) : Int) = (↑(Go.Sx.soM a c x1) : Int)) ∧
          (((↑x1 : Int) = (↑x1 : Int)) ∧
          ((Bool.false = List.all (List.range x5) (Go.Sx.soQ a c x1)) ∧
          (((↑x3 : Int) + (1 : Int) = (↑x5 : Int)) ∧
          ((a = a) ∧
          (c = c)))))))))))))))
        ((Go.Sx.InR ((↑x3 : Int) + (1 : Int))) ∧
        (∃ x6 : Nat, (((x6 ≤ List.length a) ∧
        (x1 < List.length a)) ∧
        ((List.length a - x6 < List.length a - x3) ∧
        (((↑(Go.Sx.soM a c x1) : Int) = (↑(Go.Sx.soM a c x1) : Int)) ∧
        (((↑x1 : Int) = (↑x1 : Int)) ∧
        ((Bool.false = List.all (List.range x6) (Go.Sx.soQ a c x1)) ∧
        (((↑x3 : Int) + (1 : Int) = (↑x6 : Int)) ∧
        ((a = a) ∧
        (c = c)))))))))))
      (BrP (List.all (List.range x3) (Go.Sx.soQ a c x1))
        (((((0 : Int) ≤ Go.IntKind.wrap Go.IntKind.u64 (↑x1 : Int)) ∧
        (Go.IntKind.wrap Go.IntKind.u64 (↑x1 : Int) ≤ (62 : Int))) ∧
        (Go.Sx.InR ((1 : Int) * (2 : Int) ^ Int.toNat (Go.IntKind.wrap Go.IntKind.u64 (↑x1 : Int))))) ∧
        (((Go.IntKind.i64 = Go.IntKind.i64) ∧
        ((((0 : Int) ≤ (↑(Go.Sx.soM a c x1) : Int)) ∧
        ((↑(Go.Sx.soM a c x1) : Int) ≤ (9223372036854775807 : Int))) ∧
        (((0 : Int) ≤ (1 : Int) * (2 : Int) ^ Int.toNat (Go.IntKind.wrap Go.IntKind.u64 (↑x1 : Int))) ∧
        ((1 : Int) * (2 : Int) ^ Int.toNat (Go.IntKind.wrap Go.IntKind.u64 (↑x1 : Int)) ≤ (9223372036854775807 : Int))))) ∧
        ((Go.Sx.InR ((↑x1 : Int) + (1 : Int))) ∧
        (∃ x7 : Nat, ((x7 ≤ List.length a) ∧
        ((List.length a - x7 < List.length a - x1) ∧
        (((↑(Int.toNat (↑(Go.Sx.soM a c x1) : Int) ||| Int.toNat ((1 : Int) * (2 : Int) ^ Int.toNat (Go.IntKind.wrap Go.IntKind.u64 (↑x1 : Int)))) : Int) = (↑(Go.Sx.soM a c x7) : Int)) ∧
        (((↑x1 : Int) + (1 : Int) = (↑x7 : Int)) ∧
        ((a = a) ∧
        (c = c))))))))))
        ((Go.Sx.InR ((↑x1 : Int) + (1 : Int))) ∧
        (∃ x8 : Nat, ((x8 ≤ List.length a) ∧
        ((List.length a - x8 < List.length a - x1) ∧
        (((↑(Go.Sx.soM a c x1) : Int) = (↑(Go.Sx.soM a c x8) : Int)) ∧
        (((↑x1 : Int) + (1 : Int) = (↑x8 : Int)) ∧
        ((a = a) ∧
        (c = c)))))))))))))
    (((↑(Go.Sx.soM a c x1) : Int) = Go.Sx.soS a c) ∧
    (True))))))
theorem l12Socle_vc (a : List (List Int)) (c : List (List Int)) : runF Try.prog (gam l12Socle_G) noWr (l12Socle_ann a c) Try.f49 (bodyOf Try.f49) [] [.agg [.rows .i64 (a), .rows .i64 (c)]] (l12Socle_p a c) = l12Socle_V a c := by kernel_rfl
theorem l12Socle_ok (a : List (List Int)) (c : List (List Int)) (hpre : (l12Socle_p a c).pre) : l12Socle_V a c := by
  simp only [l12Socle_p, l12Socle_V, BrP_iff, true_and, and_true, decide_eq_true_eq, decide_eq_false_iff_not, bne_iff_ne, beq_iff_eq, bne_eq_false_iff_eq, beq_eq_false_iff_ne, Bool.not_eq_true, Bool.not_eq_false, Bool.not_true, Bool.not_false, Bool.not_eq_eq_eq_not, Int.toNat_natCast, List.length_append, List.length_take, List.length_replicate, List.length_set, List.length_map, List.length_drop, List.length_nil, List.length_cons, markL_length, inB, InR, room, bdsOk] at hpre ⊢
  obtain ⟨h1, h2, hl⟩ := hpre
  obtain ⟨n1, n2, ha⟩ := tabB_of h1
  obtain ⟨_, _, hc⟩ := tabB_of h2
  refine ⟨⟨0, by omega, rfl, rfl⟩, fun i hi => ⟨fun h => ⟨⟨0, by omega, rfl, rfl⟩, fun j ⟨hj, _⟩ => ⟨fun h3 => ⟨fun e => ?_, fun e => ?_⟩, fun h3 => ⟨fun e => ?_, fun e => ?_⟩⟩⟩, fun h => ?_⟩⟩
  · have r1 := (ha i (by omega)).1
    have r2 := (hc i (by omega)).1
    have r3 := (ha j (by omega)).1
    refine ⟨by omega, by omega, by omega, by omega, fun e2 => ⟨by omega, by omega, by omega, by omega, by omega, j + 1, by omega, by omega, ?_, by omega⟩, fun e2 => ⟨by omega, j + 1, by omega, by omega, ?_, by omega⟩⟩
    · rw [List.range_succ, List.all_append, e, Bool.true_and, List.all_cons, List.all_nil, Bool.and_true, soQ]
      have : en c i j = en a i j := e2
      rw [decide_eq_true this, Bool.true_and]
      rfl
    · rw [List.range_succ, List.all_append, e, Bool.true_and, List.all_cons, List.all_nil, Bool.and_true, soQ]
      have : ¬ en c i j = en a i j := e2
      rw [decide_eq_false this, Bool.false_and]
  · refine ⟨by omega, j + 1, by omega, by omega, ?_, by omega⟩
    rw [List.range_succ, List.all_append, e, Bool.false_and]
  · have ml := soM_lt a c (i := i) (n := a.length) (by omega) n2
    have p12 := pow_12 (n := i) (by omega)
    have pp := Int.natCast_nonneg (2 ^ i)
    have pn : (1 * (2 : Int) ^ i) = ((2 ^ i : Nat) : Int) := by rw [Int.one_mul, Int.natCast_pow]; rfl
    have wi : IntKind.u64.wrap (i : Int) = (i : Int) := wu64 (by omega)
    rw [wi, Int.toNat_natCast, pn]
    refine ⟨by omega, by omega, by omega, i + 1, by omega, by omega, ?_, by omega⟩
    have : soP a c i = true := by rw [soP, ← show j = a.length by omega]; exact e
    rw [Int.toNat_natCast, soM_yes this]
  · refine ⟨by omega, i + 1, by omega, by omega, ?_, by omega⟩
    have : ¬ soP a c i = true := by rw [soP, ← show j = a.length by omega, e]; decide
    rw [soM_no this]
  · rw [show i = a.length by omega]; rfl
theorem l12Socle_fits : Fits Try.prog 49 ⟨[], l12Socle_ct⟩ := by
  refine fits_fn (Γ := gam l12Socle_G) gok_nil Try.func49 (by kernel_rfl) (by kernel_rfl) (by kernel_rfl) fun ds p h hp => ?_
  unfold l12Socle_ct at h
  split at h
  · cases h
    exact ⟨noWr, l12Socle_ann _ _ , by rw [l12Socle_vc]; exact l12Socle_ok _ _  hp⟩
  · cases h

def lvlF : Nat → List (List Int) → List (List Int) → Int → Int × Int
  | 0, _, _, v => (v, 0)
  | k + 1, a, c, v => if 1 < a.length then (if soS a c = 1 then (0, 4) else lvlF k (quo a (csL a (soS a c))) (quo c (csL a (soS a c))) (v + 1)) else (v, 0)

def lvC (a c : List (List Int)) : Int × Int := if brcB a c = true then lvlF (a.length + 1) a c 0 else (0, 1)

def iLvl_p (a : List (List Int)) (c : List (List Int)) : Post := ⟨roomR a ∧ roomR c, .tup [.inl (.int .i64 ((lvC a c).1)), .inl (.int .i64 ((lvC a c).2))], []⟩
def iLvl_ct : List AD → Option Post
  | [.agg [.rows .i64 (a), .rows .i64 (c)]] => some (iLvl_p a c)
  | _ => none
def iLvl_ann (a : List (List Int)) (c : List (List Int)) : Nat → Option Ann
  | 0 => some (Ann.peel (a.length) ((List (List Int)) × (List (List Int)) × (Nat) × (Nat)) (fun x => match x with | (A, D, v, k) => ⟨[(1, .c (.ptr 1 0)), (4, .c (.int .i64 ((v : Int))))], [(1, some (.box [.own (100), .own (101)])), (100, some (.rows 0 25 2 .i64 (A))), (101, some (.rows 0 25 2 .i64 (D)))]⟩) (fun x => match x with | (A, D, v, k) => brT A D ∧ A.length < k ∧ v + A.length ≤ 12 ∧ lvlF k A D (v : Int) = lvC a c) (fun x => match x with | (A, D, v, k) => A.length) (fun _ => noAnn))
  | _ => none
def iLvl_G : List (Nat × Ctr) := [(51, ⟨[], IsBrace_ct⟩), (52, ⟨[], socleOf_ct⟩), (53, ⟨[], quotientBrace_ct⟩)]
def iLvl_V (a : List (List Int)) (c : List (List Int)) : Prop :=
  ((((Go.Sx.roomR a) ∧
  (Go.Sx.roomR c)) ∧
  (True)) ∧
  (BrP (!Go.Sx.brcB a c)
    ((((0 : Int) = Prod.fst (Go.Sx.lvC a c)) ∧
    (((1 : Int) = Prod.snd (Go.Sx.lvC a c)) ∧
    (True))) ∧
    (True))
    ((BrP (Decidable.decide ((1 : Int) < (↑(List.length a) : Int)))
      ((((Go.Sx.tabB a = Bool.true) ∧
      ((Go.Sx.tabB c = Bool.true) ∧
      (List.length c = List.length a))) ∧
      (True)) ∧
      (BrP (Go.Sx.soS a c == (1 : Int))
        ((((0 : Int) = Prod.fst (Go.Sx.lvC a c)) ∧
        (((4 : Int) = Prod.snd (Go.Sx.lvC a c)) ∧
        (True))) ∧
        (True))
        ((((Go.Sx.setOk a (Go.Sx.soS a c)) ∧
        ((Go.Sx.tabB c = Bool.true) ∧
        (List.length c = List.length a))) ∧
        (True)) ∧
        ((Go.Sx.InR ((0 : Int) + (1 : Int))) ∧
        (∃ x0 : List (List Int) × List (List Int) × Nat × Nat, (((Go.Sx.brT (Prod.fst x0) (Prod.fst x0.2)) ∧
        ((List.length (Prod.fst x0) < Prod.snd x0.2.2) ∧
        ((Prod.fst x0.2.2 + List.length (Prod.fst x0) ≤ (12 : Nat)) ∧
        (Go.Sx.lvlF (Prod.snd x0.2.2) (Prod.fst x0) (Prod.fst x0.2) (↑(Prod.fst x0.2.2) : Int) = Go.Sx.lvC a c)))) ∧
        ((List.length (Prod.fst x0) < List.length a) ∧
        (((1 : Int) = (↑x0.2.2.1 : Int)) ∧
        ((Go.Sx.quo a (Go.Sx.csL a (Go.Sx.soS a c)) = x0.1) ∧
        (Go.Sx.quo c (Go.Sx.csL a (Go.Sx.soS a c)) = x0.2.1))))))))))
      ((((0 : Int) = Prod.fst (Go.Sx.lvC a c)) ∧
      (((0 : Int) = Prod.snd (Go.Sx.lvC a c)) ∧
      (True))) ∧
      (True))) ∧
    (∀ x1 : List (List Int) × List (List Int) × Nat × Nat, (((Go.Sx.brT (Prod.fst x1) (Prod.fst x1.2)) ∧
    ((List.length (Prod.fst x1) < Prod.snd x1.2.2) ∧
    ((Prod.fst x1.2.2 + List.length (Prod.fst x1) ≤ (12 : Nat)) ∧
    (Go.Sx.lvlF (Prod.snd x1.2.2) (Prod.fst x1) (Prod.fst x1.2) (↑(Prod.fst x1.2.2) : Int) = Go.Sx.lvC a c)))) →
    (BrP (Decidable.decide ((1 : Int) < (↑(List.length x1.1) : Int)))
      ((((Go.Sx.tabB x1.1 = Bool.true) ∧
      ((Go.Sx.tabB x1.2.1 = Bool.true) ∧
      (List.length x1.2.1 = List.length x1.1))) ∧
      (True)) ∧
      (BrP (Go.Sx.soS x1.1 x1.2.1 == (1 : Int))
        ((((0 : Int) = Prod.fst (Go.Sx.lvC a c)) ∧
        (((4 : Int) = Prod.snd (Go.Sx.lvC a c)) ∧
        (True))) ∧
        (True))
        ((((Go.Sx.setOk x1.1 (Go.Sx.soS x1.1 x1.2.1)) ∧
        ((Go.Sx.tabB x1.2.1 = Bool.true) ∧
        (List.length x1.2.1 = List.length x1.1))) ∧
        (True)) ∧
        ((Go.Sx.InR ((↑x1.2.2.1 : Int) + (1 : Int))) ∧
        (∃ x2 : List (List Int) × List (List Int) × Nat × Nat, (((Go.Sx.brT (Prod.fst x2) (Prod.fst x2.2)) ∧
        ((List.length (Prod.fst x2) < Prod.snd x2.2.2) ∧
        ((Prod.fst x2.2.2 + List.length (Prod.fst x2) ≤ (12 : Nat)) ∧
        (Go.Sx.lvlF (Prod.snd x2.2.2) (Prod.fst x2) (Prod.fst x2.2) (↑(Prod.fst x2.2.2) : Int) = Go.Sx.lvC a c)))) ∧
        ((List.length (Prod.fst x2) < List.length (Prod.fst x1)) ∧
        (((↑x1.2.2.1 : Int) + (1 : Int) = (↑x2.2.2.1 : Int)) ∧
        ((Go.Sx.quo x1.1 (Go.Sx.csL x1.1 (Go.Sx.soS x1.1 x1.2.1)) = x2.1) ∧
        (Go.Sx.quo x1.2.1 (Go.Sx.csL x1.1 (Go.Sx.soS x1.1 x1.2.1)) = x2.2.1))))))))))
      ((((↑x1.2.2.1 : Int) = Prod.fst (Go.Sx.lvC a c)) ∧
      (((0 : Int) = Prod.snd (Go.Sx.lvC a c)) ∧
      (True))) ∧
      (True))))))))
theorem iLvl_vc (a : List (List Int)) (c : List (List Int)) : runF Try.prog (gam iLvl_G) noWr (iLvl_ann a c) Try.f24 (bodyOf Try.f24) [] [.agg [.rows .i64 (a), .rows .i64 (c)]] (iLvl_p a c) = iLvl_V a c := by kernel_rfl
theorem iLvl_ok (a : List (List Int)) (c : List (List Int)) (hpre : (iLvl_p a c).pre) : iLvl_V a c := by
  simp only [iLvl_p, iLvl_V, BrP_iff, true_and, and_true, decide_eq_true_eq, decide_eq_false_iff_not, bne_iff_ne, beq_iff_eq, bne_eq_false_iff_eq, beq_eq_false_iff_ne, Bool.not_eq_true, Bool.not_eq_false, Bool.not_true, Bool.not_false, Bool.not_eq_eq_eq_not, Int.toNat_natCast, List.length_append, List.length_take, List.length_replicate, List.length_set, List.length_map, List.length_drop, List.length_nil, List.length_cons, markL_length, inB, InR, room, bdsOk] at hpre ⊢
  refine ⟨hpre, fun h => by rw [lvC, if_neg (by rw [h]; decide)]; exact ⟨rfl, rfl⟩, fun h => ?_⟩
  have B := brT_of h
  have n2 := (tabB_of B.1).2.1
  have e0 : lvlF (a.length + 1) a c 0 = lvC a c := by rw [lvC, if_pos h]
  refine ⟨⟨fun h1 => ⟨⟨B.1, B.2.1, B.2.2.1⟩, fun h2 => ?_, fun h2 => ⟨⟨soS_ok B.1 c, B.2.1, B.2.2.1⟩, by omega, ?_⟩⟩, fun h1 => ?_⟩, fun ⟨A, D, v, k⟩ ⟨hB, hk, hv, he⟩ => ?_⟩
  · rw [← e0, lvlF, if_pos (by omega), if_pos h2]; exact ⟨rfl, rfl⟩
  · have l1 := (quo_tab B B.1 rfl).2
    have l2 := cm_lt B (by omega) h2
    refine ⟨(quo a (csL a (soS a c)), quo c (csL a (soS a c)), 1, a.length), ⟨brT_quo B, ?_, ?_, ?_⟩, ?_, rfl, rfl, rfl⟩
    · show (quo a (csL a (soS a c))).length < a.length; omega
    · show 1 + (quo a (csL a (soS a c))).length ≤ 12; omega
    · rw [← e0, lvlF, if_pos (by omega), if_neg h2]; rfl
    · show (quo a (csL a (soS a c))).length < a.length; omega
  · rw [← e0, lvlF, if_neg (by omega)]; exact ⟨rfl, rfl⟩
  · simp only at hB hk hv he ⊢
    obtain ⟨k, rfl⟩ : ∃ j, k = j + 1 := ⟨k - 1, by omega⟩
    refine ⟨fun h1 => ⟨⟨hB.1, hB.2.1, hB.2.2.1⟩, fun h2 => ?_, fun h2 => ⟨⟨soS_ok hB.1 D, hB.2.1, hB.2.2.1⟩, by omega, ?_⟩⟩, fun h1 => ?_⟩
    · rw [← he, lvlF, if_pos (by omega), if_pos h2]; exact ⟨rfl, rfl⟩
    · have l1 := (quo_tab hB hB.1 rfl).2
      have l2 := cm_lt hB (by omega) h2
      refine ⟨(quo A (csL A (soS A D)), quo D (csL A (soS A D)), v + 1, k), ⟨brT_quo hB, ?_, ?_, ?_⟩, ?_, rfl, rfl, rfl⟩
      · show (quo A (csL A (soS A D))).length < k; omega
      · show v + 1 + (quo A (csL A (soS A D))).length ≤ 12; omega
      · rw [← he, lvlF, if_pos (by omega), if_neg h2]; rfl
      · show (quo A (csL A (soS A D))).length < A.length; omega
    · rw [← he, lvlF, if_neg (by omega)]; exact ⟨rfl, rfl⟩
theorem iLvl_fits : Fits Try.prog 24 ⟨[], iLvl_ct⟩ := by
  refine fits_fn (Γ := gam iLvl_G) (gok_cons IsBrace_fits (gok_cons socleOf_fits (gok_cons quotientBrace_fits gok_nil))) Try.func24 (by kernel_rfl) (by kernel_rfl) (by kernel_rfl) fun ds p h hp => ?_
  unfold iLvl_ct at h
  split at h
  · cases h
    exact ⟨noWr, iLvl_ann _ _ , by rw [iLvl_vc]; exact iLvl_ok _ _  hp⟩
  · cases h

def sLvl_p (a : List (List Int)) (c : List (List Int)) : Post := ⟨roomR a ∧ roomR c, .tup [.inl (.int .i64 ((lvC a c).1)), .inl (.int .i64 ((lvC a c).2))], []⟩
def sLvl_ct : List AD → Option Post
  | [.agg [.rows .i64 (a), .rows .i64 (c)]] => some (sLvl_p a c)
  | _ => none
def sLvl_ann (a : List (List Int)) (c : List (List Int)) : Nat → Option Ann
  | 0 => some (Ann.peel (a.length) ((List (List Int)) × (List (List Int)) × (Nat) × (Nat)) (fun x => match x with | (A, D, v, k) => ⟨[(1, .c (.ptr 1 0)), (4, .c (.int .i64 ((v : Int))))], [(1, some (.box [.own (100), .own (101)])), (100, some (.rows 0 25 2 .i64 (A))), (101, some (.rows 0 25 2 .i64 (D)))]⟩) (fun x => match x with | (A, D, v, k) => brT A D ∧ A.length < k ∧ v + A.length ≤ 12 ∧ lvlF k A D (v : Int) = lvC a c) (fun x => match x with | (A, D, v, k) => A.length) (fun _ => noAnn))
  | _ => none
def sLvl_G : List (Nat × Ctr) := [(48, ⟨[], l11Is_ct⟩), (49, ⟨[], l12Socle_ct⟩), (50, ⟨[], l12Quotient_ct⟩)]
def sLvl_V (a : List (List Int)) (c : List (List Int)) : Prop :=
  ((((Go.Sx.roomR a) ∧
  (Go.Sx.roomR c)) ∧
  (True)) ∧
  (BrP (!Go.Sx.brcB a c)
    ((((0 : Int) = Prod.fst (Go.Sx.lvC a c)) ∧
    (((1 : Int) = Prod.snd (Go.Sx.lvC a c)) ∧
    (True))) ∧
    (True))
    ((BrP (Decidable.decide ((1 : Int) < (↑(List.length a) : Int)))
      ((((Go.Sx.tabB a = Bool.true) ∧
      ((Go.Sx.tabB c = Bool.true) ∧
      (List.length c = List.length a))) ∧
      (True)) ∧
      (BrP (Go.Sx.soS a c == (1 : Int))
        ((((0 : Int) = Prod.fst (Go.Sx.lvC a c)) ∧
        (((4 : Int) = Prod.snd (Go.Sx.lvC a c)) ∧
        (True))) ∧
        (True))
        ((((Go.Sx.setOk a (Go.Sx.soS a c)) ∧
        ((Go.Sx.tabB c = Bool.true) ∧
        (List.length c = List.length a))) ∧
        (True)) ∧
        ((Go.Sx.InR ((0 : Int) + (1 : Int))) ∧
        (∃ x0 : List (List Int) × List (List Int) × Nat × Nat, (((Go.Sx.brT (Prod.fst x0) (Prod.fst x0.2)) ∧
        ((List.length (Prod.fst x0) < Prod.snd x0.2.2) ∧
        ((Prod.fst x0.2.2 + List.length (Prod.fst x0) ≤ (12 : Nat)) ∧
        (Go.Sx.lvlF (Prod.snd x0.2.2) (Prod.fst x0) (Prod.fst x0.2) (↑(Prod.fst x0.2.2) : Int) = Go.Sx.lvC a c)))) ∧
        ((List.length (Prod.fst x0) < List.length a) ∧
        (((1 : Int) = (↑x0.2.2.1 : Int)) ∧
        ((Go.Sx.quo a (Go.Sx.csL a (Go.Sx.soS a c)) = x0.1) ∧
        (Go.Sx.quo c (Go.Sx.csL a (Go.Sx.soS a c)) = x0.2.1))))))))))
      ((((0 : Int) = Prod.fst (Go.Sx.lvC a c)) ∧
      (((0 : Int) = Prod.snd (Go.Sx.lvC a c)) ∧
      (True))) ∧
      (True))) ∧
    (∀ x1 : List (List Int) × List (List Int) × Nat × Nat, (((Go.Sx.brT (Prod.fst x1) (Prod.fst x1.2)) ∧
    ((List.length (Prod.fst x1) < Prod.snd x1.2.2) ∧
    ((Prod.fst x1.2.2 + List.length (Prod.fst x1) ≤ (12 : Nat)) ∧
    (Go.Sx.lvlF (Prod.snd x1.2.2) (Prod.fst x1) (Prod.fst x1.2) (↑(Prod.fst x1.2.2) : Int) = Go.Sx.lvC a c)))) →
    (BrP (Decidable.decide ((1 : Int) < (↑(List.length x1.1) : Int)))
      ((((Go.Sx.tabB x1.1 = Bool.true) ∧
      ((Go.Sx.tabB x1.2.1 = Bool.true) ∧
      (List.length x1.2.1 = List.length x1.1))) ∧
      (True)) ∧
      (BrP (Go.Sx.soS x1.1 x1.2.1 == (1 : Int))
        ((((0 : Int) = Prod.fst (Go.Sx.lvC a c)) ∧
        (((4 : Int) = Prod.snd (Go.Sx.lvC a c)) ∧
        (True))) ∧
        (True))
        ((((Go.Sx.setOk x1.1 (Go.Sx.soS x1.1 x1.2.1)) ∧
        ((Go.Sx.tabB x1.2.1 = Bool.true) ∧
        (List.length x1.2.1 = List.length x1.1))) ∧
        (True)) ∧
        ((Go.Sx.InR ((↑x1.2.2.1 : Int) + (1 : Int))) ∧
        (∃ x2 : List (List Int) × List (List Int) × Nat × Nat, (((Go.Sx.brT (Prod.fst x2) (Prod.fst x2.2)) ∧
        ((List.length (Prod.fst x2) < Prod.snd x2.2.2) ∧
        ((Prod.fst x2.2.2 + List.length (Prod.fst x2) ≤ (12 : Nat)) ∧
        (Go.Sx.lvlF (Prod.snd x2.2.2) (Prod.fst x2) (Prod.fst x2.2) (↑(Prod.fst x2.2.2) : Int) = Go.Sx.lvC a c)))) ∧
        ((List.length (Prod.fst x2) < List.length (Prod.fst x1)) ∧
        (((↑x1.2.2.1 : Int) + (1 : Int) = (↑x2.2.2.1 : Int)) ∧
        ((Go.Sx.quo x1.1 (Go.Sx.csL x1.1 (Go.Sx.soS x1.1 x1.2.1)) = x2.1) ∧
        (Go.Sx.quo x1.2.1 (Go.Sx.csL x1.1 (Go.Sx.soS x1.1 x1.2.1)) = x2.2.1))))))))))
      ((((↑x1.2.2.1 : Int) = Prod.fst (Go.Sx.lvC a c)) ∧
      (((0 : Int) = Prod.snd (Go.Sx.lvC a c)) ∧
      (True))) ∧
      (True))))))))
theorem sLvl_vc (a : List (List Int)) (c : List (List Int)) : runF Try.prog (gam sLvl_G) noWr (sLvl_ann a c) Try.f22 (bodyOf Try.f22) [] [.agg [.rows .i64 (a), .rows .i64 (c)]] (sLvl_p a c) = sLvl_V a c := by kernel_rfl
theorem sLvl_ok (a : List (List Int)) (c : List (List Int)) (hpre : (sLvl_p a c).pre) : sLvl_V a c := by
  simp only [sLvl_p, sLvl_V, BrP_iff, true_and, and_true, decide_eq_true_eq, decide_eq_false_iff_not, bne_iff_ne, beq_iff_eq, bne_eq_false_iff_eq, beq_eq_false_iff_ne, Bool.not_eq_true, Bool.not_eq_false, Bool.not_true, Bool.not_false, Bool.not_eq_eq_eq_not, Int.toNat_natCast, List.length_append, List.length_take, List.length_replicate, List.length_set, List.length_map, List.length_drop, List.length_nil, List.length_cons, markL_length, inB, InR, room, bdsOk] at hpre ⊢
  refine ⟨hpre, fun h => by rw [lvC, if_neg (by rw [h]; decide)]; exact ⟨rfl, rfl⟩, fun h => ?_⟩
  have B := brT_of h
  have n2 := (tabB_of B.1).2.1
  have e0 : lvlF (a.length + 1) a c 0 = lvC a c := by rw [lvC, if_pos h]
  refine ⟨⟨fun h1 => ⟨⟨B.1, B.2.1, B.2.2.1⟩, fun h2 => ?_, fun h2 => ⟨⟨soS_ok B.1 c, B.2.1, B.2.2.1⟩, by omega, ?_⟩⟩, fun h1 => ?_⟩, fun ⟨A, D, v, k⟩ ⟨hB, hk, hv, he⟩ => ?_⟩
  · rw [← e0, lvlF, if_pos (by omega), if_pos h2]; exact ⟨rfl, rfl⟩
  · have l1 := (quo_tab B B.1 rfl).2
    have l2 := cm_lt B (by omega) h2
    refine ⟨(quo a (csL a (soS a c)), quo c (csL a (soS a c)), 1, a.length), ⟨brT_quo B, ?_, ?_, ?_⟩, ?_, rfl, rfl, rfl⟩
    · show (quo a (csL a (soS a c))).length < a.length; omega
    · show 1 + (quo a (csL a (soS a c))).length ≤ 12; omega
    · rw [← e0, lvlF, if_pos (by omega), if_neg h2]; rfl
    · show (quo a (csL a (soS a c))).length < a.length; omega
  · rw [← e0, lvlF, if_neg (by omega)]; exact ⟨rfl, rfl⟩
  · simp only at hB hk hv he ⊢
    obtain ⟨k, rfl⟩ : ∃ j, k = j + 1 := ⟨k - 1, by omega⟩
    refine ⟨fun h1 => ⟨⟨hB.1, hB.2.1, hB.2.2.1⟩, fun h2 => ?_, fun h2 => ⟨⟨soS_ok hB.1 D, hB.2.1, hB.2.2.1⟩, by omega, ?_⟩⟩, fun h1 => ?_⟩
    · rw [← he, lvlF, if_pos (by omega), if_pos h2]; exact ⟨rfl, rfl⟩
    · have l1 := (quo_tab hB hB.1 rfl).2
      have l2 := cm_lt hB (by omega) h2
      refine ⟨(quo A (csL A (soS A D)), quo D (csL A (soS A D)), v + 1, k), ⟨brT_quo hB, ?_, ?_, ?_⟩, ?_, rfl, rfl, rfl⟩
      · show (quo A (csL A (soS A D))).length < k; omega
      · show v + 1 + (quo A (csL A (soS A D))).length ≤ 12; omega
      · rw [← he, lvlF, if_pos (by omega), if_neg h2]; rfl
      · show (quo A (csL A (soS A D))).length < A.length; omega
    · rw [← he, lvlF, if_neg (by omega)]; exact ⟨rfl, rfl⟩
theorem sLvl_fits : Fits Try.prog 22 ⟨[], sLvl_ct⟩ := by
  refine fits_fn (Γ := gam sLvl_G) (gok_cons l11Is_fits (gok_cons l12Socle_fits (gok_cons l12Quotient_fits gok_nil))) Try.func22 (by kernel_rfl) (by kernel_rfl) (by kernel_rfl) fun ds p h hp => ?_
  unfold sLvl_ct at h
  split at h
  · cases h
    exact ⟨noWr, sLvl_ann _ _ , by rw [sLvl_vc]; exact sLvl_ok _ _  hp⟩
  · cases h

def lLvl_p (a : List (List Int)) (c : List (List Int)) : Post := ⟨((a.length : Int) ≤ 9223372036854775807 ∧ (∀ r ∈ a, (r.length : Int) ≤ 9223372036854775807)) ∧ ((c.length : Int) ≤ 9223372036854775807 ∧ (∀ r ∈ c, (r.length : Int) ≤ 9223372036854775807)), .c (.bool (true)), []⟩
def lLvl_ct : List AD → Option Post
  | [.agg [.rows .i64 (a), .rows .i64 (c)]] => some (lLvl_p a c)
  | _ => none
def lLvl_G : List (Nat × Ctr) := [(21, ⟨[], szBrace_ct⟩), (23, ⟨[], toBrace_ct⟩), (25, ⟨[], eqBrace_ct⟩), (22, ⟨[], sLvl_ct⟩), (24, ⟨[], iLvl_ct⟩)]
def lLvl_V (a : List (List Int)) (c : List (List Int)) : Prop :=
  ((((((↑(List.length a) : Int) ≤ (9223372036854775807 : Int)) ∧
  (∀ (r : List Int), r ∈ a → (↑(List.length r) : Int) ≤ (9223372036854775807 : Int))) ∧
  ((((↑(List.length c) : Int) ≤ (9223372036854775807 : Int)) ∧
  (∀ (r : List Int), r ∈ c → (↑(List.length r) : Int) ≤ (9223372036854775807 : Int))) ∧
  (((0 : Int) ≤ (1048576 : Int)) ∧
  ((1048576 : Int) ≤ (1099511627776 : Int))))) ∧
  (True)) ∧
  (BrP (Decidable.decide (Go.Sx.szB a c (1048576 : Int) < (0 : Int)))
    ((Bool.true = Bool.true) ∧
    (True))
    ((((Go.Sx.roomR a) ∧
    (Go.Sx.roomR c)) ∧
    (True)) ∧
    ((((Go.Sx.roomR a) ∧
    (Go.Sx.roomR c)) ∧
    (True)) ∧
    ((((Go.Sx.roomR a) ∧
    (Go.Sx.roomR c)) ∧
    (True)) ∧
    ((((Go.Sx.roomR a) ∧
    (Go.Sx.roomR c)) ∧
    (True)) ∧
    (BrP (Prod.fst (Go.Sx.lvC a c) != Prod.fst (Go.Sx.lvC a c))
      ((Bool.false = Bool.true) ∧
      (True))
      (BrP (Prod.snd (Go.Sx.lvC a c) != Prod.snd (Go.Sx.lvC a c))
        ((Bool.false = Bool.true) ∧
        (True))
        ((((Go.Sx.roomR a) ∧
        (Go.Sx.roomR c)) ∧
        (True)) ∧
        ((((Go.Sx.roomR a) ∧
        (Go.Sx.roomR c)) ∧
        (True)) ∧
        (BrP (!Decidable.decide (a = a ∧ c = c))
          ((Bool.false = Bool.true) ∧
          (True))
          ((Bool.true = Bool.true) ∧
          (True)))))))))))))
theorem lLvl_vc (a : List (List Int)) (c : List (List Int)) : runF Try.prog (gam lLvl_G) noWr noAnn Try.f5 (bodyOf Try.f5) [] [.agg [.rows .i64 (a), .rows .i64 (c)]] (lLvl_p a c) = lLvl_V a c := by kernel_rfl
theorem lLvl_ok (a : List (List Int)) (c : List (List Int)) (hpre : (lLvl_p a c).pre) : lLvl_V a c := by
  simp only [lLvl_p, lLvl_V, BrP_iff, true_and, and_true, decide_eq_true_eq, decide_eq_false_iff_not, bne_iff_ne, beq_iff_eq, bne_eq_false_iff_eq, beq_eq_false_iff_ne, Bool.not_eq_true, Bool.not_eq_false, Bool.not_true, Bool.not_false, Bool.not_eq_eq_eq_not, Int.toNat_natCast, List.length_append, List.length_take, List.length_replicate, List.length_set, List.length_map, List.length_drop, List.length_nil, List.length_cons, markL_length, inB, InR, room, bdsOk] at hpre ⊢
  obtain ⟨⟨a1, a2⟩, b1, b2⟩ := hpre
  refine ⟨⟨⟨a1, a2⟩, ⟨b1, b2⟩, by omega, by omega⟩, fun _ => trivial, fun h => ?_⟩
  obtain ⟨e1, e2, e3, d1, d2, d3⟩ := szB_of h
  simp [e3, d3]
theorem lLvl_fits : Fits Try.prog 5 ⟨[], lLvl_ct⟩ := by
  refine fits_fn (Γ := gam lLvl_G) (gok_cons szBrace_fits (gok_cons toBrace_fits (gok_cons eqBrace_fits (gok_cons sLvl_fits (gok_cons iLvl_fits gok_nil))))) Try.func5 (by kernel_rfl) (by kernel_rfl) (by kernel_rfl) fun ds p h hp => ?_
  unfold lLvl_ct at h
  split at h
  · cases h
    exact ⟨noWr, noAnn, by rw [lLvl_vc]; exact lLvl_ok _ _  hp⟩
  · cases h

end Go.Sx

