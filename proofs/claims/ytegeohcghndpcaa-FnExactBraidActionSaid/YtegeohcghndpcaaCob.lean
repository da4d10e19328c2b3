/- Contracts on the way of CoboundaryOf. -/
import Derived.Test.YtegeohcghndpcaaTable
open Go Go.Proofs
namespace Go.Sx
set_option linter.unusedSimpArgs false
set_option linter.unusedVariables false

def cbF (t : List (List Int)) (m : Int) (g : List Int) (x y : Nat) : Int := (g.getD ((t.getD x []).getD y 0).toNat 0 - g.getD y 0 + m).tmod m

theorem cb_in {t : List (List Int)} {m : Int} {g : List Int} (h1 : tabB t = true) (h2 : shiftB (t.length : Int) m g = true) (x y : Nat) (hx : x < t.length) (hy : y < t.length) :
    1 ≤ m ∧ m ≤ 12 ∧ (g.length : Int) = (t.length : Int) ∧ (t.getD x []).length = t.length ∧ 0 ≤ (t.getD x []).getD y 0 ∧ (t.getD x []).getD y 0 ≤ (t.length : Int) - 1 ∧
    0 ≤ g.getD ((t.getD x []).getD y 0).toNat 0 ∧ g.getD ((t.getD x []).getD y 0).toNat 0 ≤ m - 1 ∧ 0 ≤ g.getD y 0 ∧ g.getD y 0 ≤ m - 1 := by
  obtain ⟨_, _, a⟩ := tabB_of h1
  obtain ⟨b, c⟩ := a x hx
  have d := c y hy
  obtain ⟨e, f, k, l⟩ := shiftB_of h2
  have u := l ((t.getD x []).getD y 0).toNat (by omega)
  have v := l y (by omega)
  exact ⟨e, f, k, b, d.1, d.2, u.1, u.2, v.1, v.2⟩

def coboundary1_p (x : Int) (y : Int) (g : List Int) (t : List (List Int)) (m : Int) : Post := ⟨tabB t = true ∧ shiftB (t.length : Int) m g = true ∧ 0 ≤ x ∧ x < (t.length : Int) ∧ 0 ≤ y ∧ y < (t.length : Int), .c (.int .i64 (cbF t m g x.toNat y.toNat)), []⟩
def coboundary1_ct : List AD → Option Post
  | [.c (.int .i64 (x)), .c (.int .i64 (y)), .box [.ints .i64 (g)], .box [.rows .i64 (t)], .box [.int .i64 (m)]] => some (coboundary1_p x y g t m)
  | _ => none
def coboundary1_G : List (Nat × Ctr) := []
def coboundary1_V (x : Int) (y : Int) (g : List Int) (t : List (List Int)) (m : Int) : Prop :=
  ((Go.Sx.inB x (List.length t)) ∧
  ((Go.Sx.inB y (List.length (List.getD t (Int.toNat x) []))) ∧
  ((Go.Sx.inB (List.getD (List.getD t (Int.toNat x) []) (Int.toNat y) (0 : Int)) (List.length g)) ∧
  ((Go.Sx.inB y (List.length g)) ∧
  ((Go.Sx.InR (List.getD g (Int.toNat (List.getD (List.getD t (Int.toNat x) []) (Int.toNat y) (0 : Int))) (0 : Int) - List.getD g (Int.toNat y) (0 : Int))) ∧
  ((Go.Sx.InR (List.getD g (Int.toNat (List.getD (List.getD t (Int.toNat x) []) (Int.toNat y) (0 : Int))) (0 : Int) - List.getD g (Int.toNat y) (0 : Int) + m)) ∧
  ((m ≠ (0 : Int)) ∧
  ((Int.tmod (List.getD g (Int.toNat (List.getD (List.getD t (Int.toNat x) []) (Int.toNat y) (0 : Int))) (0 : Int) - List.getD g (Int.toNat y) (0 : Int) + m) m = Go.Sx.cbF t m g (Int.toNat x) (Int.toNat y)) ∧
  (True)))))))))
theorem coboundary1_vc (x : Int) (y : Int) (g : List Int) (t : List (List Int)) (m : Int) : runF Try.prog (gam coboundary1_G) noWr noAnn Try.f103 (bodyOf Try.f103) [] [.c (.int .i64 (x)), .c (.int .i64 (y)), .box [.ints .i64 (g)], .box [.rows .i64 (t)], .box [.int .i64 (m)]] (coboundary1_p x y g t m) = coboundary1_V x y g t m := by kernel_rfl
theorem coboundary1_ok (x : Int) (y : Int) (g : List Int) (t : List (List Int)) (m : Int) (hpre : (coboundary1_p x y g t m).pre) : coboundary1_V x y g t m := by
  simp only [coboundary1_p, coboundary1_V, BrP_iff, true_and, and_true, decide_eq_true_eq, decide_eq_false_iff_not, bne_iff_ne, beq_iff_eq, bne_eq_false_iff_eq, beq_eq_false_iff_ne, Bool.not_eq_true, Bool.not_eq_false, Bool.not_true, Bool.not_false, Bool.not_eq_eq_eq_not, Int.toNat_natCast, List.length_append, List.length_take, List.length_replicate, List.length_set, List.length_map, List.length_drop, List.length_nil, List.length_cons, markL_length, inB, InR, room, bdsOk] at hpre ⊢
  obtain ⟨h1, h2, hx1, hx2, hy1, hy2⟩ := hpre
  have q := cb_in h1 h2 x.toNat y.toNat (by omega) (by omega)
  exact ⟨by omega, by omega, by omega, by omega, by omega, by omega, by omega, rfl⟩
theorem coboundary1_fits : Fits Try.prog 103 ⟨[], coboundary1_ct⟩ := by
  refine fits_fn (Γ := gam coboundary1_G) gok_nil Try.func103 (by kernel_rfl) (by kernel_rfl) (by kernel_rfl) fun ds p h hp => ?_
  unfold coboundary1_ct at h
  split at h
  · cases h
    exact ⟨noWr, noAnn, by rw [coboundary1_vc]; exact coboundary1_ok _ _ _ _ _  hp⟩
  · cases h

def coboundary_p (t : List (List Int)) (m : Int) (g : List Int) : Post := ⟨tabB t = true ∧ shiftB (t.length : Int) m g = true, .c (.rows 24 2 .i64 (tabR t.length (cbF t m g))), []⟩
def coboundary_ct : List AD → Option Post
  | [.c (.rows .i64 (t)), .c (.int .i64 (m)), .c (.ints .i64 (g))] => some (coboundary_p t m g)
  | _ => none
def coboundary_G : List (Nat × Ctr) := [(87, ⟨[], tableBy_ct⟩), (103, ⟨[], coboundary1_ct⟩)]
def coboundary_V (t : List (List Int)) (m : Int) (g : List Int) : Prop :=
  (((((0 : Int) ≤ (↑(List.length t) : Int)) ∧
  (((↑(List.length t) : Int) ≤ (144 : Int)) ∧
  (∀ (x y : Int), (0 : Int) ≤ x → x < (↑(List.length t) : Int) → (0 : Int) ≤ y → y < (↑(List.length t) : Int) → Go.Sx.ctQI (Go.Sx.coboundary1_ct [Go.Sx.AD.c (Go.Sx.FC.int Go.IntKind.i64 x), Go.Sx.AD.c (Go.Sx.FC.int Go.IntKind.i64 y), Go.Sx.AD.box [Go.Sx.FC.ints Go.IntKind.i64 g], Go.Sx.AD.box [Go.Sx.FC.rows Go.IntKind.i64 t], Go.Sx.AD.box [Go.Sx.FC.int Go.IntKind.i64 m]])))) ∧
  (True)) ∧
  (((Go.Sx.tabR (Int.toNat (↑(List.length t) : Int)) fun (x y : Nat) => Go.Sx.ctI (Go.Sx.coboundary1_ct [Go.Sx.AD.c (Go.Sx.FC.int Go.IntKind.i64 (↑x : Int)), Go.Sx.AD.c (Go.Sx.FC.int Go.IntKind.i64 (↑y : Int)), Go.Sx.AD.box [Go.Sx.FC.ints Go.IntKind.i64 g], Go.Sx.AD.box [Go.Sx.FC.rows Go.IntKind.i64 t], Go.Sx.AD.box [Go.Sx.FC.int Go.IntKind.i64 m]])) = Go.Sx.tabR (List.length t) (Go.Sx.cbF t m g)) ∧
  (True)))
theorem coboundary_vc (t : List (List Int)) (m : Int) (g : List Int) : runF Try.prog (gam coboundary_G) noWr noAnn Try.f61 (bodyOf Try.f61) [] [.c (.rows .i64 (t)), .c (.int .i64 (m)), .c (.ints .i64 (g))] (coboundary_p t m g) = coboundary_V t m g := by kernel_rfl
theorem coboundary_ok (t : List (List Int)) (m : Int) (g : List Int) (hpre : (coboundary_p t m g).pre) : coboundary_V t m g := by
  simp only [coboundary_p, coboundary_V, BrP_iff, true_and, and_true, decide_eq_true_eq, decide_eq_false_iff_not, bne_iff_ne, beq_iff_eq, bne_eq_false_iff_eq, beq_eq_false_iff_ne, Bool.not_eq_true, Bool.not_eq_false, Bool.not_true, Bool.not_false, Bool.not_eq_eq_eq_not, Int.toNat_natCast, List.length_append, List.length_take, List.length_replicate, List.length_set, List.length_map, List.length_drop, List.length_nil, List.length_cons, markL_length, inB, InR, room, bdsOk] at hpre ⊢
  obtain ⟨h1, h2⟩ := hpre
  have ht := tabB_of h1
  exact ⟨⟨by omega, by omega, fun x y a b c d => ⟨h1, h2, a, b, c, d⟩⟩, tabR_ext fun x y hx hy => rfl⟩
theorem coboundary_fits : Fits Try.prog 61 ⟨[], coboundary_ct⟩ := by
  refine fits_fn (Γ := gam coboundary_G) (gok_cons tableBy_fits (gok_cons coboundary1_fits gok_nil)) Try.func61 (by kernel_rfl) (by kernel_rfl) (by kernel_rfl) fun ds p h hp => ?_
  unfold coboundary_ct at h
  split at h
  · cases h
    exact ⟨noWr, noAnn, by rw [coboundary_vc]; exact coboundary_ok _ _ _  hp⟩
  · cases h

def l14Bound_p (t : List (List Int)) (m : Int) (g : List Int) : Post := ⟨tabB t = true ∧ shiftB (t.length : Int) m g = true, .c (.rows 24 2 .i64 (tabR t.length (cbF t m g))), []⟩
def l14Bound_ct : List AD → Option Post
  | [.c (.rows .i64 (t)), .c (.int .i64 (m)), .c (.ints .i64 (g))] => some (l14Bound_p t m g)
  | _ => none
def l14Bound_ann (t : List (List Int)) (m : Int) (g : List Int) : Nat → Option Ann
  | 0 => some (Ann.mk ((Nat)) (fun i => ⟨[(0, .c (.ro (.rows .i64 (t)))), (1, .c (.int .i64 (m))), (2, .c (.ro (.ints .i64 (g)))), (7, .c (.own (11))), (8, .c (.int .i64 ((i : Int))))], [(11, some (.rows 0 24 2 .i64 ((tabR t.length (cbF t m g)).take i)))]⟩) (fun i => i ≤ t.length) (fun i => t.length - i) (fun i => fun b_ => match b_ with | 2 => some (Ann.mk ((Nat)) (fun j => ⟨[(0, .c (.ro (.rows .i64 (t)))), (1, .c (.int .i64 (m))), (2, .c (.ro (.ints .i64 (g)))), (7, .c (.own (11))), (8, .c (.int .i64 ((i : Int)))), (9, .c (.own (18))), (10, .c (.int .i64 ((j : Int))))], [(11, some (.rows 0 24 2 .i64 ((tabR t.length (cbF t m g)).take i))), (18, some (.ints 2 .i64 ((tab t.length (cbF t m g i)).take j)))]⟩) (fun j => j ≤ t.length ∧ i < t.length) (fun j => t.length - j) (fun _ => noAnn)) | _ => none))
  | _ => none
def l14Bound_G : List (Nat × Ctr) := []
def l14Bound_V (t : List (List Int)) (m : Int) (g : List Int) : Prop :=
  ((∃ x0 : Nat, ((x0 ≤ List.length t) ∧
  ((t = t) ∧
  ((m = m) ∧
  ((g = g) ∧
  (((0 : Int) = (↑x0 : Int)) ∧
  ([] = List.take x0 (Go.Sx.tabR (List.length t) (Go.Sx.cbF t m g))))))))) ∧
  (∀ x1 : Nat, ((x1 ≤ List.length t) →
  (BrP (Decidable.decide ((↑x1 : Int) < (↑(List.length t) : Int)))
    ((∃ x2 : Nat, (((x2 ≤ List.length t) ∧
    (x1 < List.length t)) ∧
    ((t = t) ∧
    ((m = m) ∧
    ((g = g) ∧
    (((↑x1 : Int) = (↑x1 : Int)) ∧
    (((0 : Int) = (↑x2 : Int)) ∧
    ((List.take x1 (Go.Sx.tabR (List.length t) (Go.Sx.cbF t m g)) = List.take x1 (Go.Sx.tabR (List.length t) (Go.Sx.cbF t m g))) ∧
    ([] = List.take x2 (Go.Sx.tab (List.length t) (Go.Sx.cbF t m g x1))))))))))) ∧
    (∀ x3 : Nat, (((x3 ≤ List.length t) ∧
    (x1 < List.length t)) →
    (BrP (Decidable.decide ((↑x3 : Int) < (↑(List.length t) : Int)))
      ((Go.Sx.inB (↑x1 : Int) (List.length t)) ∧
      ((Go.Sx.inB (↑x3 : Int) (List.length (List.getD t (Int.toNat (↑x1 : Int)) []))) ∧
      ((Go.Sx.inB (List.getD (List.getD t (Int.toNat (↑x1 : Int)) []) (Int.toNat (↑x3 : Int)) (0 : Int)) (List.length g)) ∧
      ((Go.Sx.inB (↑x3 : Int) (List.length g)) ∧
      ((Go.Sx.InR (List.getD g (Int.toNat (List.getD (List.getD t (Int.toNat (↑x1 : Int)) []) (Int.toNat (↑x3 : Int)) (0 : Int))) (0 : Int) - List.getD g (Int.toNat (↑x3 : Int)) (0 : Int))) ∧
      ((Go.Sx.InR (List.getD g (Int.toNat (List.getD (List.getD t (Int.toNat (↑x1 : Int)) []) (Int.toNat (↑x3 : Int)) (0 : Int))) (0 : Int) - List.getD g (Int.toNat (↑x3 : Int)) (0 : Int) + m)) ∧
      ((m ≠ (0 : Int)) ∧
      ((Go.Sx.room (List.length (List.take x3 (Go.Sx.tab (List.length t) (Go.Sx.cbF t m g x1))) + List.length [Int.tmod (List.getD g (Int.toNat (List.getD (List.getD t (Int.toNat (↑x1 : Int)) []) (Int.toNat (↑x3 : Int)) (0 : Int))) (0 : Int) - List.getD g (Int.toNat (↑x3 : Int)) (0 : Int) + m) m])) ∧
      ((Go.Sx.InR ((↑x3 : Int) + (1 : Int))) ∧
      (∃ x4 : Nat, (((x4 ≤ List.length t) ∧
      (x1 < List.length t)) ∧
      ((List.length t - x4 < List.length t - x3) ∧
      ((t = t) ∧
      ((m = m) ∧
      ((g = g) ∧
      (((↑x1 : Int) = (↑x1 : Int)) ∧
      (((↑x3 : Int) + (1 : Int) = (↑x4 : Int)) ∧
      ((List.take x1 (Go.Sx.tabR (List.length t) (Go.Sx.cbF t m g)) = List.take x1 (Go.Sx.tabR (List.length t) (Go.Sx.cbF t m g))) ∧
      (List.take x3 (Go.Sx.tab (List.length t) (Go.Sx.cbF t m g x1)) ++ [Int.tmod (List.getD g (Int.toNat (List.getD (List.getD t (Int.toNat (↑x1 : Int)) []) (Int.toNat (↑x3 : Int)) (0 : Int))) (0 : Int) - List.getD g (Int.toNat (↑x3 : Int)) (0 : Int) + m) m] = List.take x4 (Go.Sx.tab (List.length t) (Go.Sx.cbF t m g x1)))))))))))))))))))))
      ((Go.Sx.room (List.length (List.take x1 (Go.Sx.tabR (List.length t) (Go.Sx.cbF t m g))) + List.length [List.take x3 (Go.Sx.tab (List.length t) (Go.Sx.cbF t m g x1))])) ∧
      ((Go.Sx.InR ((↑x1 : Int) + (1 : Int))) ∧
      (∃ x5 : Nat, ((x5 ≤ List.length t) ∧
      ((List.length t - x5 < List.length t - x1) ∧
      ((t = t) ∧
      ((m = m) ∧
      ((g = g) ∧
      (((↑x1 : Int) + (1 : Int) = (↑x5 : Int)) ∧
      (List.take x1 (Go.Sx.tabR (List.length t) (Go.Sx.cbF t m g)) ++ [List.take x3 (Go.Sx.tab (List.length t) (Go.Sx.cbF t m g x1))] = List.take x5 (Go.Sx.tabR (List.length t) (Go.Sx.cbF t m g))))))))))))))))
    ((List.take x1 (Go.Sx.tabR (List.length t) (Go.Sx.cbF t m g)) = Go.Sx.tabR (List.length t) (Go.Sx.cbF t m g)) ∧
    (True))))))
theorem l14Bound_vc (t : List (List Int)) (m : Int) (g : List Int) : runF Try.prog (gam l14Bound_G) noWr (l14Bound_ann t m g) Try.f56 (bodyOf Try.f56) [] [.c (.rows .i64 (t)), .c (.int .i64 (m)), .c (.ints .i64 (g))] (l14Bound_p t m g) = l14Bound_V t m g := by kernel_rfl
theorem l14Bound_ok (t : List (List Int)) (m : Int) (g : List Int) (hpre : (l14Bound_p t m g).pre) : l14Bound_V t m g := by
  simp only [l14Bound_p, l14Bound_V, BrP_iff, true_and, and_true, decide_eq_true_eq, decide_eq_false_iff_not, bne_iff_ne, beq_iff_eq, bne_eq_false_iff_eq, beq_eq_false_iff_ne, Bool.not_eq_true, Bool.not_eq_false, Bool.not_true, Bool.not_false, Bool.not_eq_eq_eq_not, Int.toNat_natCast, List.length_append, List.length_take, List.length_replicate, List.length_set, List.length_map, List.length_drop, List.length_nil, List.length_cons, markL_length, inB, InR, room, bdsOk] at hpre ⊢
  obtain ⟨h1, h2⟩ := hpre
  have ht := tabB_of h1
  have hT := tabR_length t.length (cbF t m g)
  have hr : ∀ i : Nat, (tab t.length (cbF t m g i)).length = t.length := fun i => tab_length _ _
  refine ⟨⟨0, by omega, rfl, by simp⟩, fun i hi => ⟨fun h => ⟨⟨0, by omega, rfl, by simp⟩, fun j ⟨hj, _⟩ => ⟨fun h3 => ?_, fun h3 => ?_⟩⟩, fun h => List.take_of_length_le (by omega)⟩⟩
  · have q := cb_in h1 h2 i j (by omega) (by omega)
    have := hr i
    refine ⟨by omega, by omega, by omega, by omega, by omega, by omega, by omega, by omega, by omega, j + 1, by omega, by omega, by omega, ?_⟩
    rw [← take_snoc _ 0 j (by omega), tab_getD _ _ _ (by omega)]
    rfl
  · refine ⟨by omega, by omega, i + 1, by omega, by omega, by omega, ?_⟩
    have e : (tab t.length (cbF t m g i)).take j = tab t.length (cbF t m g i) := List.take_of_length_le (by rw [hr]; omega)
    rw [← take_snoc _ [] i (by omega), tabR_getD _ _ _ (by omega), e]
theorem l14Bound_fits : Fits Try.prog 56 ⟨[], l14Bound_ct⟩ := by
  refine fits_fn (Γ := gam l14Bound_G) gok_nil Try.func56 (by kernel_rfl) (by kernel_rfl) (by kernel_rfl) fun ds p h hp => ?_
  unfold l14Bound_ct at h
  split at h
  · cases h
    exact ⟨noWr, l14Bound_ann _ _ _ , by rw [l14Bound_vc]; exact l14Bound_ok _ _ _  hp⟩
  · cases h

def cbC (t : List (List Int)) (m : Int) (g : List Int) : List (List Int) × Int :=
  if tabB t = true then (if shiftB (t.length : Int) m g = true then (tabR t.length (cbF t m g), 0) else ([], 2)) else ([], 1)

theorem cbC_nt {t : List (List Int)} {m : Int} {g : List Int} (h : tabB t = false) : [] = (cbC t m g).1 ∧ 1 = (cbC t m g).2 := by simp [cbC, h]
theorem cbC_ns {t : List (List Int)} {m : Int} {g : List Int} (h : tabB t = true) (h2 : shiftB (t.length : Int) m g = false) : [] = (cbC t m g).1 ∧ 2 = (cbC t m g).2 := by simp [cbC, h, h2]
theorem cbC_yes {t : List (List Int)} {m : Int} {g : List Int} (h : tabB t = true) (h2 : shiftB (t.length : Int) m g = true) : tabR t.length (cbF t m g) = (cbC t m g).1 ∧ 0 = (cbC t m g).2 := by simp [cbC, h, h2]

theorem cbC_room (t : List (List Int)) (m : Int) (g : List Int) : roomR (cbC t m g).1 := by
  unfold cbC
  split
  · split
    · rename_i h _
      have := tabB_of h
      exact tabR_room _ _ (by omega)
    · exact ⟨by simp, by simp⟩
  · exact ⟨by simp, by simp⟩

theorem cbC_len (t : List (List Int)) (m : Int) (g : List Int) : (cbC t m g).1.length ≤ 1048576 := by
  unfold cbC
  split
  · split
    · rename_i h _
      have := tabB_of h
      simp only [tabR_length]; omega
    · simp
  · simp

theorem cbC_sum (t : List (List Int)) (m : Int) (g : List Int) : sumL (cbC t m g).1 ≤ 1048576 := by
  unfold cbC
  split
  · split
    · rename_i h _
      have := tabB_of h
      exact Nat.le_trans (tabR_sum _ _ (by omega)) (by omega)
    · simp [sumL]
  · simp [sumL]




end Go.Sx

