/- Contracts on the way of CoboundaryOf. -/
import Derived.Test.YtclhpegldfcemaaTable
open Go Go.Proofs
namespace Go.Sx
set_option linter.unusedSimpArgs false
set_option linter.unusedVariables false

def cbF (t : List (List Int)) (m : Int) (g : List Int) (x y : Nat) : Int := (g.getD ((t.getD x []).getD y 0).toNat 0 - g.getD y 0 + m).tmod m

theorem cb_in {t : List (List Int)} {m : Int} {g : List Int} (h1 : tabB t = true) (h2 : shiftB (t.length : Int) m g = true) (x y : Nat) (hx : x < t.length) (hy : y < t.length) :
    1 ≤ m ∧ m ≤ 12 ∧ (g.length : Int) = (t.length : Int) ∧ (t.getD x []).length = t.length ∧ 0 ≤ (t.getD x []).getD y 0 ∧ (t.getD x []).getD y 0 ≤ (t.length : Int) - 1 ∧
    0 ≤ g.getD ((t.getD x []).getD y 0).toNat 0 ∧ g.getD ((t.getD x []).getD y 0).toNat 0 ≤ m - 1 ∧ 0 ≤ g.getD y 0 ∧ g.getD y 0 ≤ m - 1 := by
  obtain ⟨_, _, a⟩ := tabB_of h1
  obtain ⟨b, c⟩ := a x hx
  have d := c y hy
  obtain ⟨e, f, k, l⟩ := shiftB_of h2
  have u := l ((t.getD x []).getD y 0).toNat (by omega)
  have v := l y (by omega)
  exact ⟨e, f, k, b, d.1, d.2, u.1, u.2, v.1, v.2⟩

def coboundary1_p (x : Int) (y : Int) (g : List Int) (t : List (List Int)) (m : Int) : Post := ⟨tabB t = true ∧ shiftB (t.length : Int) m g = true ∧ 0 ≤ x ∧ x < (t.length : Int) ∧ 0 ≤ y ∧ y < (t.length : Int), .c (.int .i64 (cbF t m g x.toNat y.toNat)), []⟩
def coboundary1_ct : List AD → Option Post
  | [.c (.int .i64 (x)), .c (.int .i64 (y)), .box [.ints .i64 (g)], .box [.rows .i64 (t)], .box [.int .i64 (m)]] => some (coboundary1_p x y g t m)
  | _ => none
def coboundary1_G : List (Nat × Ctr) := []
def coboundary1_V (x : Int) (y : Int) (g : List Int) (t : List (List Int)) (m : Int) : Prop :=
  ((Go.Sx.inB x (List.length t)) ∧
  ((Go.Sx.inB y (List.length (List.getD t (Int.toNat x) []))) ∧
  ((Go.Sx.inB (List.getD (List.getD t (Int.toNat x) []) (Int.toNat y) (0 : Int)) (List.length g)) ∧
  ((Go.Sx.inB y (List.length g)) ∧
  ((Go.Sx.InR (List.getD g (Int.toNat (List.getD (List.getD t (Int.toNat x) []) (Int.toNat y) (0 : Int))) (0 : Int) - List.getD g (Int.toNat y) (0 : Int))) ∧
  ((Go.Sx.InR (List.getD g (Int.toNat (List.getD (List.getD t (Int.toNat x) []) (Int.toNat y) (0 : Int))) (0 : Int) - List.getD g (Int.toNat y) (0 : Int) + m)) ∧
  ((m ≠ (0 : Int)) ∧
  ((Int.tmod (List.getD g (Int.toNat (List.getD (List.getD t (Int.toNat x) []) (Int.toNat y) (0 : Int))) (0 : Int) - List.getD g (Int.toNat y) (0 : Int) + m) m = Go.Sx.cbF t m g (Int.toNat x) (Int.toNat y)) ∧
  (True)))))))))
theorem coboundary1_vc (x : Int) (y : Int) (g : List Int) (t : List (List Int)) (m : Int) : runF Try.prog (gam coboundary1_G) noWr noAnn Try.f181 (bodyOf Try.f181) [] [.c (.int .i64 (x)), .c (.int .i64 (y)), .box [.ints .i64 (g)], .box [.rows .i64 (t)], .box [.int .i64 (m)]] (coboundary1_p x y g t m) = coboundary1_V x y g t m := by kernel_rfl
theorem coboundary1_ok (x : Int) (y : Int) (g : List Int) (t : List (List Int)) (m : Int) (hpre : (coboundary1_p x y g t m).pre) : coboundary1_V x y g t m := by
  simp only [coboundary1_p, coboundary1_V, BrP_iff, true_and, and_true, decide_eq_true_eq, decide_eq_false_iff_not, bne_iff_ne, beq_iff_eq, bne_eq_false_iff_eq, beq_eq_false_iff_ne, Bool.not_eq_true, Bool.not_eq_false, Bool.not_true, Bool.not_false, Bool.not_eq_eq_eq_not, Int.toNat_natCast, List.length_append, List.length_take, List.length_replicate, List.length_set, List.length_map, List.length_drop, List.length_nil, List.length_cons, markL_length, inB, InR, room, bdsOk] at hpre ⊢
  obtain ⟨h1, h2, hx1, hx2, hy1, hy2⟩ := hpre
  have q := cb_in h1 h2 x.toNat y.toNat (by omega) (by omega)
  exact ⟨by omega, by omega, by omega, by omega, by omega, by omega, by omega, rfl⟩
theorem coboundary1_fits : Fits Try.prog 181 ⟨[], coboundary1_ct⟩ := by
  refine fits_fn (Γ := gam coboundary1_G) gok_nil Try.func181 (by kernel_rfl) (by kernel_rfl) (by kernel_rfl) fun ds p h hp => ?_
  unfold coboundary1_ct at h
  split at h
  · cases h
    exact ⟨noWr, noAnn, by rw [coboundary1_vc]; exact coboundary1_ok _ _ _ _ _  hp⟩
  · cases h

def coboundary_p (t : List (List Int)) (m : Int) (g : List Int) : Post := ⟨tabB t = true ∧ shiftB (t.length : Int) m g = true, .c (.rows 23 2 .i64 (tabR t.length (cbF t m g))), []⟩
def coboundary_ct : List AD → Option Post
  | [.c (.rows .i64 (t)), .c (.int .i64 (m)), .c (.ints .i64 (g))] => some (coboundary_p t m g)
  | _ => none
def coboundary_G : List (Nat × Ctr) := [(108, ⟨[], tableBy_ct⟩), (181, ⟨[], coboundary1_ct⟩)]
def coboundary_V (t : List (List Int)) (m : Int) (g : List Int) : Prop :=
  (((((0 : Int) ≤ (↑(List.length t) : Int)) ∧
  (((↑(List.length t) : Int) ≤ (144 : Int)) ∧
  (∀ (x y : Int), (0 : Int) ≤ x → x < (↑(List.length t) : Int) → (0 : Int) ≤ y → y < (↑(List.length t) : Int) → Go.Sx.ctQI (Go.Sx.coboundary1_ct [Go.Sx.AD.c (Go.Sx.FC.int Go.IntKind.i64 x), Go.Sx.AD.c (Go.Sx.FC.int Go.IntKind.i64 y), Go.Sx.AD.box [Go.Sx.FC.ints Go.IntKind.i64 g], Go.Sx.AD.box [Go.Sx.FC.rows Go.IntKind.i64 t], Go.Sx.AD.box [Go.Sx.FC.int Go.IntKind.i64 m]])))) ∧
  (True)) ∧
  (((Go.Sx.tabR (Int.toNat (↑(List.length t) : Int)) fun (x y : Nat) => Go.Sx.ctI (Go.Sx.coboundary1_ct [Go.Sx.AD.c (Go.Sx.FC.int Go.IntKind.i64 (↑x : Int)), Go.Sx.AD.c (Go.Sx.FC.int Go.IntKind.i64 (↑y : Int)), Go.Sx.AD.box [Go.Sx.FC.ints Go.IntKind.i64 g], Go.Sx.AD.box [Go.Sx.FC.rows Go.IntKind.i64 t], Go.Sx.AD.box [Go.Sx.FC.int Go.IntKind.i64 m]])) = Go.Sx.tabR (List.length t) (Go.Sx.cbF t m g)) ∧
  (True)))
theorem coboundary_vc (t : List (List Int)) (m : Int) (g : List Int) : runF Try.prog (gam coboundary_G) noWr noAnn Try.f105 (bodyOf Try.f105) [] [.c (.rows .i64 (t)), .c (.int .i64 (m)), .c (.ints .i64 (g))] (coboundary_p t m g) = coboundary_V t m g := by kernel_rfl
theorem coboundary_ok (t : List (List Int)) (m : Int) (g : List Int) (hpre : (coboundary_p t m g).pre) : coboundary_V t m g := by
  simp only [coboundary_p, coboundary_V, BrP_iff, true_and, and_true, decide_eq_true_eq, decide_eq_false_iff_not, bne_iff_ne, beq_iff_eq, bne_eq_false_iff_eq, beq_eq_false_iff_ne, Bool.not_eq_true, Bool.not_eq_false, Bool.not_true, Bool.not_false, Bool.not_eq_eq_eq_not, Int.toNat_natCast, List.length_append, List.length_take, List.length_replicate, List.length_set, List.length_map, List.length_drop, List.length_nil, List.length_cons, markL_length, inB, InR, room, bdsOk] at hpre ⊢
  obtain ⟨h1, h2⟩ := hpre
  have ht := tabB_of h1
  exact ⟨⟨by omega, by omega, fun x y a b c d => ⟨h1, h2, a, b, c, d⟩⟩, tabR_ext fun x y hx hy => rfl⟩
theorem coboundary_fits : Fits Try.prog 105 ⟨[], coboundary_ct⟩ := by
  refine fits_fn (Γ := gam coboundary_G) (gok_cons tableBy_fits (gok_cons coboundary1_fits gok_nil)) Try.func105 (by kernel_rfl) (by kernel_rfl) (by kernel_rfl) fun ds p h hp => ?_
  unfold coboundary_ct at h
  split at h
  · cases h
    exact ⟨noWr, noAnn, by rw [coboundary_vc]; exact coboundary_ok _ _ _  hp⟩
  · cases h

def l14Bound_p (t : List (List Int)) (m : Int) (g : List Int) : Post := ⟨tabB t = true ∧ shiftB (t.length : Int) m g = true, .c (.rows 23 2 .i64 (tabR t.length (cbF t m g))), []⟩
def l14Bound_ct : List AD → Option Post
  | [.c (.rows .i64 (t)), .c (.int .i64 (m)), .c (.ints .i64 (g))] => some (l14Bound_p t m g)
  | _ => none
def l14Bound_ann (t : List (List Int)) (m : Int) (g : List Int) : Nat → Option Ann
  | 0 => some (Ann.mk ((Nat)) (fun i => ⟨[(0, .c (.ro (.rows .i64 (t)))), (1, .c (.int .i64 (m))), (2, .c (.ro (.ints .i64 (g)))), (7, .c (.own (11))), (8, .c (.int .i64 ((i : Int))))], [(11, some (.rows 0 23 2 .i64 ((tabR t.length (cbF t m g)).take i)))]⟩) (fun i => i ≤ t.length) (fun i => t.length - i) (fun i => fun b_ => match b_ with | 2 => some (Ann.mk ((Nat)) (fun j => ⟨[(0, .c (.ro (.rows .i64 (t)))), (1, .c (.int .i64 (m))), (2, .c (.ro (.ints .i64 (g)))), (7, .c (.own (11))), (8, .c (.int .i64 ((i : Int)))), (9, .c (.own (18))), (10, .c (.int .i64 ((j : Int))))], [(11, some (.rows 0 23 2 .i64 ((tabR t.length (cbF t m g)).take i))), (18, some (.ints 2 .i64 ((tab t.length (cbF t m g i)).take j)))]⟩) (fun j => j ≤ t.length ∧ i < t.length) (fun j => t.length - j) (fun _ => noAnn)) | _ => none))
  | _ => none
def l14Bound_G : List (Nat × Ctr) := []
def l14Bound_V (t : List (List Int)) (m : Int) (g : List Int) : Prop :=
  ((∃ x0 : Nat, ((x0 ≤ List.length t) ∧
  ((t = t) ∧
  ((m = m) ∧
  ((g = g) ∧
  (((0 : Int) = (↑x0 : Int)) ∧
  ([] = List.take x0 (Go.Sx.tabR (List.length t) (Go.Sx.cbF t m g))))))))) ∧
  (∀ x1 : Nat, ((x1 ≤ List.length t) →
  (BrP (Decidable.decide ((↑x1 : Int) < (↑(List.length t) : Int)))
    ((∃ x2 : Nat, (((x2 ≤ List.length t) ∧
    (x1 < List.length t)) ∧
    ((t = t) ∧
    ((m = m) ∧
    ((g = g) ∧
    (((↑x1 : Int) = (↑x1 : Int)) ∧
    (((0 : Int) = (↑x2 : Int)) ∧
    ((List.take x1 (Go.Sx.tabR (List.length t) (Go.Sx.cbF t m g)) = List.take x1 (Go.Sx.tabR (List.length t) (Go.Sx.cbF t m g))) ∧
    ([] = List.take x2 (Go.Sx.tab (List.length t) (Go.Sx.cbF t m g x1))))))))))) ∧
    (∀ x3 : Nat, (((x3 ≤ List.length t) ∧
    (x1 < List.length t)) →
    (BrP (Decidable.decide ((↑x3 : Int) < (↑(List.length t) : Int)))
      ((Go.Sx.inB (↑x1 : Int) (List.length t)) ∧
      ((Go.Sx.inB (↑x3 : Int) (List.length (List.getD t (Int.toNat (↑x1 : Int)) []))) ∧
      ((Go.Sx.inB (List.getD (List.getD t (Int.toNat (↑x1 : Int)) []) (Int.toNat (↑x3 : Int)) (0 : Int)) (List.length g)) ∧
      ((Go.Sx.inB (↑x3 : Int) (List.length g)) ∧
      ((Go.Sx.InR (List.getD g (Int.toNat (List.getD (List.getD t (Int.toNat (↑x1 : Int)) []) (Int.toNat (↑x3 : Int)) (0 : Int))) (0 : Int) - List.getD g (Int.toNat (↑x3 : Int)) (0 : Int))) ∧
      ((Go.Sx.InR (List.getD g (Int.toNat (List.getD (List.getD t (Int.toNat (↑x1 : Int)) []) (Int.toNat (↑x3 : Int)) (0 : Int))) (0 : Int) - List.getD g (Int.toNat (↑x3 : Int)) (0 : Int) + m)) ∧
      ((m ≠ (0 : Int)) ∧
      ((Go.Sx.room (List.length (List.take x3 (Go.Sx.tab (List.length t) (Go.Sx.cbF t m g x1))) + List.length [Int.tmod (List.getD g (Int.toNat (List.getD (List.getD t (Int.toNat (↑x1 : Int)) []) (Int.toNat (↑x3 : Int)) (0 : Int))) (0 : Int) - List.getD g (Int.toNat (↑x3 : Int)) (0 : Int) + m) m])) ∧
      ((Go.Sx.InR ((↑x3 : Int) + (1 : Int))) ∧
      (∃ x4 : Nat, (((x4 ≤ List.length t) ∧
      (x1 < List.length t)) ∧
      ((List.length t - x4 < List.length t - x3) ∧
      ((t = t) ∧
      ((m = m) ∧
      ((g = g) ∧
      (((↑x1 : Int) = (↑x1 : Int)) ∧
      (((↑x3 : Int) + (1 : Int) = (↑x4 : Int)) ∧
      ((List.take x1 (Go.Sx.tabR (List.length t) (Go.Sx.cbF t m g)) = List.take x1 (Go.Sx.tabR (List.length t) (Go.Sx.cbF t m g))) ∧
      (List.take x3 (Go.Sx.tab (List.length t) (Go.Sx.cbF t m g x1)) ++ [Int.tmod (List.getD g (Int.toNat (List.getD (List.getD t (Int.toNat (↑x1 : Int)) []) (Int.toNat (↑x3 : Int)) (0 : Int))) (0 : Int) - List.getD g (Int.toNat (↑x3 : Int)) (0 : Int) + m) m] = List.take x4 (Go.Sx.tab (List.length t) (Go.Sx.cbF t m g x1)))))))))))))))))))))
      ((Go.Sx.room (List.length (List.take x1 (Go.Sx.tabR (List.length t) (Go.Sx.cbF t m g))) + List.length [List.take x3 (Go.Sx.tab (List.length t) (Go.Sx.cbF t m g x1))])) ∧
      ((Go.Sx.InR ((↑x1 : Int) + (1 : Int))) ∧
      (∃ x5 : Nat, ((x5 ≤ List.length t) ∧
      ((List.length t - x5 < List.length t - x1) ∧
      ((t = t) ∧
      ((m = m) ∧
      ((g = g) ∧
      (((↑x1 : Int) + (1 : Int) = (↑x5 : Int)) ∧
      (List.take x1 (Go.Sx.tabR (List.length t) (Go.Sx.cbF t m g)) ++ [List.take x3 (Go.Sx.tab (List.length t) (Go.Sx.cbF t m g x1))] = List.take x5 (Go.Sx.tabR (List.length t) (Go.Sx.cbF t m g))))))))))))))))
    ((List.take x1 (Go.Sx.tabR (List.length t) (Go.Sx.cbF t m g)) = Go.Sx.tabR (List.length t) (Go.Sx.cbF t m g)) ∧
    (True))))))
theorem l14Bound_vc (t : List (List Int)) (m : Int) (g : List Int) : runF Try.prog (gam l14Bound_G) noWr (l14Bound_ann t m g) Try.f102 (bodyOf Try.f102) [] [.c (.rows .i64 (t)), .c (.int .i64 (m)), .c (.ints .i64 (g))] (l14Bound_p t m g) = l14Bound_V t m g := by kernel_rfl
theorem l14Bound_ok (t : List (List Int)) (m : Int) (g : List Int) (hpre : (l14Bound_p t m g).pre) : l14Bound_V t m g := by
  simp only [l14Bound_p, l14Bound_V, BrP_iff, true_and, and_true, decide_eq_true_eq, decide_eq_false_iff_not, bne_iff_ne, beq_iff_eq, bne_eq_false_iff_eq, beq_eq_false_iff_ne, Bool.not_eq_true, Bool.not_eq_false, Bool.not_true, Bool.not_false, Bool.not_eq_eq_eq_not, Int.toNat_natCast, List.length_append, List.length_take, List.length_replicate, List.length_set, List.length_map, List.length_drop, List.length_nil, List.length_cons, markL_length, inB, InR, room, bdsOk] at hpre ⊢
  obtain ⟨h1, h2⟩ := hpre
  have ht := tabB_of h1
  have hT := tabR_length t.length (cbF t m g)
  have hr : ∀ i : Nat, (tab t.length (cbF t m g i)).length = t.length := fun i => tab_length _ _
  refine ⟨⟨0, by omega, rfl, by simp⟩, fun i hi => ⟨fun h => ⟨⟨0, by omega, rfl, by simp⟩, fun j ⟨hj, _⟩ => ⟨fun h3 => ?_, fun h3 => ?_⟩⟩, fun h => List.take_of_length_le (by omega)⟩⟩
  · have q := cb_in h1 h2 i j (by omega) (by omega)
    have := hr i
    refine ⟨by omega, by omega, by omega, by omega, by omega, by omega, by omega, by omega, by omega, j + 1, by omega, by omega, by omega, ?_⟩
    rw [← take_snoc _ 0 j (by omega), tab_getD _ _ _ (by omega)]
    rfl
  · refine ⟨by omega, by omega, i + 1, by omega, by omega, by omega, ?_⟩
    have e : (tab t.length (cbF t m g i)).take j = tab t.length (cbF t m g i) := List.take_of_length_le (by rw [hr]; omega)
    rw [← take_snoc _ [] i (by omega), tabR_getD _ _ _ (by omega), e]
theorem l14Bound_fits : Fits Try.prog 102 ⟨[], l14Bound_ct⟩ := by
  refine fits_fn (Γ := gam l14Bound_G) gok_nil Try.func102 (by kernel_rfl) (by kernel_rfl) (by kernel_rfl) fun ds p h hp => ?_
  unfold l14Bound_ct at h
  split at h
  · cases h
    exact ⟨noWr, l14Bound_ann _ _ _ , by rw [l14Bound_vc]; exact l14Bound_ok _ _ _  hp⟩
  · cases h

def cbC (t : List (List Int)) (m : Int) (g : List Int) : List (List Int) × Int :=
  if tabB t = true then (if shiftB (t.length : Int) m g = true then (tabR t.length (cbF t m g), 0) else ([], 2)) else ([], 1)

theorem cbC_nt {t : List (List Int)} {m : Int} {g : List Int} (h : tabB t = false) : [] = (cbC t m g).1 ∧ 1 = (cbC t m g).2 := by simp [cbC, h]
theorem cbC_ns {t : List (List Int)} {m : Int} {g : List Int} (h : tabB t = true) (h2 : shiftB (t.length : Int) m g = false) : [] = (cbC t m g).1 ∧ 2 = (cbC t m g).2 := by simp [cbC, h, h2]
theorem cbC_yes {t : List (List Int)} {m : Int} {g : List Int} (h : tabB t = true) (h2 : shiftB (t.length : Int) m g = true) : tabR t.length (cbF t m g) = (cbC t m g).1 ∧ 0 = (cbC t m g).2 := by simp [cbC, h, h2]

theorem cbC_room (t : List (List Int)) (m : Int) (g : List Int) : roomR (cbC t m g).1 := by
  unfold cbC
  split
  · split
    · rename_i h _
      have := tabB_of h
      exact tabR_room _ _ (by omega)
    · exact ⟨by simp, by simp⟩
  · exact ⟨by simp, by simp⟩

theorem cbC_len (t : List (List Int)) (m : Int) (g : List Int) : (cbC t m g).1.length ≤ 1048576 := by
  unfold cbC
  split
  · split
    · rename_i h _
      have := tabB_of h
      simp only [tabR_length]; omega
    · simp
  · simp

theorem cbC_sum (t : List (List Int)) (m : Int) (g : List Int) : sumL (cbC t m g).1 ≤ 1048576 := by
  unfold cbC
  split
  · split
    · rename_i h _
      have := tabB_of h
      exact Nat.le_trans (tabR_sum _ _ (by omega)) (by omega)
    · simp [sumL]
  · simp [sumL]

def sCob_p (t : List (List Int)) (m : Int) (g : List Int) : Post := ⟨roomR t ∧ g.length ≤ 1099511627776, .tup [.inl (.rows 23 2 .i64 ((cbC t m g).1)), .inl (.int .i64 ((cbC t m g).2))], []⟩
def sCob_ct : List AD → Option Post
  | [.c (.rows .i64 (t)), .c (.int .i64 (m)), .c (.ints .i64 (g))] => some (sCob_p t m g)
  | _ => none
def sCob_G : List (Nat × Ctr) := [(99, ⟨[], l01Table_ct⟩), (100, ⟨[], l01In_ct⟩), (101, ⟨[], l14Numbers_ct⟩), (102, ⟨[], l14Bound_ct⟩)]
def sCob_V (t : List (List Int)) (m : Int) (g : List Int) : Prop :=
  (((Go.Sx.roomR t) ∧
  (True)) ∧
  (BrP (!Go.Sx.tabB t)
    ((([] = Prod.fst (Go.Sx.cbC t m g)) ∧
    (((1 : Int) = Prod.snd (Go.Sx.cbC t m g)) ∧
    (True))) ∧
    (True))
    (((True) ∧
    (True)) ∧
    (BrP (!Decidable.decide ((1 : Int) ≤ m ∧ m ≤ (12 : Int)))
      ((([] = Prod.fst (Go.Sx.cbC t m g)) ∧
      (((2 : Int) = Prod.snd (Go.Sx.cbC t m g)) ∧
      (True))) ∧
      (True))
      (((((1 : Int) ≤ m) ∧
      ((m ≤ (12 : Int)) ∧
      (Go.Sx.room (List.length g)))) ∧
      (True)) ∧
      (BrP (!Go.Sx.numsB (↑(List.length t) : Int) m g)
        ((([] = Prod.fst (Go.Sx.cbC t m g)) ∧
        (((2 : Int) = Prod.snd (Go.Sx.cbC t m g)) ∧
        (True))) ∧
        (True))
        ((((Go.Sx.tabB t = Bool.true) ∧
        (Go.Sx.shiftB (↑(List.length t) : Int) m g = Bool.true)) ∧
        (True)) ∧
        (((Go.Sx.tabR (List.length t) (Go.Sx.cbF t m g) = Prod.fst (Go.Sx.cbC t m g)) ∧
        (((0 : Int) = Prod.snd (Go.Sx.cbC t m g)) ∧
        (True))) ∧
        (True)))))))))
theorem sCob_vc (t : List (List Int)) (m : Int) (g : List Int) : runF Try.prog (gam sCob_G) noWr noAnn Try.f22 (bodyOf Try.f22) [] [.c (.rows .i64 (t)), .c (.int .i64 (m)), .c (.ints .i64 (g))] (sCob_p t m g) = sCob_V t m g := by kernel_rfl
theorem sCob_ok (t : List (List Int)) (m : Int) (g : List Int) (hpre : (sCob_p t m g).pre) : sCob_V t m g := by
  simp only [sCob_p, sCob_V, BrP_iff, true_and, and_true, decide_eq_true_eq, decide_eq_false_iff_not, bne_iff_ne, beq_iff_eq, bne_eq_false_iff_eq, beq_eq_false_iff_ne, Bool.not_eq_true, Bool.not_eq_false, Bool.not_true, Bool.not_false, Bool.not_eq_eq_eq_not, Int.toNat_natCast, List.length_append, List.length_take, List.length_replicate, List.length_set, List.length_map, List.length_drop, List.length_nil, List.length_cons, markL_length, inB, InR, room, bdsOk] at hpre ⊢
  refine ⟨hpre.1, fun h => cbC_nt h, fun h => ⟨fun h2 => cbC_ns h (by rw [shiftB, decide_eq_false h2]; rfl), fun h2 => ⟨⟨h2.1, h2.2, hpre.2⟩, fun h3 => cbC_ns h (by rw [shiftB, h3, Bool.and_false]), fun h3 => ?_⟩⟩⟩
  have h4 : shiftB (t.length : Int) m g = true := by rw [shiftB, decide_eq_true h2, h3]; rfl
  exact ⟨⟨h, h4⟩, cbC_yes h h4⟩
theorem sCob_fits : Fits Try.prog 22 ⟨[], sCob_ct⟩ := by
  refine fits_fn (Γ := gam sCob_G) (gok_cons l01Table_fits (gok_cons l01In_fits (gok_cons l14Numbers_fits (gok_cons l14Bound_fits gok_nil)))) Try.func22 (by kernel_rfl) (by kernel_rfl) (by kernel_rfl) fun ds p h hp => ?_
  unfold sCob_ct at h
  split at h
  · cases h
    exact ⟨noWr, noAnn, by rw [sCob_vc]; exact sCob_ok _ _ _  hp⟩
  · cases h

def iCob_p (t : List (List Int)) (m : Int) (g : List Int) : Post := ⟨roomR t ∧ g.length ≤ 1099511627776, .tup [.inl (.rows 23 2 .i64 ((cbC t m g).1)), .inl (.int .i64 ((cbC t m g).2))], []⟩
def iCob_ct : List AD → Option Post
  | [.c (.rows .i64 (t)), .c (.int .i64 (m)), .c (.ints .i64 (g))] => some (iCob_p t m g)
  | _ => none
def iCob_G : List (Nat × Ctr) := [(103, ⟨[], IsTable_ct⟩), (104, ⟨[], isShift_ct⟩), (105, ⟨[], coboundary_ct⟩)]
def iCob_V (t : List (List Int)) (m : Int) (g : List Int) : Prop :=
  (((Go.Sx.roomR t) ∧
  (True)) ∧
  (BrP (!Go.Sx.tabB t)
    ((([] = Prod.fst (Go.Sx.cbC t m g)) ∧
    (((1 : Int) = Prod.snd (Go.Sx.cbC t m g)) ∧
    (True))) ∧
    (True))
    (((Go.Sx.room (List.length g)) ∧
    (True)) ∧
    (BrP (!Go.Sx.shiftB (↑(List.length t) : Int) m g)
      ((([] = Prod.fst (Go.Sx.cbC t m g)) ∧
      (((2 : Int) = Prod.snd (Go.Sx.cbC t m g)) ∧
      (True))) ∧
      (True))
      ((((Go.Sx.tabB t = Bool.true) ∧
      (Go.Sx.shiftB (↑(List.length t) : Int) m g = Bool.true)) ∧
      (True)) ∧
      (((Go.Sx.tabR (List.length t) (Go.Sx.cbF t m g) = Prod.fst (Go.Sx.cbC t m g)) ∧
      (((0 : Int) = Prod.snd (Go.Sx.cbC t m g)) ∧
      (True))) ∧
      (True)))))))
theorem iCob_vc (t : List (List Int)) (m : Int) (g : List Int) : runF Try.prog (gam iCob_G) noWr noAnn Try.f25 (bodyOf Try.f25) [] [.c (.rows .i64 (t)), .c (.int .i64 (m)), .c (.ints .i64 (g))] (iCob_p t m g) = iCob_V t m g := by kernel_rfl
theorem iCob_ok (t : List (List Int)) (m : Int) (g : List Int) (hpre : (iCob_p t m g).pre) : iCob_V t m g := by
  simp only [iCob_p, iCob_V, BrP_iff, true_and, and_true, decide_eq_true_eq, decide_eq_false_iff_not, bne_iff_ne, beq_iff_eq, bne_eq_false_iff_eq, beq_eq_false_iff_ne, Bool.not_eq_true, Bool.not_eq_false, Bool.not_true, Bool.not_false, Bool.not_eq_eq_eq_not, Int.toNat_natCast, List.length_append, List.length_take, List.length_replicate, List.length_set, List.length_map, List.length_drop, List.length_nil, List.length_cons, markL_length, inB, InR, room, bdsOk] at hpre ⊢
  exact ⟨hpre.1, fun h => cbC_nt h, fun h => ⟨hpre.2, fun h3 => cbC_ns h h3, fun h3 => ⟨⟨h, h3⟩, cbC_yes h h3⟩⟩⟩
theorem iCob_fits : Fits Try.prog 25 ⟨[], iCob_ct⟩ := by
  refine fits_fn (Γ := gam iCob_G) (gok_cons IsTable_fits (gok_cons isShift_fits (gok_cons coboundary_fits gok_nil))) Try.func25 (by kernel_rfl) (by kernel_rfl) (by kernel_rfl) fun ds p h hp => ?_
  unfold iCob_ct at h
  split at h
  · cases h
    exact ⟨noWr, noAnn, by rw [iCob_vc]; exact iCob_ok _ _ _  hp⟩
  · cases h

def lCob_p (t : List (List Int)) (m : Int) (g : List Int) : Post := ⟨(t.length : Int) ≤ 9223372036854775807 ∧ (∀ r ∈ t, (r.length : Int) ≤ 9223372036854775807), .c (.bool (true)), []⟩
def lCob_ct : List AD → Option Post
  | [.c (.rows .i64 (t)), .c (.int .i64 (m)), .c (.ints .i64 (g))] => some (lCob_p t m g)
  | _ => none
def lCob_G : List (Nat × Ctr) := [(21, ⟨[], szInt64SS_ct⟩), (23, ⟨[], toInt64SS_ct⟩), (24, ⟨[], toInt64S_ct⟩), (26, ⟨[], eqInt64SS_ct⟩), (27, ⟨[], eqInt64S_ct⟩), (28, ⟨[(0, 0)], markInt64SS_ct⟩), (29, ⟨[(0, 0)], markInt64S_ct⟩), (30, ⟨[], heldInt64SS_ct⟩), (22, ⟨[], sCob_ct⟩), (25, ⟨[], iCob_ct⟩)]
def lCob_V (t : List (List Int)) (m : Int) (g : List Int) : Prop :=
  (BrP (Decidable.decide ((1048576 : Int) < (↑(List.length g) : Int)))
    ((Bool.true = Bool.true) ∧
    (True))
    (((((↑(List.length t) : Int) ≤ (9223372036854775807 : Int)) ∧
    ((∀ (r : List Int), r ∈ t → (↑(List.length r) : Int) ≤ (9223372036854775807 : Int)) ∧
    (((0 : Int) ≤ (1048576 : Int)) ∧
    ((1048576 : Int) ≤ (1099511627776 : Int))))) ∧
    (True)) ∧
    (BrP (Decidable.decide ((if (1048576 : Int) < (↑(List.length t) : Int) + (↑(Go.Sx.sumL t) : Int) then (-1 : Int) else (1048576 : Int) - (↑(List.length t) : Int) - (↑(Go.Sx.sumL t) : Int)) < (0 : Int)))
      ((Bool.true = Bool.true) ∧
      (True))
      (((Go.Sx.roomR t) ∧
      (True)) ∧
      (((Go.Sx.room (List.length g)) ∧
      (True)) ∧
      ((((Go.Sx.roomR t) ∧
      (List.length g ≤ (1099511627776 : Nat))) ∧
      (True)) ∧
      (((Go.Sx.roomR t) ∧
      (True)) ∧
      (((Go.Sx.room (List.length g)) ∧
      (True)) ∧
      ((((Go.Sx.roomR t) ∧
      (List.length g ≤ (1099511627776 : Nat))) ∧
      (True)) ∧
      (((Go.Sx.roomR (Prod.fst (Go.Sx.cbC t m g))) ∧
      (True)) ∧
      (BrP (!Decidable.decide (Prod.fst (Go.Sx.cbC t m g) = Prod.fst (Go.Sx.cbC t m g)))
        ((Bool.false = Bool.true) ∧
        (True))
        (BrP (Prod.snd (Go.Sx.cbC t m g) != Prod.snd (Go.Sx.cbC t m g))
          ((Bool.false = Bool.true) ∧
          (True))
          (((Go.Sx.roomR t) ∧
          (True)) ∧
          (((Go.Sx.roomR t) ∧
          (True)) ∧
          (BrP (!Decidable.decide (t = t))
            ((Bool.false = Bool.true) ∧
            (True))
            (((Go.Sx.room (List.length g)) ∧
            (True)) ∧
            (((Go.Sx.room (List.length g)) ∧
            (True)) ∧
            (BrP (!Decidable.decide (g = g))
              ((Bool.false = Bool.true) ∧
              (True))
              ((((List.length t ≤ (1048576 : Nat)) ∧
              ((Go.Sx.sumL t ≤ (1048576 : Nat)) ∧
              (((0 : Int) ≤ (1 : Int)) ∧
              ((1 : Int) ≤ (1073741824 : Int))))) ∧
              ((List.map List.length (Go.Sx.markR t (1 : Int)) = List.map List.length t) ∧
              (True))) ∧
              ((((Go.Sx.room (List.length g)) ∧
              (((0 : Int) ≤ (1 : Int) + (↑(Go.Sx.sumL t) : Int)) ∧
              ((1 : Int) + (↑(Go.Sx.sumL t) : Int) ≤ (1099511627776 : Int)))) ∧
              ((List.length (Go.Sx.markL ((1 : Int) + (↑(Go.Sx.sumL t) : Int)) (List.length g)) = List.length g) ∧
              (True))) ∧
              (BrP (Decidable.decide ((1 : Int) + (↑(Go.Sx.sumL t) : Int) + (↑(List.length g) : Int) < (0 : Int)))
                ((Bool.false = Bool.true) ∧
                (True))
                (((Go.Sx.roomR (Prod.fst (Go.Sx.cbC t m g))) ∧
                (True)) ∧
                (BrP (!Decidable.decide (Prod.fst (Go.Sx.cbC t m g) = Prod.fst (Go.Sx.cbC t m g)))
                  ((Bool.false = Bool.true) ∧
                  (True))
                  (BrP (Prod.snd (Go.Sx.cbC t m g) != Prod.snd (Go.Sx.cbC t m g))
                    ((Bool.false = Bool.true) ∧
                    (True))
                    ((((List.length (Prod.fst (Go.Sx.cbC t m g)) ≤ (1048576 : Nat)) ∧
                    ((Go.Sx.sumL (Prod.fst (Go.Sx.cbC t m g)) ≤ (1048576 : Nat)) ∧
                    (((0 : Int) ≤ (1 : Int)) ∧
                    ((1 : Int) ≤ (1073741824 : Int))))) ∧
                    ((List.map List.length (Go.Sx.markR (Prod.fst (Go.Sx.cbC t m g)) (1 : Int)) = List.map List.length (Prod.fst (Go.Sx.cbC t m g))) ∧
                    (True))) ∧
                    ((((List.length (Go.Sx.markR (Prod.fst (Go.Sx.cbC t m g)) (1 : Int)) ≤ (1048576 : Nat)) ∧
                    ((Go.Sx.sumL (Go.Sx.markR (Prod.fst (Go.Sx.cbC t m g)) (1 : Int)) ≤ (1048576 : Nat)) ∧
                    (((0 : Int) ≤ (1 : Int)) ∧
                    ((1 : Int) ≤ (1073741824 : Int))))) ∧
                    (True)) ∧
                    (BrP (Decidable.decide ((if Go.Sx.markR (Prod.fst (Go.Sx.cbC t m g)) (1 : Int) = Go.Sx.markR (Go.Sx.markR (Prod.fst (Go.Sx.cbC t m g)) (1 : Int)) (1 : Int) then (1 : Int) + (↑(Go.Sx.sumL (Go.Sx.markR (Prod.fst (Go.Sx.cbC t m g)) (1 : Int))) : Int) else (-1 : Int)) < (0 : Int)))
                      ((Bool.false = Bool.true) ∧
                      (True))
                      (BrP ((if Go.Sx.markR (Prod.fst (Go.Sx.cbC t m g)) (1 : Int) = Go.Sx.markR (Go.Sx.markR (Prod.fst (Go.Sx.cbC t m g)) (1 : Int)) (1 : Int) then (1 : Int) + (↑(Go.Sx.sumL (Go.Sx.markR (Prod.fst (Go.Sx.cbC t m g)) (1 : Int))) : Int) else (-1 : Int)) != (1 : Int) + (↑(Go.Sx.sumL (Prod.fst (Go.Sx.cbC t m g))) : Int))
                        ((Bool.false = Bool.true) ∧
                        (True))
                        (((Go.Sx.roomR t) ∧
                        (True)) ∧
                        (((Go.Sx.room (List.length g)) ∧
                        (True)) ∧
                        ((((Go.Sx.roomR t) ∧
                        (List.length g ≤ (1099511627776 : Nat))) ∧
                        (True)) ∧
                        (((Go.Sx.roomR (Prod.fst (Go.Sx.cbC t m g))) ∧
                        (True)) ∧
                        (BrP (!Decidable.decide (Prod.fst (Go.Sx.cbC t m g) = Prod.fst (Go.Sx.cbC t m g)))
                          ((Bool.false = Bool.true) ∧
                          (True))
                          (BrP (Prod.snd (Go.Sx.cbC t m g) != Prod.snd (Go.Sx.cbC t m g))
                            ((Bool.false = Bool.true) ∧
                            (True))
                            ((((List.length (Go.Sx.markR (Prod.fst (Go.Sx.cbC t m g)) (1 : Int)) ≤ (1048576 : Nat)) ∧
                            ((Go.Sx.sumL (Go.Sx.markR (Prod.fst (Go.Sx.cbC t m g)) (1 : Int)) ≤ (1048576 : Nat)) ∧
                            (((0 : Int) ≤ (1 : Int)) ∧
                            ((1 : Int) ≤ (1073741824 : Int))))) ∧
                            (True)) ∧
                            (BrP (Decidable.decide ((if Go.Sx.markR (Prod.fst (Go.Sx.cbC t m g)) (1 : Int) = Go.Sx.markR (Go.Sx.markR (Prod.fst (Go.Sx.cbC t m g)) (1 : Int)) (1 : Int) then (1 : Int) + (↑(Go.Sx.sumL (Go.Sx.markR (Prod.fst (Go.Sx.cbC t m g)) (1 : Int))) : Int) else (-1 : Int)) < (0 : Int)))
                              ((Bool.false = Bool.true) ∧
                              (True))
                              (BrP ((if Go.Sx.markR (Prod.fst (Go.Sx.cbC t m g)) (1 : Int) = Go.Sx.markR (Go.Sx.markR (Prod.fst (Go.Sx.cbC t m g)) (1 : Int)) (1 : Int) then (1 : Int) + (↑(Go.Sx.sumL (Go.Sx.markR (Prod.fst (Go.Sx.cbC t m g)) (1 : Int))) : Int) else (-1 : Int)) != (1 : Int) + (↑(Go.Sx.sumL (Prod.fst (Go.Sx.cbC t m g))) : Int))
                                ((Bool.false = Bool.true) ∧
                                (True))
                                ((Bool.true = Bool.true) ∧
                                (True)))))))))))))))))))))))))))))))))))))))
theorem lCob_vc (t : List (List Int)) (m : Int) (g : List Int) : runF Try.prog (gam lCob_G) noWr noAnn Try.f3 (bodyOf Try.f3) [] [.c (.rows .i64 (t)), .c (.int .i64 (m)), .c (.ints .i64 (g))] (lCob_p t m g) = lCob_V t m g := by kernel_rfl
theorem lCob_ok (t : List (List Int)) (m : Int) (g : List Int) (hpre : (lCob_p t m g).pre) : lCob_V t m g := by
  simp only [lCob_p, lCob_V, BrP_iff, true_and, and_true, decide_eq_true_eq, decide_eq_false_iff_not, bne_iff_ne, beq_iff_eq, bne_eq_false_iff_eq, beq_eq_false_iff_ne, Bool.not_eq_true, Bool.not_eq_false, Bool.not_true, Bool.not_false, Bool.not_eq_eq_eq_not, Int.toNat_natCast, List.length_append, List.length_take, List.length_replicate, List.length_set, List.length_map, List.length_drop, List.length_nil, List.length_cons, markL_length, inB, InR, room, bdsOk] at hpre ⊢
  refine ⟨fun _ => trivial, fun h0 => ⟨⟨hpre.1, hpre.2, by omega, by omega⟩, fun _ => trivial, fun h => ?_⟩⟩
  obtain ⟨e1, e2, e3⟩ := size_of h
  have g1 : g.length ≤ 1099511627776 := by omega
  have c1 := cbC_room t m g
  have c2 := c1.1
  have c3 := cbC_len t m g
  have c4 := cbC_sum t m g
  have c5 : ¬ (1 + (sumL t : Int) + (g.length : Int) < 0) := by omega
  have c6 : ¬ (1 + (sumL (cbC t m g).1 : Int) < 0) := by omega
  have c7 : 1 + (sumL t : Int) ≤ 1099511627776 := by omega
  have c8 : 0 ≤ 1 + (sumL t : Int) := by omega
  simp [e1, e2, e3, g1, c1, c3, c4, c5, c6, c7, c8, markR_length, markR_lens, markR_sum, markR_mark]
theorem lCob_fits : Fits Try.prog 3 ⟨[], lCob_ct⟩ := by
  refine fits_fn (Γ := gam lCob_G) (gok_cons szInt64SS_fits (gok_cons toInt64SS_fits (gok_cons toInt64S_fits (gok_cons eqInt64SS_fits (gok_cons eqInt64S_fits (gok_cons markInt64SS_fits (gok_cons markInt64S_fits (gok_cons heldInt64SS_fits (gok_cons sCob_fits (gok_cons iCob_fits gok_nil)))))))))) Try.func3 (by kernel_rfl) (by kernel_rfl) (by kernel_rfl) fun ds p h hp => ?_
  unfold lCob_ct at h
  split at h
  · cases h
    exact ⟨noWr, noAnn, by rw [lCob_vc]; exact lCob_ok _ _ _  hp⟩
  · cases h

end Go.Sx

