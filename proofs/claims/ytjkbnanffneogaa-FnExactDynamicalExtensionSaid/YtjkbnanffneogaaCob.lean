/- Contracts on the way of CoboundaryOf. -/
import Derived.Test.YtjkbnanffneogaaTable
open Go Go.Proofs
namespace Go.Sx
set_option linter.unusedSimpArgs false
set_option linter.unusedVariables false

def cbF (t : List (List Int)) (m : Int) (g : List Int) (x y : Nat) : Int := (g.getD ((t.getD x []).getD y 0).toNat 0 - g.getD y 0 + m).tmod m

theorem cb_in {t : List (List Int)} {m : Int} {g : List Int} (h1 : tabB t = true) (h2 : shiftB (t.length : Int) m g = true) (x y : Nat) (hx : x < t.length) (hy : y < t.length) :
    1 ≤ m ∧ m ≤ 12 ∧ (g.length : Int) = (t.length : Int) ∧ (t.getD x []).length = t.length ∧ 0 ≤ (t.getD x []).getD y 0 ∧ (t.getD x []).getD y 0 ≤ (t.length : Int) - 1 ∧
    0 ≤ g.getD ((t.getD x []).getD y 0).toNat 0 ∧ g.getD ((t.getD x []).getD y 0).toNat 0 ≤ m - 1 ∧ 0 ≤ g.getD y 0 ∧ g.getD y 0 ≤ m - 1 := by
  obtain ⟨_, _, a⟩ := tabB_of h1
  obtain ⟨b, c⟩ := a x hx
  have d := c y hy
  obtain ⟨e, f, k, l⟩ := shiftB_of h2
  have u := l ((t.getD x []).getD y 0).toNat (by omega)
  have v := l y (by omega)
  exact ⟨e, f, k, b, d.1, d.2, u.1, u.2, v.1, v.2⟩



def l14Bound_p (t : List (List Int)) (m : Int) (g : List Int) : Post := ⟨tabB t = true ∧ shiftB (t.length : Int) m g = true, .c (.rows 41 2 .i64 (tabR t.length (cbF t m g))), []⟩
def l14Bound_ct : List AD → Option Post
  | [.c (.rows .i64 (t)), .c (.int .i64 (m)), .c (.ints .i64 (g))] => some (l14Bound_p t m g)
  | _ => none
def l14Bound_ann (t : List (List Int)) (m : Int) (g : List Int) : Nat → Option Ann
  | 0 => some (Ann.mk ((Nat)) (fun i => ⟨[(0, .c (.ro (.rows .i64 (t)))), (1, .c (.int .i64 (m))), (2, .c (.ro (.ints .i64 (g)))), (7, .c (.own (11))), (8, .c (.int .i64 ((i : Int))))], [(11, some (.rows 0 41 2 .i64 ((tabR t.length (cbF t m g)).take i)))]⟩) (fun i => i ≤ t.length) (fun i => t.length - i) (fun i => fun b_ => match b_ with | 2 => some (Ann.mk ((Nat)) (fun j => ⟨[(0, .c (.ro (.rows .i64 (t)))), (1, .c (.int .i64 (m))), (2, .c (.ro (.ints .i64 (g)))), (7, .c (.own (11))), (8, .c (.int .i64 ((i : Int)))), (9, .c (.own (18))), (10, .c (.int .i64 ((j : Int))))], [(11, some (.rows 0 41 2 .i64 ((tabR t.length (cbF t m g)).take i))), (18, some (.ints 2 .i64 ((tab t.length (cbF t m g i)).take j)))]⟩) (fun j => j ≤ t.length ∧ i < t.length) (fun j => t.length - j) (fun _ => noAnn)) | _ => none))
  | _ => none
def l14Bound_G : List (Nat × Ctr) := []
def l14Bound_V (t : List (List Int)) (m : Int) (g : List Int) : Prop :=
  ((∃ x0 : Nat, ((x0 ≤ List.length t) ∧
 ((t = t) ∧
 ((m = m) ∧
 ((g = g) ∧
 (((0 : Int) = (↑x0 : Int)) ∧
 (([] : List (List Int)) = List.take x0 (tabR (List.length t) (cbF t m g))))))))) ∧
 (∀ x1 : Nat, ((x1 ≤ List.length t) →
 (BrP (Decidable.decide ((↑x1 : Int) < (↑(List.length t) : Int)))
 ((∃ x2 : Nat, (((x2 ≤ List.length t) ∧
 (x1 < List.length t)) ∧
 ((t = t) ∧
 ((m = m) ∧
 ((g = g) ∧
 (((↑x1 : Int) = (↑x1 : Int)) ∧
 (((0 : Int) = (↑x2 : Int)) ∧
 ((List.take x1 (tabR (List.length t) (cbF t m g)) = List.take x1 (tabR (List.length t) (cbF t m g))) ∧
 ([] = List.take x2 (tab (List.length t) (cbF t m g x1))))))))))) ∧
 (∀ x3 : Nat, (((x3 ≤ List.length t) ∧
 (x1 < List.length t)) →
 (BrP (Decidable.decide ((↑x3 : Int) < (↑(List.length t) : Int)))
 ((inB (↑x1 : Int) (List.length t)) ∧
 ((inB (↑x3 : Int) (List.length (List.getD t (Int.toNat (↑x1 : Int)) []))) ∧
 ((inB (List.getD (List.getD t (Int.toNat (↑x1 : Int)) []) (Int.toNat (↑x3 : Int)) (0 : Int)) (List.length g)) ∧
 ((inB (↑x3 : Int) (List.length g)) ∧
 ((InR (List.getD g (Int.toNat (List.getD (List.getD t (Int.toNat (↑x1 : Int)) []) (Int.toNat (↑x3 : Int)) (0 : Int))) (0 : Int) - List.getD g (Int.toNat (↑x3 : Int)) (0 : Int))) ∧
 ((InR (List.getD g (Int.toNat (List.getD (List.getD t (Int.toNat (↑x1 : Int)) []) (Int.toNat (↑x3 : Int)) (0 : Int))) (0 : Int) - List.getD g (Int.toNat (↑x3 : Int)) (0 : Int) + m)) ∧
 ((m ≠ (0 : Int)) ∧
 ((room (List.length (List.take x3 (tab (List.length t) (cbF t m g x1))) + List.length [Int.tmod (List.getD g (Int.toNat (List.getD (List.getD t (Int.toNat (↑x1 : Int)) []) (Int.toNat (↑x3 : Int)) (0 : Int))) (0 : Int) - List.getD g (Int.toNat (↑x3 : Int)) (0 : Int) + m) m])) ∧
 ((InR ((↑x3 : Int) + (1 : Int))) ∧
 (∃ x4 : Nat, (((x4 ≤ List.length t) ∧
 (x1 < List.length t)) ∧
 ((List.length t - x4 < List.length t - x3) ∧
 ((t = t) ∧
 ((m = m) ∧
 ((g = g) ∧
 (((↑x1 : Int) = (↑x1 : Int)) ∧
 (((↑x3 : Int) + (1 : Int) = (↑x4 : Int)) ∧
 ((List.take x1 (tabR (List.length t) (cbF t m g)) = List.take x1 (tabR (List.length t) (cbF t m g))) ∧
 (List.take x3 (tab (List.length t) (cbF t m g x1)) ++ [Int.tmod (List.getD g (Int.toNat (List.getD (List.getD t (Int.toNat (↑x1 : Int)) []) (Int.toNat (↑x3 : Int)) (0 : Int))) (0 : Int) - List.getD g (Int.toNat (↑x3 : Int)) (0 : Int) + m) m] = List.take x4 (tab (List.length t) (cbF t m g x1)))))))))))))))))))))
 ((room (List.length (List.take x1 (tabR (List.length t) (cbF t m g))) + List.length (List.take x3 (tab (List.length t) (cbF t m g x1)) :: ([] : List (List Int))))) ∧
 ((InR ((↑x1 : Int) + (1 : Int))) ∧
 (∃ x5 : Nat, ((x5 ≤ List.length t) ∧
 ((List.length t - x5 < List.length t - x1) ∧
 ((t = t) ∧
 ((m = m) ∧
 ((g = g) ∧
 (((↑x1 : Int) + (1 : Int) = (↑x5 : Int)) ∧
 (List.take x1 (tabR (List.length t) (cbF t m g)) ++ List.take x3 (tab (List.length t) (cbF t m g x1)) :: ([] : List (List Int)) = List.take x5 (tabR (List.length t) (cbF t m g))))))))))))))))
 ((List.take x1 (tabR (List.length t) (cbF t m g)) = tabR (List.length t) (cbF t m g)) ∧
 (True))))))
theorem l14Bound_vc (t : List (List Int)) (m : Int) (g : List Int) : runF Try.prog (gam l14Bound_G) noWr (l14Bound_ann t m g) Try.f90 (bodyOf Try.f90) [] [.c (.rows .i64 (t)), .c (.int .i64 (m)), .c (.ints .i64 (g))] (l14Bound_p t m g) = l14Bound_V t m g := by kernel_rfl
theorem l14Bound_ok (t : List (List Int)) (m : Int) (g : List Int) (hpre : (l14Bound_p t m g).pre) : l14Bound_V t m g := by
  simp only [l14Bound_p, l14Bound_V, BrP_iff, true_and, and_true, decide_eq_true_eq, decide_eq_false_iff_not, bne_iff_ne, beq_iff_eq, bne_eq_false_iff_eq, beq_eq_false_iff_ne, Bool.not_eq_true, Bool.not_eq_false, Bool.not_true, Bool.not_false, Bool.not_eq_eq_eq_not, Int.toNat_natCast, List.length_append, List.length_take, List.length_replicate, List.length_set, List.length_map, List.length_drop, List.length_nil, List.length_cons, markL_length, inB, InR, room, bdsOk] at hpre ⊢
  obtain ⟨h1, h2⟩ := hpre
  have ht := tabB_of h1
  have hT := tabR_length t.length (cbF t m g)
  have hr : ∀ i : Nat, (tab t.length (cbF t m g i)).length = t.length := fun i => tab_length _ _
  refine ⟨⟨0, by omega, rfl, by simp⟩, fun i hi => ⟨fun h => ⟨⟨0, by omega, rfl, by simp⟩, fun j ⟨hj, _⟩ => ⟨fun h3 => ?_, fun h3 => ?_⟩⟩, fun h => List.take_of_length_le (by omega)⟩⟩
  · have q := cb_in h1 h2 i j (by omega) (by omega)
    have := hr i
    refine ⟨by omega, by omega, by omega, by omega, by omega, by omega, by omega, by omega, by omega, j + 1, by omega, by omega, by omega, ?_⟩
    rw [← take_snoc _ 0 j (by omega), tab_getD _ _ _ (by omega)]
    rfl
  · refine ⟨by omega, by omega, i + 1, by omega, by omega, by omega, ?_⟩
    have e : (tab t.length (cbF t m g i)).take j = tab t.length (cbF t m g i) := List.take_of_length_le (by rw [hr]; omega)
    rw [← take_snoc _ [] i (by omega), tabR_getD _ _ _ (by omega), e]
theorem l14Bound_fits : Fits Try.prog 90 ⟨[], l14Bound_ct⟩ := by
  refine fits_fn (Γ := gam l14Bound_G) gok_nil Try.func90 (by kernel_rfl) (by kernel_rfl) (by kernel_rfl) fun ds p h hp => ?_
  unfold l14Bound_ct at h
  split at h
  · cases h
    exact ⟨noWr, l14Bound_ann _ _ _ , by rw [l14Bound_vc]; exact l14Bound_ok _ _ _  hp⟩
  · cases h

def cbC (t : List (List Int)) (m : Int) (g : List Int) : List (List Int) × Int :=
  if tabB t = true then (if shiftB (t.length : Int) m g = true then (tabR t.length (cbF t m g), 0) else ([], 2)) else ([], 1)

theorem cbC_nt {t : List (List Int)} {m : Int} {g : List Int} (h : tabB t = false) : [] = (cbC t m g).1 ∧ 1 = (cbC t m g).2 := by simp [cbC, h]
theorem cbC_ns {t : List (List Int)} {m : Int} {g : List Int} (h : tabB t = true) (h2 : shiftB (t.length : Int) m g = false) : [] = (cbC t m g).1 ∧ 2 = (cbC t m g).2 := by simp [cbC, h, h2]
theorem cbC_yes {t : List (List Int)} {m : Int} {g : List Int} (h : tabB t = true) (h2 : shiftB (t.length : Int) m g = true) : tabR t.length (cbF t m g) = (cbC t m g).1 ∧ 0 = (cbC t m g).2 := by simp [cbC, h, h2]

theorem cbC_room (t : List (List Int)) (m : Int) (g : List Int) : roomR (cbC t m g).1 := by
  unfold cbC
  split
  · split
    · rename_i h _
      have := tabB_of h
      exact tabR_room _ _ (by omega)
    · exact ⟨by simp, by simp⟩
  · exact ⟨by simp, by simp⟩

theorem cbC_len (t : List (List Int)) (m : Int) (g : List Int) : (cbC t m g).1.length ≤ 1048576 := by
  unfold cbC
  split
  · split
    · rename_i h _
      have := tabB_of h
      simp only [tabR_length]; omega
    · simp
  · simp

theorem cbC_sum (t : List (List Int)) (m : Int) (g : List Int) : sumL (cbC t m g).1 ≤ 1048576 := by
  unfold cbC
  split
  · split
    · rename_i h _
      have := tabB_of h
      exact Nat.le_trans (tabR_sum _ _ (by omega)) (by omega)
    · simp [sumL]
  · simp [sumL]




end Go.Sx

