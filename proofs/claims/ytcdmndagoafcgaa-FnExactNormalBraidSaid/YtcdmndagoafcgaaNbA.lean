/- NbA -/
import Derived.Test.YtcdmndagoafcgaaNbW
import Derived.Test.YtcdmndagoafcgaaCmp
open Go Go.Proofs
namespace Go.Sx
set_option linter.unusedSimpArgs false
set_option linter.unusedVariables false

def thP (p q : List Int) : List Int := p.map fun x => q.getD x.toNat 0
theorem thP_length (p q : List Int) : (thP p q).length = p.length := by simp [thP]
theorem thP_get {p q : List Int} {i : Nat} (h : i < p.length) : (thP p q).getD i 0 = q.getD (p.getD i 0).toNat 0 := getD_map p _ 0 0 i h

theorem stepP_pm {n k : Nat} (hk : k + 1 < n) : PmP n (stepP n k) := swap_pm (unit_pm n) hk
theorem stepP_get {n k i : Nat} (hk : k + 1 < n) (hi : i < n) : (stepP n k).getD i 0 = if i = k + 1 then (k : Int) else if i = k then (k : Int) + 1 else (i : Int) := by
  rw [stepP, swapAt_get (by rw [unit_len]; exact hk), unit_get (show k < n by omega), unit_get hk, unit_get hi]
  rfl

theorem th_vsw {n k : Nat} {p : List Int} (h : PmP n p) (hk : k + 1 < n) : thP p (stepP n k) = vsw p k := by
  refine list_ext (by rw [thP_length, vsw_length]) fun i hi => ?_
  rw [thP_length] at hi
  have r := h.rng i (by have := h.len; omega)
  rw [thP_get hi, vsw_get hi, stepP_get hk (by omega), sgF]
  split
  · rename_i e; rw [if_neg (by omega), if_pos (by omega)]
  · split
    · rename_i e; rw [if_pos (by omega)]
    · rw [if_neg (by omega), if_neg (by omega)]; omega

theorem th_swap {n k : Nat} {p : List Int} (h : PmP n p) (hk : k + 1 < n) : thP (stepP n k) p = swapAt p k := by
  have hl := h.len
  have sl := (stepP_pm hk).len
  refine list_ext (by rw [thP_length, swapAt_length, sl, hl]) fun i hi => ?_
  rw [thP_length, sl] at hi
  rw [thP_get (by omega), stepP_get hk hi, swapAt_get (by omega)]
  split
  · rw [Int.toNat_natCast]
  · split
    · rw [show ((k : Int) + 1).toNat = k + 1 by omega]
    · rw [Int.toNat_natCast]

theorem th_turn {n : Nat} {p : List Int} (h : PmP n p) : thP (thP (halfL n) p) (halfL n) = turnL p := by
  have hl := h.len
  refine list_ext (by rw [thP_length, thP_length, half_len, turnL, tab_length, hl]) fun i hi => ?_
  rw [thP_length, thP_length, half_len] at hi
  have r := h.rng (n - 1 - i) (by omega)
  rw [thP_get (by rw [thP_length, half_len]; exact hi), thP_get (by rw [half_len]; exact hi), half_get hi, show ((n : Int) - 1 - (i : Int)).toNat = n - 1 - i by omega, half_get (by omega), turn_get h hi]
  omega

theorem pm_rng {n : Nat} {p : List Int} (h : PmP n p) : rngB (p.length : Int) p := fun x hx => by
  obtain ⟨j, hj, rfl⟩ := List.getElem_of_mem hx
  have := h.rng j (by have := h.len; omega)
  rw [getD_lt p 0 j hj] at this
  rw [h.len]; exact this

def l16Turned_p (n : Int) : Post := ⟨0 ≤ n ∧ n ≤ 1000, .c (.ints 2 .i64 (halfL n.toNat)), []⟩
def l16Turned_ct : List AD → Option Post
  | [.c (.int .i64 (n))] => some (l16Turned_p n)
  | _ => none
def l16Turned_ann (n : Int) : Nat → Option Ann
  | 0 => some (Ann.mk ((Nat)) (fun i => ⟨[(3, .c (.own (100))), (4, .c (.int .i64 (n - 1 - (i : Int))))], [(100, some (.ints 2 .i64 ((halfL n.toNat).take i)))]⟩) (fun i => (i : Int) ≤ n) (fun i => n.toNat - i) (fun _ => noAnn))
  | _ => none
def l16Turned_G : List (Nat × Ctr) := []
def l16Turned_V (n : Int) : Prop :=
  ((InR (n - (1 : Int))) ∧
 ((∃ x0 : Nat, (((↑x0 : Int) ≤ n) ∧
 ((n - (1 : Int) = n - (1 : Int) - (↑x0 : Int)) ∧
 ([] = List.take x0 (halfL (Int.toNat n)))))) ∧
 (∀ x1 : Nat, (((↑x1 : Int) ≤ n) →
 (BrP (Decidable.decide ((0 : Int) ≤ n - (1 : Int) - (↑x1 : Int)))
 ((room (List.length (List.take x1 (halfL (Int.toNat n))) + List.length [n - (1 : Int) - (↑x1 : Int)])) ∧
 ((InR (n - (1 : Int) - (↑x1 : Int) - (1 : Int))) ∧
 (∃ x2 : Nat, (((↑x2 : Int) ≤ n) ∧
 ((Int.toNat n - x2 < Int.toNat n - x1) ∧
 ((n - (1 : Int) - (↑x1 : Int) - (1 : Int) = n - (1 : Int) - (↑x2 : Int)) ∧
 (List.take x1 (halfL (Int.toNat n)) ++ [n - (1 : Int) - (↑x1 : Int)] = List.take x2 (halfL (Int.toNat n)))))))))
 ((List.take x1 (halfL (Int.toNat n)) = halfL (Int.toNat n)) ∧
 (True)))))))
theorem l16Turned_vc (n : Int) : runF Try.prog (gam l16Turned_G) noWr (l16Turned_ann n) Try.f75 (bodyOf Try.f75) [] [.c (.int .i64 (n))] (l16Turned_p n) = l16Turned_V n := by kernel_rfl
theorem l16Turned_ok (n : Int) (hpre : (l16Turned_p n).pre) : l16Turned_V n := by
  simp only [l16Turned_p, l16Turned_V, BrP_iff, true_and, and_true, decide_eq_true_eq, decide_eq_false_iff_not, bne_iff_ne, beq_iff_eq, bne_eq_false_iff_eq, beq_eq_false_iff_ne, Bool.not_eq_true, Bool.not_eq_false, Bool.not_true, Bool.not_false, Bool.not_eq_eq_eq_not, Int.toNat_natCast, List.length_append, List.length_take, List.length_replicate, List.length_set, List.length_map, List.length_drop, List.length_nil, List.length_cons, markL_length, inB, InR, room, bdsOk] at hpre ⊢
  have hl := half_len n.toNat
  refine ⟨by omega, ⟨0, by omega, by omega, by simp⟩, fun i hi => ⟨fun h => ⟨by omega, by omega, i + 1, by omega, by omega, by omega, ?_⟩, fun h => ?_⟩⟩
  · rw [← take_snoc (halfL n.toNat) 0 i (by omega), half_get (by omega), show ((n.toNat : Nat) : Int) = n by omega]
  · exact List.take_of_length_le (by omega)
theorem l16Turned_fits : Fits Try.prog 75 ⟨[], l16Turned_ct⟩ := by
  refine fits_fn (Γ := gam l16Turned_G) gok_nil Try.func75 (by kernel_rfl) (by kernel_rfl) (by kernel_rfl) fun ds p h hp => ?_
  unfold l16Turned_ct at h
  split at h
  · cases h
    exact ⟨noWr, l16Turned_ann _ , by rw [l16Turned_vc]; exact l16Turned_ok _  hp⟩
  · cases h

def l16Step_p (n : Int) (k : Int) : Post := ⟨0 ≤ k ∧ k + 1 < n ∧ n ≤ 1000, .c (.ints 2 .i64 (stepP n.toNat k.toNat)), []⟩
def l16Step_ct : List AD → Option Post
  | [.c (.int .i64 (n)), .c (.int .i64 (k))] => some (l16Step_p n k)
  | _ => none
def l16Step_G : List (Nat × Ctr) := [(82, ⟨[], l01Unit_ct⟩)]
def l16Step_V (n : Int) (k : Int) : Prop :=
  (((((0 : Int) ≤ n) ∧
 (n ≤ (1099511627776 : Int))) ∧
 (True)) ∧
 ((InR (k + (1 : Int))) ∧
 ((inB k (List.length (unitL (Int.toNat n)))) ∧
 ((InR (k + (1 : Int))) ∧
 ((inB (k + (1 : Int)) (List.length (List.set (unitL (Int.toNat n)) (Int.toNat k) (k + (1 : Int))))) ∧
 ((List.set (List.set (unitL (Int.toNat n)) (Int.toNat k) (k + (1 : Int))) (Int.toNat (k + (1 : Int))) k = stepP (Int.toNat n) (Int.toNat k)) ∧
 (True)))))))
theorem l16Step_vc (n : Int) (k : Int) : runF Try.prog (gam l16Step_G) noWr noAnn Try.f77 (bodyOf Try.f77) [] [.c (.int .i64 (n)), .c (.int .i64 (k))] (l16Step_p n k) = l16Step_V n k := by kernel_rfl
theorem l16Step_ok (n : Int) (k : Int) (hpre : (l16Step_p n k).pre) : l16Step_V n k := by
  simp only [l16Step_p, l16Step_V, BrP_iff, true_and, and_true, decide_eq_true_eq, decide_eq_false_iff_not, bne_iff_ne, beq_iff_eq, bne_eq_false_iff_eq, beq_eq_false_iff_ne, Bool.not_eq_true, Bool.not_eq_false, Bool.not_true, Bool.not_false, Bool.not_eq_eq_eq_not, Int.toNat_natCast, List.length_append, List.length_take, List.length_replicate, List.length_set, List.length_map, List.length_drop, List.length_nil, List.length_cons, markL_length, inB, InR, room, bdsOk] at hpre ⊢
  have hl := unit_len n.toNat
  have e : (k + 1).toNat = k.toNat + 1 := by omega
  refine ⟨by omega, by omega, by omega, by omega, by omega, ?_⟩
  rw [e, stepP, swapAt, unit_get (show k.toNat < n.toNat by omega), unit_get (show k.toNat + 1 < n.toNat by omega)]
  rw [show ((k.toNat + 1 : Nat) : Int) = k + 1 by omega, show ((k.toNat : Nat) : Int) = k by omega]
theorem l16Step_fits : Fits Try.prog 77 ⟨[], l16Step_ct⟩ := by
  refine fits_fn (Γ := gam l16Step_G) (gok_cons l01Unit_fits gok_nil) Try.func77 (by kernel_rfl) (by kernel_rfl) (by kernel_rfl) fun ds p h hp => ?_
  unfold l16Step_ct at h
  split at h
  · cases h
    exact ⟨noWr, noAnn, by rw [l16Step_vc]; exact l16Step_ok _ _  hp⟩
  · cases h

def swapOf_p (n : Int) (k : Int) : Post := ⟨0 ≤ k ∧ k + 1 < n ∧ n ≤ 1000, .c (.ints 2 .i64 (stepP n.toNat k.toNat)), []⟩
def swapOf_ct : List AD → Option Post
  | [.c (.int .i64 (n)), .c (.int .i64 (k))] => some (swapOf_p n k)
  | _ => none
def swapOf_G : List (Nat × Ctr) := [(119, ⟨[], identity_ct⟩)]
def swapOf_V (n : Int) (k : Int) : Prop :=
  (((((0 : Int) ≤ n) ∧
 (n ≤ (1099511627776 : Int))) ∧
 (True)) ∧
 ((InR (k + (1 : Int))) ∧
 ((InR (k + (1 : Int))) ∧
 ((inB (k + (1 : Int)) (List.length (unitL (Int.toNat n)))) ∧
 ((inB k (List.length (unitL (Int.toNat n)))) ∧
 ((inB k (List.length (unitL (Int.toNat n)))) ∧
 ((inB (k + (1 : Int)) (List.length (List.set (unitL (Int.toNat n)) (Int.toNat k) (List.getD (unitL (Int.toNat n)) (Int.toNat (k + (1 : Int))) (0 : Int))))) ∧
 ((List.set (List.set (unitL (Int.toNat n)) (Int.toNat k) (List.getD (unitL (Int.toNat n)) (Int.toNat (k + (1 : Int))) (0 : Int))) (Int.toNat (k + (1 : Int))) (List.getD (unitL (Int.toNat n)) (Int.toNat k) (0 : Int)) = stepP (Int.toNat n) (Int.toNat k)) ∧
 (True)))))))))
theorem swapOf_vc (n : Int) (k : Int) : runF Try.prog (gam swapOf_G) noWr noAnn Try.f89 (bodyOf Try.f89) [] [.c (.int .i64 (n)), .c (.int .i64 (k))] (swapOf_p n k) = swapOf_V n k := by kernel_rfl
theorem swapOf_ok (n : Int) (k : Int) (hpre : (swapOf_p n k).pre) : swapOf_V n k := by
  simp only [swapOf_p, swapOf_V, BrP_iff, true_and, and_true, decide_eq_true_eq, decide_eq_false_iff_not, bne_iff_ne, beq_iff_eq, bne_eq_false_iff_eq, beq_eq_false_iff_ne, Bool.not_eq_true, Bool.not_eq_false, Bool.not_true, Bool.not_false, Bool.not_eq_eq_eq_not, Int.toNat_natCast, List.length_append, List.length_take, List.length_replicate, List.length_set, List.length_map, List.length_drop, List.length_nil, List.length_cons, markL_length, inB, InR, room, bdsOk] at hpre ⊢
  have hl := unit_len n.toNat
  have e : (k + 1).toNat = k.toNat + 1 := by omega
  rw [e]
  refine ⟨by omega, by omega, by omega, by omega, by omega, by omega, by omega, rfl⟩
theorem swapOf_fits : Fits Try.prog 89 ⟨[], swapOf_ct⟩ := by
  refine fits_fn (Γ := gam swapOf_G) (gok_cons identity_fits gok_nil) Try.func89 (by kernel_rfl) (by kernel_rfl) (by kernel_rfl) fun ds p h hp => ?_
  unfold swapOf_ct at h
  split at h
  · cases h
    exact ⟨noWr, noAnn, by rw [swapOf_vc]; exact swapOf_ok _ _  hp⟩
  · cases h

def l16Turn_p (p : List Int) : Post := ⟨p.length ≤ 1000 ∧ rngB (p.length : Int) p, .c (.ints 2 .i64 (turnL p)), []⟩
def l16Turn_ct : List AD → Option Post
  | [.c (.ints .i64 (p))] => some (l16Turn_p p)
  | _ => none
def l16Turn_ann (p : List Int) : Nat → Option Ann
  | 0 => some (Ann.mk ((Nat)) (fun i => ⟨[(0, .c (.ro (.ints .i64 (p)))), (3, .c (.int .i64 ((p.length : Int)))), (4, .c (.own (100))), (5, .c (.int .i64 ((i : Int))))], [(100, some (.ints 2 .i64 (List.replicate (p.length - i) 0 ++ (turnL p).drop (p.length - i))))]⟩) (fun i => i ≤ p.length) (fun i => p.length - i) (fun _ => noAnn))
  | _ => none
def l16Turn_G : List (Nat × Ctr) := []
def l16Turn_V (p : List Int) : Prop :=
  ((((0 : Int) ≤ (↑(List.length p) : Int)) ∧
 (((↑(List.length p) : Int) ≤ (↑(List.length p) : Int)) ∧
 (room (Int.toNat (↑(List.length p) : Int))))) ∧
 ((∃ x0 : Nat, ((x0 ≤ List.length p) ∧
 ((p = p) ∧
 (((↑(List.length p) : Int) = (↑(List.length p) : Int)) ∧
 (((0 : Int) = (↑x0 : Int)) ∧
 (List.replicate (Int.toNat (↑(List.length p) : Int)) (0 : Int) = List.replicate (List.length p - x0) (0 : Int) ++ List.drop (List.length p - x0) (turnL p))))))) ∧
 (∀ x1 : Nat, ((x1 ≤ List.length p) →
 (BrP (Decidable.decide ((↑x1 : Int) < (↑(List.length p) : Int)))
 ((InR ((↑(List.length p) : Int) - (1 : Int))) ∧
 ((InR ((↑(List.length p) : Int) - (1 : Int) - (↑x1 : Int))) ∧
 ((InR ((↑(List.length p) : Int) - (1 : Int))) ∧
 ((inB (↑x1 : Int) (List.length p)) ∧
 ((InR ((↑(List.length p) : Int) - (1 : Int) - List.getD p (Int.toNat (↑x1 : Int)) (0 : Int))) ∧
 ((inB ((↑(List.length p) : Int) - (1 : Int) - (↑x1 : Int)) (List.length (List.replicate (List.length p - x1) (0 : Int) ++ List.drop (List.length p - x1) (turnL p)))) ∧
 ((InR ((↑x1 : Int) + (1 : Int))) ∧
 (∃ x2 : Nat, ((x2 ≤ List.length p) ∧
 ((List.length p - x2 < List.length p - x1) ∧
 ((p = p) ∧
 (((↑(List.length p) : Int) = (↑(List.length p) : Int)) ∧
 (((↑x1 : Int) + (1 : Int) = (↑x2 : Int)) ∧
 (List.set (List.replicate (List.length p - x1) (0 : Int) ++ List.drop (List.length p - x1) (turnL p)) (Int.toNat ((↑(List.length p) : Int) - (1 : Int) - (↑x1 : Int))) ((↑(List.length p) : Int) - (1 : Int) - List.getD p (Int.toNat (↑x1 : Int)) (0 : Int)) = List.replicate (List.length p - x2) (0 : Int) ++ List.drop (List.length p - x2) (turnL p)))))))))))))))
 ((List.replicate (List.length p - x1) (0 : Int) ++ List.drop (List.length p - x1) (turnL p) = turnL p) ∧
 (True)))))))
theorem l16Turn_vc (p : List Int) : runF Try.prog (gam l16Turn_G) noWr (l16Turn_ann p) Try.f78 (bodyOf Try.f78) [] [.c (.ints .i64 (p))] (l16Turn_p p) = l16Turn_V p := by kernel_rfl
theorem l16Turn_ok (p : List Int) (hpre : (l16Turn_p p).pre) : l16Turn_V p := by
  simp only [l16Turn_p, l16Turn_V, BrP_iff, true_and, and_true, decide_eq_true_eq, decide_eq_false_iff_not, bne_iff_ne, beq_iff_eq, bne_eq_false_iff_eq, beq_eq_false_iff_ne, Bool.not_eq_true, Bool.not_eq_false, Bool.not_true, Bool.not_false, Bool.not_eq_eq_eq_not, Int.toNat_natCast, List.length_append, List.length_take, List.length_replicate, List.length_set, List.length_map, List.length_drop, List.length_nil, List.length_cons, markL_length, inB, InR, room, bdsOk] at hpre ⊢
  obtain ⟨h1, h2⟩ := hpre
  have lt : (turnL p).length = p.length := tab_length _ _
  refine ⟨by omega, ⟨0, by omega, rfl, ?_⟩, fun i hi => ⟨fun h => ?_, fun h => ?_⟩⟩
  · rw [Nat.sub_zero, List.drop_of_length_le (by omega), List.append_nil]
  · have r := rngB_get h2 i (by omega)
    refine ⟨by omega, by omega, by omega, by omega, by omega, by omega, by omega, i + 1, by omega, by omega, by omega, ?_⟩
    obtain ⟨m, hm⟩ : ∃ m, p.length - i = m + 1 := ⟨p.length - i - 1, by omega⟩
    rw [hm, show p.length - (i + 1) = m by omega, show ((p.length : Int) - 1 - (i : Int)).toNat = m by omega, List.replicate_succ', List.append_assoc, List.singleton_append, at_set _ _ _ _ _ (List.length_replicate ..), drop_cons' (turnL p) 0 m (by omega),
      turnL, tab_getD _ _ _ (by omega), show p.length - 1 - m = i by omega]
  · rw [show p.length - i = 0 by omega]; simp
theorem l16Turn_fits : Fits Try.prog 78 ⟨[], l16Turn_ct⟩ := by
  refine fits_fn (Γ := gam l16Turn_G) gok_nil Try.func78 (by kernel_rfl) (by kernel_rfl) (by kernel_rfl) fun ds p h hp => ?_
  unfold l16Turn_ct at h
  split at h
  · cases h
    exact ⟨noWr, l16Turn_ann _ , by rw [l16Turn_vc]; exact l16Turn_ok _  hp⟩
  · cases h

def l16Begins_p (p : List Int) (k : Int) : Post := ⟨0 ≤ k ∧ k + 1 < (p.length : Int) ∧ p.length ≤ 1000, .c (.bool (bgB p k.toNat)), []⟩
def l16Begins_ct : List AD → Option Post
  | [.c (.ints .i64 (p)), .c (.int .i64 (k))] => some (l16Begins_p p k)
  | _ => none
def l16Begins_G : List (Nat × Ctr) := []
def l16Begins_V (p : List Int) (k : Int) : Prop :=
  ((inB k (List.length p)) ∧
 ((InR (k + (1 : Int))) ∧
 ((inB (k + (1 : Int)) (List.length p)) ∧
 ((Decidable.decide (List.getD p (Int.toNat (k + (1 : Int))) (0 : Int) < List.getD p (Int.toNat k) (0 : Int)) = bgB p (Int.toNat k)) ∧
 (True)))))
theorem l16Begins_vc (p : List Int) (k : Int) : runF Try.prog (gam l16Begins_G) noWr noAnn Try.f79 (bodyOf Try.f79) [] [.c (.ints .i64 (p)), .c (.int .i64 (k))] (l16Begins_p p k) = l16Begins_V p k := by kernel_rfl
theorem l16Begins_ok (p : List Int) (k : Int) (hpre : (l16Begins_p p k).pre) : l16Begins_V p k := by
  simp only [l16Begins_p, l16Begins_V, BrP_iff, true_and, and_true, decide_eq_true_eq, decide_eq_false_iff_not, bne_iff_ne, beq_iff_eq, bne_eq_false_iff_eq, beq_eq_false_iff_ne, Bool.not_eq_true, Bool.not_eq_false, Bool.not_true, Bool.not_false, Bool.not_eq_eq_eq_not, Int.toNat_natCast, List.length_append, List.length_take, List.length_replicate, List.length_set, List.length_map, List.length_drop, List.length_nil, List.length_cons, markL_length, inB, InR, room, bdsOk] at hpre ⊢
  have e : (k + 1).toNat = k.toNat + 1 := by omega
  rw [e]
  exact ⟨by omega, by omega, by omega, rfl⟩
theorem l16Begins_fits : Fits Try.prog 79 ⟨[], l16Begins_ct⟩ := by
  refine fits_fn (Γ := gam l16Begins_G) gok_nil Try.func79 (by kernel_rfl) (by kernel_rfl) (by kernel_rfl) fun ds p h hp => ?_
  unfold l16Begins_ct at h
  split at h
  · cases h
    exact ⟨noWr, noAnn, by rw [l16Begins_vc]; exact l16Begins_ok _ _  hp⟩
  · cases h

def l16Ends_p (p : List Int) (k : Int) : Post := ⟨0 ≤ k ∧ k + 1 < (p.length : Int) ∧ p.length ≤ 1000 ∧ rngB (p.length : Int) p, .c (.bool (edB p k.toNat)), []⟩
def l16Ends_ct : List AD → Option Post
  | [.c (.ints .i64 (p)), .c (.int .i64 (k))] => some (l16Ends_p p k)
  | _ => none
def l16Ends_G : List (Nat × Ctr) := [(117, ⟨[], l01Back_ct⟩)]
def l16Ends_V (p : List Int) (k : Int) : Prop :=
  ((((room (List.length p)) ∧
 (rngB (↑(List.length p) : Int) p)) ∧
 (True)) ∧
 ((inB k (List.length (backL p))) ∧
 ((InR (k + (1 : Int))) ∧
 ((inB (k + (1 : Int)) (List.length (backL p))) ∧
 ((Decidable.decide (List.getD (backL p) (Int.toNat (k + (1 : Int))) (0 : Int) < List.getD (backL p) (Int.toNat k) (0 : Int)) = edB p (Int.toNat k)) ∧
 (True))))))
theorem l16Ends_vc (p : List Int) (k : Int) : runF Try.prog (gam l16Ends_G) noWr noAnn Try.f80 (bodyOf Try.f80) [] [.c (.ints .i64 (p)), .c (.int .i64 (k))] (l16Ends_p p k) = l16Ends_V p k := by kernel_rfl
theorem l16Ends_ok (p : List Int) (k : Int) (hpre : (l16Ends_p p k).pre) : l16Ends_V p k := by
  simp only [l16Ends_p, l16Ends_V, BrP_iff, true_and, and_true, decide_eq_true_eq, decide_eq_false_iff_not, bne_iff_ne, beq_iff_eq, bne_eq_false_iff_eq, beq_eq_false_iff_ne, Bool.not_eq_true, Bool.not_eq_false, Bool.not_true, Bool.not_false, Bool.not_eq_eq_eq_not, Int.toNat_natCast, List.length_append, List.length_take, List.length_replicate, List.length_set, List.length_map, List.length_drop, List.length_nil, List.length_cons, markL_length, inB, InR, room, bdsOk] at hpre ⊢
  obtain ⟨h1, h2, h3, h4⟩ := hpre
  have e : (k + 1).toNat = k.toNat + 1 := by omega
  have l : (backL p).length = p.length := backN_length _ _
  rw [e]
  exact ⟨⟨by omega, h4⟩, by omega, by omega, by omega, rfl⟩
theorem l16Ends_fits : Fits Try.prog 80 ⟨[], l16Ends_ct⟩ := by
  refine fits_fn (Γ := gam l16Ends_G) (gok_cons l01Back_fits gok_nil) Try.func80 (by kernel_rfl) (by kernel_rfl) (by kernel_rfl) fun ds p h hp => ?_
  unfold l16Ends_ct at h
  split at h
  · cases h
    exact ⟨noWr, noAnn, by rw [l16Ends_vc]; exact l16Ends_ok _ _  hp⟩
  · cases h

def l01ThenP_p (p : List Int) (q : List Int) : Post := ⟨p.length ≤ 1000 ∧ q.length = p.length ∧ rngB (p.length : Int) p, .c (.ints 2 .i64 (thP p q)), []⟩
def l01ThenP_ct : List AD → Option Post
  | [.c (.ints .i64 (p)), .c (.ints .i64 (q))] => some (l01ThenP_p p q)
  | _ => none
def l01ThenP_ann (p : List Int) (q : List Int) : Nat → Option Ann
  | 0 => some (Ann.mk ((Nat)) (fun i => ⟨[(0, .c (.ro (.ints .i64 (p)))), (1, .c (.ro (.ints .i64 (q)))), (5, .c (.own (10))), (6, .c (.int .i64 ((i : Int))))], [(10, some (.ints 2 .i64 ((thP p q).take i)))]⟩) (fun i => i ≤ p.length) (fun i => p.length - i) (fun _ => noAnn))
  | _ => none
def l01ThenP_G : List (Nat × Ctr) := []
def l01ThenP_V (p : List Int) (q : List Int) : Prop :=
  ((∃ x0 : Nat, ((x0 ≤ List.length p) ∧
 ((p = p) ∧
 ((q = q) ∧
 (((0 : Int) = (↑x0 : Int)) ∧
 ([] = List.take x0 (thP p q))))))) ∧
 (∀ x1 : Nat, ((x1 ≤ List.length p) →
 (BrP (Decidable.decide ((↑x1 : Int) < (↑(List.length p) : Int)))
 ((inB (↑x1 : Int) (List.length p)) ∧
 ((inB (List.getD p (Int.toNat (↑x1 : Int)) (0 : Int)) (List.length q)) ∧
 ((room (List.length (List.take x1 (thP p q)) + List.length [List.getD q (Int.toNat (List.getD p (Int.toNat (↑x1 : Int)) (0 : Int))) (0 : Int)])) ∧
 ((InR ((↑x1 : Int) + (1 : Int))) ∧
 (∃ x2 : Nat, ((x2 ≤ List.length p) ∧
 ((List.length p - x2 < List.length p - x1) ∧
 ((p = p) ∧
 ((q = q) ∧
 (((↑x1 : Int) + (1 : Int) = (↑x2 : Int)) ∧
 (List.take x1 (thP p q) ++ [List.getD q (Int.toNat (List.getD p (Int.toNat (↑x1 : Int)) (0 : Int))) (0 : Int)] = List.take x2 (thP p q))))))))))))
 ((List.take x1 (thP p q) = thP p q) ∧
 (True))))))
theorem l01ThenP_vc (p : List Int) (q : List Int) : runF Try.prog (gam l01ThenP_G) noWr (l01ThenP_ann p q) Try.f61 (bodyOf Try.f61) [] [.c (.ints .i64 (p)), .c (.ints .i64 (q))] (l01ThenP_p p q) = l01ThenP_V p q := by kernel_rfl
theorem l01ThenP_ok (p : List Int) (q : List Int) (hpre : (l01ThenP_p p q).pre) : l01ThenP_V p q := by
  simp only [l01ThenP_p, l01ThenP_V, BrP_iff, true_and, and_true, decide_eq_true_eq, decide_eq_false_iff_not, bne_iff_ne, beq_iff_eq, bne_eq_false_iff_eq, beq_eq_false_iff_ne, Bool.not_eq_true, Bool.not_eq_false, Bool.not_true, Bool.not_false, Bool.not_eq_eq_eq_not, Int.toNat_natCast, List.length_append, List.length_take, List.length_replicate, List.length_set, List.length_map, List.length_drop, List.length_nil, List.length_cons, markL_length, inB, InR, room, bdsOk] at hpre ⊢
  obtain ⟨h1, h2, h3⟩ := hpre
  have hl := thP_length p q
  refine ⟨⟨0, by omega, rfl, by simp⟩, fun i hi => ⟨fun h => ?_, fun h => ?_⟩⟩
  · have hr := rngB_get h3 i (by omega)
    refine ⟨by omega, by omega, by omega, by omega, i + 1, by omega, by omega, by omega, ?_⟩
    rw [← take_snoc (thP p q) 0 i (by omega), thP_get (by omega)]
  · exact List.take_of_length_le (by omega)
theorem l01ThenP_fits : Fits Try.prog 61 ⟨[], l01ThenP_ct⟩ := by
  refine fits_fn (Γ := gam l01ThenP_G) gok_nil Try.func61 (by kernel_rfl) (by kernel_rfl) (by kernel_rfl) fun ds p h hp => ?_
  unfold l01ThenP_ct at h
  split at h
  · cases h
    exact ⟨noWr, l01ThenP_ann _ _ , by rw [l01ThenP_vc]; exact l01ThenP_ok _ _  hp⟩
  · cases h

def thenP_p (p : List Int) (q : List Int) : Post := ⟨p.length ≤ 1000 ∧ q.length = p.length ∧ rngB (p.length : Int) p, .c (.ints 2 .i64 (thP p q)), []⟩
def thenP_ct : List AD → Option Post
  | [.c (.ints .i64 (p)), .c (.ints .i64 (q))] => some (thenP_p p q)
  | _ => none
def thenP_ann (p : List Int) (q : List Int) : Nat → Option Ann
  | 0 => some (Ann.mk ((Nat)) (fun i => ⟨[(0, .c (.ro (.ints .i64 (p)))), (1, .c (.ro (.ints .i64 (q)))), (5, .c (.own (10))), (11, .c (.ro (.ints .i64 (p)))), (12, .c (.int .i64 ((p.length : Int)))), (13, .c (.int .i64 ((i : Int))))], [(10, some (.ints 2 .i64 ((thP p q).take i ++ List.replicate ((thP p q).length - i) 0)))]⟩) (fun i => i ≤ p.length) (fun i => p.length - i) (fun _ => noAnn))
  | _ => none
def thenP_G : List (Nat × Ctr) := []
def thenP_V (p : List Int) (q : List Int) : Prop :=
  ((((0 : Int) ≤ (↑(List.length p) : Int)) ∧
 (((↑(List.length p) : Int) ≤ (↑(List.length p) : Int)) ∧
 (room (Int.toNat (↑(List.length p) : Int))))) ∧
 ((∃ x0 : Nat, ((x0 ≤ List.length p) ∧
 ((p = p) ∧
 ((q = q) ∧
 ((p = p) ∧
 (((↑(List.length p) : Int) = (↑(List.length p) : Int)) ∧
 (((0 : Int) = (↑x0 : Int)) ∧
 (List.replicate (Int.toNat (↑(List.length p) : Int)) (0 : Int) = List.take x0 (thP p q) ++ List.replicate (List.length (thP p q) - x0) (0 : Int))))))))) ∧
 (∀ x1 : Nat, ((x1 ≤ List.length p) →
 (BrP (Decidable.decide ((↑x1 : Int) < (↑(List.length p) : Int)))
 ((inB (↑x1 : Int) (List.length p)) ∧
 ((inB (List.getD p (Int.toNat (↑x1 : Int)) (0 : Int)) (List.length q)) ∧
 ((inB (↑x1 : Int) (List.length (List.take x1 (thP p q) ++ List.replicate (List.length (thP p q) - x1) (0 : Int)))) ∧
 ((InR ((↑x1 : Int) + (1 : Int))) ∧
 (∃ x2 : Nat, ((x2 ≤ List.length p) ∧
 ((List.length p - x2 < List.length p - x1) ∧
 ((p = p) ∧
 ((q = q) ∧
 ((p = p) ∧
 (((↑(List.length p) : Int) = (↑(List.length p) : Int)) ∧
 (((↑x1 : Int) + (1 : Int) = (↑x2 : Int)) ∧
 (List.set (List.take x1 (thP p q) ++ List.replicate (List.length (thP p q) - x1) (0 : Int)) (Int.toNat (↑x1 : Int)) (List.getD q (Int.toNat (List.getD p (Int.toNat (↑x1 : Int)) (0 : Int))) (0 : Int)) = List.take x2 (thP p q) ++ List.replicate (List.length (thP p q) - x2) (0 : Int))))))))))))))
 ((List.take x1 (thP p q) ++ List.replicate (List.length (thP p q) - x1) (0 : Int) = thP p q) ∧
 (True)))))))
theorem thenP_vc (p : List Int) (q : List Int) : runF Try.prog (gam thenP_G) noWr (thenP_ann p q) Try.f66 (bodyOf Try.f66) [] [.c (.ints .i64 (p)), .c (.ints .i64 (q))] (thenP_p p q) = thenP_V p q := by kernel_rfl
theorem thenP_ok (p : List Int) (q : List Int) (hpre : (thenP_p p q).pre) : thenP_V p q := by
  simp only [thenP_p, thenP_V, BrP_iff, true_and, and_true, decide_eq_true_eq, decide_eq_false_iff_not, bne_iff_ne, beq_iff_eq, bne_eq_false_iff_eq, beq_eq_false_iff_ne, Bool.not_eq_true, Bool.not_eq_false, Bool.not_true, Bool.not_false, Bool.not_eq_eq_eq_not, Int.toNat_natCast, List.length_append, List.length_take, List.length_replicate, List.length_set, List.length_map, List.length_drop, List.length_nil, List.length_cons, markL_length, inB, InR, room, bdsOk] at hpre ⊢
  obtain ⟨h1, h2, h3⟩ := hpre
  have hl := thP_length p q
  refine ⟨by omega, ⟨0, by omega, rfl, fill_start _ _ _ hl⟩, fun i hi => ⟨fun h => ?_, fun h => ?_⟩⟩
  · have hr := rngB_get h3 i (by omega)
    refine ⟨by omega, by omega, by omega, by omega, i + 1, by omega, by omega, by omega, ?_⟩
    rw [← fill_step (thP p q) 0 0 i (by omega), thP_get (by omega)]
  · exact fill_end _ _ _ (by omega)
theorem thenP_fits : Fits Try.prog 66 ⟨[], thenP_ct⟩ := by
  refine fits_fn (Γ := gam thenP_G) gok_nil Try.func66 (by kernel_rfl) (by kernel_rfl) (by kernel_rfl) fun ds p h hp => ?_
  unfold thenP_ct at h
  split at h
  · cases h
    exact ⟨noWr, thenP_ann _ _ , by rw [thenP_vc]; exact thenP_ok _ _  hp⟩
  · cases h

end Go.Sx
