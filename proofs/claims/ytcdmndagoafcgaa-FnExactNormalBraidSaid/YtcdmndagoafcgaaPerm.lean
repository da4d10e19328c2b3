/- Perm -/
import Derived.Test.YtcdmndagoafcgaaBraidSum
open Go Go.Proofs
namespace Go.Sx
set_option linter.unusedSimpArgs false
set_option linter.unusedVariables false

def unitL (n : Nat) : List Int := tab n fun i => (i : Int)

/-- The inverse, as far as i places are written. -/
def backN (p : List Int) : Nat → List Int
  | 0 => List.replicate p.length 0
  | i + 1 => (backN p i).set (p.getD i 0).toNat (i : Int)

theorem backN_length (p : List Int) : ∀ i, (backN p i).length = p.length
  | 0 => by simp [backN]
  | i + 1 => by simp [backN, backN_length p i]

def backL (p : List Int) : List Int := backN p p.length

def swapAt (l : List Int) (k : Nat) : List Int := (l.set k (l.getD (k + 1) 0)).set (k + 1) (l.getD k 0)

theorem swapAt_length (l : List Int) (k : Nat) : (swapAt l k).length = l.length := by simp [swapAt]

def plc (x : Int) : Int := x * sgn x - 1

theorem plc_in {s : Int} {w : List Int} (h : braidB s w = true) (i : Nat) (hi : i < w.length) : 0 ≤ plc (w.getD i 0) ∧ plc (w.getD i 0) ≤ s - 2 := by
  have h1 := braidB_get h i hi
  unfold plc sgn
  split <;> omega

def permN (s : Int) (w : List Int) : Nat → List Int
  | 0 => unitL s.toNat
  | i + 1 => swapAt (permN s w i) (plc (w.getD i 0)).toNat

theorem permN_length (s : Int) (w : List Int) : ∀ i, (permN s w i).length = s.toNat
  | 0 => by simp [permN, unitL, tab_length]
  | i + 1 => by simp [permN, swapAt_length, permN_length s w i]

def permL (s : Int) (w : List Int) : List Int := permN s w w.length

def rngB (n : Int) (l : List Int) : Prop := ∀ x ∈ l, 0 ≤ x ∧ x < n

theorem rngB_get {n : Int} {l : List Int} (h : rngB n l) (i : Nat) (hi : i < l.length) : 0 ≤ l.getD i 0 ∧ l.getD i 0 < n := h _ (getD_mem l 0 i hi)

theorem rngB_set {n : Int} {l : List Int} (h : rngB n l) {a : Nat} {v : Int} (hv : 0 ≤ v ∧ v < n) : rngB n (l.set a v) := fun x hx => by
  rcases mem_set hx with hx | rfl
  · exact h x hx
  · exact hv

theorem rngB_swap {n : Int} {l : List Int} (h : rngB n l) {k : Nat} (hk : k + 1 < l.length) : rngB n (swapAt l k) :=
  rngB_set (rngB_set h (rngB_get h _ hk)) (rngB_get h _ (by omega))

theorem rngB_unit (n : Nat) : rngB (n : Int) (unitL n) := fun x hx => by
  simp only [unitL, tab, List.mem_map, List.mem_range] at hx
  obtain ⟨i, hi, rfl⟩ := hx
  omega

theorem rngB_perm {s : Int} {w : List Int} (h : braidB s w = true) : ∀ i, i ≤ w.length → rngB s (permN s w i)
  | 0, _ => by
    have hs := braidB_s h
    have := rngB_unit s.toNat
    rw [show ((s.toNat : Nat) : Int) = s by omega] at this
    exact this
  | i + 1, hi => by
    have hs := braidB_s h
    have hp := plc_in h i (by omega)
    exact rngB_swap (rngB_perm h i (by omega)) (by rw [permN_length]; omega)

def permC (s : Int) (w : List Int) : List Int × Int := if braidB s w = true then (backL (permL s w), 0) else ([], 1)

theorem permC_no {s : Int} {w : List Int} (h : braidB s w = false) : [] = (permC s w).1 ∧ 1 = (permC s w).2 := by simp [permC, h]
theorem permC_yes {s : Int} {w : List Int} (h : braidB s w = true) : backL (permL s w) = (permC s w).1 ∧ 0 = (permC s w).2 := by simp [permC, h]
theorem permC_len (s : Int) (w : List Int) : (permC s w).1.length ≤ 6 := by
  unfold permC
  split
  · rename_i h
    have := braidB_s h
    simp only [backL, backN_length, permL, permN_length]
    omega
  · simp

def incB : List Int → Bool
  | x :: y :: r => decide (x < y) && incB (y :: r)
  | _ => true

theorem incB_drop (l : List Int) (i : Nat) (h : i + 1 < l.length) : incB (l.drop i) = (decide (l.getD i 0 < l.getD (i + 1) 0) && incB (l.drop (i + 1))) := by
  rw [drop_cons' l 0 i (by omega), drop_cons' l 0 (i + 1) h]
  rfl

theorem incB_short (l : List Int) (i : Nat) (h : l.length ≤ i + 1) : incB (l.drop i) = true := by
  by_cases hi : i < l.length
  · rw [drop_cons' l 0 i hi, List.drop_of_length_le h]; rfl
  · rw [List.drop_of_length_le (by omega)]; rfl

theorem incB_get {l : List Int} (h : incB l = true) (i : Nat) (hi : i + 1 < l.length) : l.getD i 0 < l.getD (i + 1) 0 := by
  have : ∀ j, j ≤ i → incB (l.drop j) = true := fun j => by
    induction j with
    | zero => intro _; simpa using h
    | succ j ih =>
      intro hj
      have := ih (by omega)
      rw [incB_drop l j (by omega), Bool.and_eq_true] at this
      exact this.2
  have := this i (Nat.le_refl _)
  rw [incB_drop l i hi, Bool.and_eq_true] at this
  exact of_decide_eq_true this.1

/-- Increasing numbers of 0..n-1, n of them, are all in order. -/
theorem inc_unit {l : List Int} (hr : rngB (l.length : Int) l) : incB l = decide (l = unitL l.length) := by
  cases hc : incB l with
  | true =>
    symm
    apply decide_eq_true
    have low : ∀ i, i < l.length → (i : Int) ≤ l.getD i 0 := fun i => by
      induction i with
      | zero => intro hi; exact (rngB_get hr 0 hi).1
      | succ i ih =>
        intro hi
        have h1 := ih (by omega)
        have h2 := incB_get hc i hi
        omega
    have high : ∀ j i, i + j + 1 = l.length → l.getD i 0 ≤ (i : Int) := fun j => by
      induction j with
      | zero =>
        intro i hi
        have := rngB_get hr i (by omega)
        omega
      | succ j ih =>
        intro i hi
        have h1 := ih (i + 1) (by omega)
        have h2 := incB_get hc i (by omega)
        omega
    apply list_ext (by simp [unitL, tab_length])
    intro i hi
    rw [unitL, tab_getD _ _ _ hi]
    have h1 := low i hi
    have h2 := high (l.length - i - 1) i (by omega)
    omega
  | false =>
    symm
    apply decide_eq_false
    intro he
    have : ∀ n i, n - i ≤ n → incB ((unitL n).drop (n - i)) = true := fun n i => by
      induction i with
      | zero => intro _; exact incB_short _ _ (by simp [unitL, tab_length])
      | succ i ih =>
        intro hi
        by_cases hn : i + 1 ≤ n
        · by_cases h1 : i = 0
          · subst h1; exact incB_short _ _ (by simp [unitL, tab_length]; omega)
          · rw [incB_drop _ _ (by simp [unitL, tab_length]; omega), Bool.and_eq_true]
            refine ⟨decide_eq_true ?_, ?_⟩
            · rw [unitL, tab_getD _ _ _ (by omega), tab_getD _ _ _ (by omega)]; omega
            · rw [show n - (i + 1) + 1 = n - i by omega]; exact ih (by omega)
        · have := ih (by omega)
          rwa [show n - (i + 1) = n - i by omega]
    have := this l.length l.length (by omega)
    rw [Nat.sub_self, List.drop_zero, ← he, hc] at this
    cases this

def identity_p (n : Int) : Post := ⟨0 ≤ n ∧ n ≤ 1099511627776, .c (.ints 2 .i64 (unitL n.toNat)), []⟩
def identity_ct : List AD → Option Post
  | [.c (.int .i64 (n))] => some (identity_p n)
  | _ => none
def identity_ann (n : Int) : Nat → Option Ann
  | 0 => some (Ann.mk ((Nat)) (fun i => ⟨[(3, .c (.own (10))), (8, .c (.int .i64 (n))), (9, .c (.int .i64 ((i : Int))))], [(10, some (.ints 2 .i64 ((unitL n.toNat).take i ++ List.replicate ((unitL n.toNat).length - i) 0)))]⟩) (fun i => i ≤ n.toNat) (fun i => n.toNat - i) (fun _ => noAnn))
  | _ => none
def identity_G : List (Nat × Ctr) := []
def identity_V (n : Int) : Prop :=
  ((((0 : Int) ≤ n) ∧
 ((n ≤ n) ∧
 (room (Int.toNat n)))) ∧
 ((∃ x0 : Nat, ((x0 ≤ Int.toNat n) ∧
 (((↑(List.length (List.replicate (Int.toNat n) (0 : Int))) : Int) = n) ∧
 (((0 : Int) = (↑x0 : Int)) ∧
 (List.replicate (Int.toNat n) (0 : Int) = List.take x0 (unitL (Int.toNat n)) ++ List.replicate (List.length (unitL (Int.toNat n)) - x0) (0 : Int)))))) ∧
 (∀ x1 : Nat, ((x1 ≤ Int.toNat n) →
 (BrP (Decidable.decide ((↑x1 : Int) < n))
 ((inB (↑x1 : Int) (List.length (List.take x1 (unitL (Int.toNat n)) ++ List.replicate (List.length (unitL (Int.toNat n)) - x1) (0 : Int)))) ∧
 ((InR ((↑x1 : Int) + (1 : Int))) ∧
 (∃ x2 : Nat, ((x2 ≤ Int.toNat n) ∧
 ((Int.toNat n - x2 < Int.toNat n - x1) ∧
 ((n = n) ∧
 (((↑x1 : Int) + (1 : Int) = (↑x2 : Int)) ∧
 (List.set (List.take x1 (unitL (Int.toNat n)) ++ List.replicate (List.length (unitL (Int.toNat n)) - x1) (0 : Int)) (Int.toNat (↑x1 : Int)) (↑x1 : Int) = List.take x2 (unitL (Int.toNat n)) ++ List.replicate (List.length (unitL (Int.toNat n)) - x2) (0 : Int)))))))))
 ((List.take x1 (unitL (Int.toNat n)) ++ List.replicate (List.length (unitL (Int.toNat n)) - x1) (0 : Int) = unitL (Int.toNat n)) ∧
 (True)))))))
theorem identity_vc (n : Int) : runF Try.prog (gam identity_G) noWr (identity_ann n) Try.f119 (bodyOf Try.f119) [] [.c (.int .i64 (n))] (identity_p n) = identity_V n := by kernel_rfl
theorem identity_ok (n : Int) (hpre : (identity_p n).pre) : identity_V n := by
  simp only [identity_p, identity_V, BrP_iff, true_and, and_true, decide_eq_true_eq, decide_eq_false_iff_not, bne_iff_ne, beq_iff_eq, bne_eq_false_iff_eq, beq_eq_false_iff_ne, Bool.not_eq_true, Bool.not_eq_false, Bool.not_true, Bool.not_false, Bool.not_eq_eq_eq_not, Int.toNat_natCast, List.length_append, List.length_take, List.length_replicate, List.length_set, List.length_map, List.length_drop, List.length_nil, List.length_cons, markL_length, inB, InR, room, bdsOk] at hpre ⊢
  have hl : (unitL n.toNat).length = n.toNat := by simp [unitL, tab_length]
  refine ⟨by omega, ⟨0, by omega, by omega, rfl, fill_start _ _ _ hl⟩, fun i hi => ⟨fun h => ⟨by omega, by omega, i + 1, by omega, by omega, by omega, ?_⟩, fun h => ?_⟩⟩
  · rw [← fill_step (unitL n.toNat) 0 0 i (by omega), unitL, tab_getD _ _ _ (by omega)]
  · exact fill_end _ _ _ (by omega)
theorem identity_fits : Fits Try.prog 119 ⟨[], identity_ct⟩ := by
  refine fits_fn (Γ := gam identity_G) gok_nil Try.func119 (by kernel_rfl) (by kernel_rfl) (by kernel_rfl) fun ds p h hp => ?_
  unfold identity_ct at h
  split at h
  · cases h
    exact ⟨noWr, identity_ann _ , by rw [identity_vc]; exact identity_ok _  hp⟩
  · cases h

def l01Unit_p (n : Int) : Post := ⟨0 ≤ n ∧ n ≤ 1099511627776, .c (.ints 2 .i64 (unitL n.toNat)), []⟩
def l01Unit_ct : List AD → Option Post
  | [.c (.int .i64 (n))] => some (l01Unit_p n)
  | _ => none
def l01Unit_ann (n : Int) : Nat → Option Ann
  | 0 => some (Ann.mk ((Nat)) (fun i => ⟨[(0, .c (.int .i64 (n))), (3, .c (.own (10))), (4, .c (.int .i64 ((i : Int))))], [(10, some (.ints 2 .i64 ((unitL n.toNat).take i)))]⟩) (fun i => i ≤ n.toNat) (fun i => n.toNat - i) (fun _ => noAnn))
  | _ => none
def l01Unit_G : List (Nat × Ctr) := []
def l01Unit_V (n : Int) : Prop :=
  ((∃ x0 : Nat, ((x0 ≤ Int.toNat n) ∧
 ((n = n) ∧
 (((0 : Int) = (↑x0 : Int)) ∧
 ([] = List.take x0 (unitL (Int.toNat n))))))) ∧
 (∀ x1 : Nat, ((x1 ≤ Int.toNat n) →
 (BrP (Decidable.decide ((↑x1 : Int) < n))
 ((room (List.length (List.take x1 (unitL (Int.toNat n))) + List.length [(↑x1 : Int)])) ∧
 ((InR ((↑x1 : Int) + (1 : Int))) ∧
 (∃ x2 : Nat, ((x2 ≤ Int.toNat n) ∧
 ((Int.toNat n - x2 < Int.toNat n - x1) ∧
 ((n = n) ∧
 (((↑x1 : Int) + (1 : Int) = (↑x2 : Int)) ∧
 (List.take x1 (unitL (Int.toNat n)) ++ [(↑x1 : Int)] = List.take x2 (unitL (Int.toNat n))))))))))
 ((List.take x1 (unitL (Int.toNat n)) = unitL (Int.toNat n)) ∧
 (True))))))
theorem l01Unit_vc (n : Int) : runF Try.prog (gam l01Unit_G) noWr (l01Unit_ann n) Try.f82 (bodyOf Try.f82) [] [.c (.int .i64 (n))] (l01Unit_p n) = l01Unit_V n := by kernel_rfl
theorem l01Unit_ok (n : Int) (hpre : (l01Unit_p n).pre) : l01Unit_V n := by
  simp only [l01Unit_p, l01Unit_V, BrP_iff, true_and, and_true, decide_eq_true_eq, decide_eq_false_iff_not, bne_iff_ne, beq_iff_eq, bne_eq_false_iff_eq, beq_eq_false_iff_ne, Bool.not_eq_true, Bool.not_eq_false, Bool.not_true, Bool.not_false, Bool.not_eq_eq_eq_not, Int.toNat_natCast, List.length_append, List.length_take, List.length_replicate, List.length_set, List.length_map, List.length_drop, List.length_nil, List.length_cons, markL_length, inB, InR, room, bdsOk] at hpre ⊢
  have hl : (unitL n.toNat).length = n.toNat := by simp [unitL, tab_length]
  refine ⟨⟨0, by omega, rfl, by simp⟩, fun i hi => ⟨fun h => ⟨by omega, by omega, i + 1, by omega, by omega, by omega, ?_⟩, fun h => ?_⟩⟩
  · rw [← take_snoc (unitL n.toNat) 0 i (by omega), unitL, tab_getD _ _ _ (by omega)]
  · exact List.take_of_length_le (by omega)
theorem l01Unit_fits : Fits Try.prog 82 ⟨[], l01Unit_ct⟩ := by
  refine fits_fn (Γ := gam l01Unit_G) gok_nil Try.func82 (by kernel_rfl) (by kernel_rfl) (by kernel_rfl) fun ds p h hp => ?_
  unfold l01Unit_ct at h
  split at h
  · cases h
    exact ⟨noWr, l01Unit_ann _ , by rw [l01Unit_vc]; exact l01Unit_ok _  hp⟩
  · cases h

def inverse_p (p : List Int) : Post := ⟨room p.length ∧ rngB (p.length : Int) p, .c (.ints 2 .i64 (backL p)), []⟩
def inverse_ct : List AD → Option Post
  | [.c (.ints .i64 (p))] => some (inverse_p p)
  | _ => none
def inverse_ann (p : List Int) : Nat → Option Ann
  | 0 => some (Ann.mk ((Nat)) (fun i => ⟨[(3, .c (.own (10))), (9, .c (.ro (.ints .i64 (p)))), (10, .c (.int .i64 ((p.length : Int)))), (11, .c (.int .i64 ((i : Int))))], [(10, some (.ints 2 .i64 (backN p i)))]⟩) (fun i => i ≤ p.length) (fun i => p.length - i) (fun _ => noAnn))
  | _ => none
def inverse_G : List (Nat × Ctr) := []
def inverse_V (p : List Int) : Prop :=
  ((((0 : Int) ≤ (↑(List.length p) : Int)) ∧
 (((↑(List.length p) : Int) ≤ (↑(List.length p) : Int)) ∧
 (room (Int.toNat (↑(List.length p) : Int))))) ∧
 ((∃ x0 : Nat, ((x0 ≤ List.length p) ∧
 ((p = p) ∧
 (((↑(List.length p) : Int) = (↑(List.length p) : Int)) ∧
 (((0 : Int) = (↑x0 : Int)) ∧
 (List.replicate (Int.toNat (↑(List.length p) : Int)) (0 : Int) = backN p x0)))))) ∧
 (∀ x1 : Nat, ((x1 ≤ List.length p) →
 (BrP (Decidable.decide ((↑x1 : Int) < (↑(List.length p) : Int)))
 ((inB (↑x1 : Int) (List.length p)) ∧
 ((inB (List.getD p (Int.toNat (↑x1 : Int)) (0 : Int)) (List.length (backN p x1))) ∧
 ((InR ((↑x1 : Int) + (1 : Int))) ∧
 (∃ x2 : Nat, ((x2 ≤ List.length p) ∧
 ((List.length p - x2 < List.length p - x1) ∧
 ((p = p) ∧
 (((↑(List.length p) : Int) = (↑(List.length p) : Int)) ∧
 (((↑x1 : Int) + (1 : Int) = (↑x2 : Int)) ∧
 (List.set (backN p x1) (Int.toNat (List.getD p (Int.toNat (↑x1 : Int)) (0 : Int))) (↑x1 : Int) = backN p x2))))))))))
 ((backN p x1 = backL p) ∧
 (True)))))))
theorem inverse_vc (p : List Int) : runF Try.prog (gam inverse_G) noWr (inverse_ann p) Try.f122 (bodyOf Try.f122) [] [.c (.ints .i64 (p))] (inverse_p p) = inverse_V p := by kernel_rfl
theorem inverse_ok (p : List Int) (hpre : (inverse_p p).pre) : inverse_V p := by
  simp only [inverse_p, inverse_V, BrP_iff, true_and, and_true, decide_eq_true_eq, decide_eq_false_iff_not, bne_iff_ne, beq_iff_eq, bne_eq_false_iff_eq, beq_eq_false_iff_ne, Bool.not_eq_true, Bool.not_eq_false, Bool.not_true, Bool.not_false, Bool.not_eq_eq_eq_not, Int.toNat_natCast, List.length_append, List.length_take, List.length_replicate, List.length_set, List.length_map, List.length_drop, List.length_nil, List.length_cons, markL_length, inB, InR, room, bdsOk] at hpre ⊢
  obtain ⟨h1, h2⟩ := hpre
  refine ⟨by omega, ⟨0, by omega, rfl, rfl⟩, fun i hi => ⟨fun h => ?_, fun h => ?_⟩⟩
  · have hr := rngB_get h2 i (by omega)
    rw [backN_length]
    exact ⟨by omega, by omega, by omega, i + 1, by omega, by omega, by omega, rfl⟩
  · rw [show i = p.length by omega]; rfl
theorem inverse_fits : Fits Try.prog 122 ⟨[], inverse_ct⟩ := by
  refine fits_fn (Γ := gam inverse_G) gok_nil Try.func122 (by kernel_rfl) (by kernel_rfl) (by kernel_rfl) fun ds p h hp => ?_
  unfold inverse_ct at h
  split at h
  · cases h
    exact ⟨noWr, inverse_ann _ , by rw [inverse_vc]; exact inverse_ok _  hp⟩
  · cases h

def l01Back_p (p : List Int) : Post := ⟨room p.length ∧ rngB (p.length : Int) p, .c (.ints 2 .i64 (backL p)), []⟩
def l01Back_ct : List AD → Option Post
  | [.c (.ints .i64 (p))] => some (l01Back_p p)
  | _ => none
def l01Back_ann (p : List Int) : Nat → Option Ann
  | 0 => some (Ann.mk ((Nat)) (fun i => ⟨[(0, .c (.ro (.ints .i64 (p)))), (3, .c (.own (10))), (4, .c (.int .i64 ((i : Int))))], [(10, some (.ints 2 .i64 (backN p i)))]⟩) (fun i => i ≤ p.length) (fun i => p.length - i) (fun _ => noAnn))
  | _ => none
def l01Back_G : List (Nat × Ctr) := []
def l01Back_V (p : List Int) : Prop :=
  ((((0 : Int) ≤ (↑(List.length p) : Int)) ∧
 (((↑(List.length p) : Int) ≤ (↑(List.length p) : Int)) ∧
 (room (Int.toNat (↑(List.length p) : Int))))) ∧
 ((∃ x0 : Nat, ((x0 ≤ List.length p) ∧
 ((p = p) ∧
 (((0 : Int) = (↑x0 : Int)) ∧
 (List.replicate (Int.toNat (↑(List.length p) : Int)) (0 : Int) = backN p x0))))) ∧
 (∀ x1 : Nat, ((x1 ≤ List.length p) →
 (BrP (Decidable.decide ((↑x1 : Int) < (↑(List.length p) : Int)))
 ((inB (↑x1 : Int) (List.length p)) ∧
 ((inB (List.getD p (Int.toNat (↑x1 : Int)) (0 : Int)) (List.length (backN p x1))) ∧
 ((InR ((↑x1 : Int) + (1 : Int))) ∧
 (∃ x2 : Nat, ((x2 ≤ List.length p) ∧
 ((List.length p - x2 < List.length p - x1) ∧
 ((p = p) ∧
 (((↑x1 : Int) + (1 : Int) = (↑x2 : Int)) ∧
 (List.set (backN p x1) (Int.toNat (List.getD p (Int.toNat (↑x1 : Int)) (0 : Int))) (↑x1 : Int) = backN p x2)))))))))
 ((backN p x1 = backL p) ∧
 (True)))))))
theorem l01Back_vc (p : List Int) : runF Try.prog (gam l01Back_G) noWr (l01Back_ann p) Try.f117 (bodyOf Try.f117) [] [.c (.ints .i64 (p))] (l01Back_p p) = l01Back_V p := by kernel_rfl
theorem l01Back_ok (p : List Int) (hpre : (l01Back_p p).pre) : l01Back_V p := by
  simp only [l01Back_p, l01Back_V, BrP_iff, true_and, and_true, decide_eq_true_eq, decide_eq_false_iff_not, bne_iff_ne, beq_iff_eq, bne_eq_false_iff_eq, beq_eq_false_iff_ne, Bool.not_eq_true, Bool.not_eq_false, Bool.not_true, Bool.not_false, Bool.not_eq_eq_eq_not, Int.toNat_natCast, List.length_append, List.length_take, List.length_replicate, List.length_set, List.length_map, List.length_drop, List.length_nil, List.length_cons, markL_length, inB, InR, room, bdsOk] at hpre ⊢
  obtain ⟨h1, h2⟩ := hpre
  refine ⟨by omega, ⟨0, by omega, rfl, rfl⟩, fun i hi => ⟨fun h => ?_, fun h => ?_⟩⟩
  · have hr := rngB_get h2 i (by omega)
    rw [backN_length]
    exact ⟨by omega, by omega, by omega, i + 1, by omega, by omega, by omega, rfl⟩
  · rw [show i = p.length by omega]; rfl
theorem l01Back_fits : Fits Try.prog 117 ⟨[], l01Back_ct⟩ := by
  refine fits_fn (Γ := gam l01Back_G) gok_nil Try.func117 (by kernel_rfl) (by kernel_rfl) (by kernel_rfl) fun ds p h hp => ?_
  unfold l01Back_ct at h
  split at h
  · cases h
    exact ⟨noWr, l01Back_ann _ , by rw [l01Back_vc]; exact l01Back_ok _  hp⟩
  · cases h

def placeOf_p (x : Int) : Post := ⟨-1000000 ≤ x ∧ x ≤ 1000000, .c (.int .i64 (plc x)), []⟩
def placeOf_ct : List AD → Option Post
  | [.c (.int .i64 (x))] => some (placeOf_p x)
  | _ => none
def placeOf_G : List (Nat × Ctr) := [(121, ⟨[], signOf_ct⟩)]
def placeOf_V (x : Int) : Prop :=
  (((True) ∧
 (True)) ∧
 ((InR (x * sgn x)) ∧
 ((InR (x * sgn x - (1 : Int))) ∧
 ((x * sgn x - (1 : Int) = plc x) ∧
 (True)))))
theorem placeOf_vc (x : Int) : runF Try.prog (gam placeOf_G) noWr noAnn Try.f90 (bodyOf Try.f90) [] [.c (.int .i64 (x))] (placeOf_p x) = placeOf_V x := by kernel_rfl
theorem placeOf_ok (x : Int) (hpre : (placeOf_p x).pre) : placeOf_V x := by
  simp only [placeOf_p, placeOf_V, BrP_iff, true_and, and_true, decide_eq_true_eq, decide_eq_false_iff_not, bne_iff_ne, beq_iff_eq, bne_eq_false_iff_eq, beq_eq_false_iff_ne, Bool.not_eq_true, Bool.not_eq_false, Bool.not_true, Bool.not_false, Bool.not_eq_eq_eq_not, Int.toNat_natCast, List.length_append, List.length_take, List.length_replicate, List.length_set, List.length_map, List.length_drop, List.length_nil, List.length_cons, markL_length, inB, InR, room, bdsOk] at hpre ⊢
  unfold plc sgn
  split <;> omega
theorem placeOf_fits : Fits Try.prog 90 ⟨[], placeOf_ct⟩ := by
  refine fits_fn (Γ := gam placeOf_G) (gok_cons signOf_fits gok_nil) Try.func90 (by kernel_rfl) (by kernel_rfl) (by kernel_rfl) fun ds p h hp => ?_
  unfold placeOf_ct at h
  split at h
  · cases h
    exact ⟨noWr, noAnn, by rw [placeOf_vc]; exact placeOf_ok _  hp⟩
  · cases h

def l16Place_p (x : Int) : Post := ⟨-1000000 ≤ x ∧ x ≤ 1000000, .c (.int .i64 (plc x)), []⟩
def l16Place_ct : List AD → Option Post
  | [.c (.int .i64 (x))] => some (l16Place_p x)
  | _ => none
def l16Place_G : List (Nat × Ctr) := []
def l16Place_V (x : Int) : Prop :=
  (BrP (Decidable.decide (x < (0 : Int)))
 ((InR (-x)) ∧
 ((InR (-x - (1 : Int))) ∧
 ((-x - (1 : Int) = plc x) ∧
 (True))))
 ((InR (x - (1 : Int))) ∧
 ((x - (1 : Int) = plc x) ∧
 (True))))
theorem l16Place_vc (x : Int) : runF Try.prog (gam l16Place_G) noWr noAnn Try.f76 (bodyOf Try.f76) [] [.c (.int .i64 (x))] (l16Place_p x) = l16Place_V x := by kernel_rfl
theorem l16Place_ok (x : Int) (hpre : (l16Place_p x).pre) : l16Place_V x := by
  simp only [l16Place_p, l16Place_V, BrP_iff, true_and, and_true, decide_eq_true_eq, decide_eq_false_iff_not, bne_iff_ne, beq_iff_eq, bne_eq_false_iff_eq, beq_eq_false_iff_ne, Bool.not_eq_true, Bool.not_eq_false, Bool.not_true, Bool.not_false, Bool.not_eq_eq_eq_not, Int.toNat_natCast, List.length_append, List.length_take, List.length_replicate, List.length_set, List.length_map, List.length_drop, List.length_nil, List.length_cons, markL_length, inB, InR, room, bdsOk] at hpre ⊢
  unfold plc sgn
  refine ⟨fun h => ?_, fun h => ?_⟩
  · rw [if_pos h]; omega
  · rw [if_neg h]; omega
theorem l16Place_fits : Fits Try.prog 76 ⟨[], l16Place_ct⟩ := by
  refine fits_fn (Γ := gam l16Place_G) gok_nil Try.func76 (by kernel_rfl) (by kernel_rfl) (by kernel_rfl) fun ds p h hp => ?_
  unfold l16Place_ct at h
  split at h
  · cases h
    exact ⟨noWr, noAnn, by rw [l16Place_vc]; exact l16Place_ok _  hp⟩
  · cases h










def l01SameP_p (a : List Int) (b : List Int) : Post := ⟨room a.length, .c (.bool (decide (a = b))), []⟩
def l01SameP_ct : List AD → Option Post
  | [.c (.ints .i64 (a)), .c (.ints .i64 (b))] => some (l01SameP_p a b)
  | _ => none
def l01SameP_ann (a : List Int) (b : List Int) : Nat → Option Ann
  | 0 => some (Ann.mk ((Nat)) (fun i => ⟨[(0, .c (.ro (.ints .i64 (a)))), (1, .c (.ro (.ints .i64 (b)))), (5, .c (.int .i64 ((i : Int))))], []⟩) (fun i => i ≤ a.length ∧ a.length = b.length ∧ a.take i = b.take i) (fun i => a.length - i) (fun _ => noAnn))
  | _ => none
def l01SameP_G : List (Nat × Ctr) := []
def l01SameP_V (a : List Int) (b : List Int) : Prop :=
  (BrP ((↑(List.length a) : Int) != (↑(List.length b) : Int))
 ((Bool.false = Decidable.decide (a = b)) ∧
 (True))
 ((∃ x0 : Nat, (((x0 ≤ List.length a) ∧
 ((List.length a = List.length b) ∧
 (List.take x0 a = List.take x0 b))) ∧
 ((a = a) ∧
 ((b = b) ∧
 ((0 : Int) = (↑x0 : Int)))))) ∧
 (∀ x1 : Nat, (((x1 ≤ List.length a) ∧
 ((List.length a = List.length b) ∧
 (List.take x1 a = List.take x1 b))) →
 (BrP (Decidable.decide ((↑x1 : Int) < (↑(List.length a) : Int)))
 ((inB (↑x1 : Int) (List.length a)) ∧
 ((inB (↑x1 : Int) (List.length b)) ∧
 (BrP (List.getD a (Int.toNat (↑x1 : Int)) (0 : Int) != List.getD b (Int.toNat (↑x1 : Int)) (0 : Int))
 ((Bool.false = Decidable.decide (a = b)) ∧
 (True))
 ((InR ((↑x1 : Int) + (1 : Int))) ∧
 (∃ x2 : Nat, (((x2 ≤ List.length a) ∧
 ((List.length a = List.length b) ∧
 (List.take x2 a = List.take x2 b))) ∧
 ((List.length a - x2 < List.length a - x1) ∧
 ((a = a) ∧
 ((b = b) ∧
 ((↑x1 : Int) + (1 : Int) = (↑x2 : Int)))))))))))
 ((Bool.true = Decidable.decide (a = b)) ∧
 (True)))))))
theorem l01SameP_vc (a : List Int) (b : List Int) : runF Try.prog (gam l01SameP_G) noWr (l01SameP_ann a b) Try.f81 (bodyOf Try.f81) [] [.c (.ints .i64 (a)), .c (.ints .i64 (b))] (l01SameP_p a b) = l01SameP_V a b := by kernel_rfl
theorem l01SameP_ok (a : List Int) (b : List Int) (hpre : (l01SameP_p a b).pre) : l01SameP_V a b := by
  simp only [l01SameP_p, l01SameP_V, BrP_iff, true_and, and_true, decide_eq_true_eq, decide_eq_false_iff_not, bne_iff_ne, beq_iff_eq, bne_eq_false_iff_eq, beq_eq_false_iff_ne, Bool.not_eq_true, Bool.not_eq_false, Bool.not_true, Bool.not_false, Bool.not_eq_eq_eq_not, Int.toNat_natCast, List.length_append, List.length_take, List.length_replicate, List.length_set, List.length_map, List.length_drop, List.length_nil, List.length_cons, markL_length, inB, InR, room, bdsOk] at hpre ⊢
  refine ⟨fun h => ?_, fun h => ⟨⟨0, ⟨by omega, by omega, rfl⟩, by simp⟩, fun i hi => ⟨fun h1 => ⟨by omega, by omega, fun h2 => ?_, fun h2 => ⟨by omega, i + 1, ⟨by omega, hi.2.1, ?_⟩, by omega, by omega⟩⟩, fun h1 => ?_⟩⟩⟩
  · exact (decide_eq_false fun e => h (by rw [e])).symm
  · exact (decide_eq_false fun e => h2 (by rw [e])).symm
  · exact (take_eq_step a b 0 i (by omega) (by omega) hi.2.2).2 h2
  · refine (decide_eq_true ?_).symm
    have := hi.2.2
    rwa [List.take_of_length_le (by omega), List.take_of_length_le (by omega)] at this
theorem l01SameP_fits : Fits Try.prog 81 ⟨[], l01SameP_ct⟩ := by
  refine fits_fn (Γ := gam l01SameP_G) gok_nil Try.func81 (by kernel_rfl) (by kernel_rfl) (by kernel_rfl) fun ds p h hp => ?_
  unfold l01SameP_ct at h
  split at h
  · cases h
    exact ⟨noWr, l01SameP_ann _ _ , by rw [l01SameP_vc]; exact l01SameP_ok _ _  hp⟩
  · cases h

def pureC (s : Int) (w : List Int) : Bool × Int := if braidB s w = true then (decide (backL (permL s w) = unitL s.toNat), 0) else (false, 1)

theorem rngB_back (p : List Int) : ∀ i, i ≤ p.length → rngB (p.length : Int) (backN p i)
  | 0, _ => fun x hx => by
    simp only [backN, List.mem_replicate] at hx
    omega
  | i + 1, hi => rngB_set (rngB_back p i (by omega)) (by omega)

theorem pure_eq {s : Int} {w : List Int} (h : braidB s w = true) : incB (backL (permL s w)) = decide (backL (permL s w) = unitL s.toNat) := by
  have hl : (backL (permL s w)).length = s.toNat := by rw [backL, backN_length, permL, permN_length]
  have hr := rngB_back (permL s w) _ (Nat.le_refl _)
  have hp : (permL s w).length = s.toNat := permN_length s w _
  have := inc_unit (l := backL (permL s w)) (by rw [hl, ← hp]; exact hr)
  rw [hl] at this
  exact this




end Go.Sx
