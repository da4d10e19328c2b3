/- Contracts on the way of BraidPermutation and IsPureBraid. -/
import Derived.Test.YtldbhkpeppgneaaBraidSum
open Go Go.Proofs
namespace Go.Sx
set_option linter.unusedSimpArgs false
set_option linter.unusedVariables false

def unitL (n : Nat) : List Int := tab n fun i => (i : Int)

/-- The inverse, as far as i places are written. -/
def backN (p : List Int) : Nat → List Int
  | 0 => List.replicate p.length 0
  | i + 1 => (backN p i).set (p.getD i 0).toNat (i : Int)

theorem backN_length (p : List Int) : ∀ i, (backN p i).length = p.length
  | 0 => by simp [backN]
  | i + 1 => by simp [backN, backN_length p i]

def backL (p : List Int) : List Int := backN p p.length

def swapAt (l : List Int) (k : Nat) : List Int := (l.set k (l.getD (k + 1) 0)).set (k + 1) (l.getD k 0)

theorem swapAt_length (l : List Int) (k : Nat) : (swapAt l k).length = l.length := by simp [swapAt]

def plc (x : Int) : Int := x * sgn x - 1

theorem plc_in {s : Int} {w : List Int} (h : braidB s w = true) (i : Nat) (hi : i < w.length) : 0 ≤ plc (w.getD i 0) ∧ plc (w.getD i 0) ≤ s - 2 := by
  have h1 := braidB_get h i hi
  unfold plc sgn
  split <;> omega

def permN (s : Int) (w : List Int) : Nat → List Int
  | 0 => unitL s.toNat
  | i + 1 => swapAt (permN s w i) (plc (w.getD i 0)).toNat

theorem permN_length (s : Int) (w : List Int) : ∀ i, (permN s w i).length = s.toNat
  | 0 => by simp [permN, unitL, tab_length]
  | i + 1 => by simp [permN, swapAt_length, permN_length s w i]

def permL (s : Int) (w : List Int) : List Int := permN s w w.length

def rngB (n : Int) (l : List Int) : Prop := ∀ x ∈ l, 0 ≤ x ∧ x < n

theorem rngB_get {n : Int} {l : List Int} (h : rngB n l) (i : Nat) (hi : i < l.length) : 0 ≤ l.getD i 0 ∧ l.getD i 0 < n := h _ (getD_mem l 0 i hi)

theorem rngB_set {n : Int} {l : List Int} (h : rngB n l) {a : Nat} {v : Int} (hv : 0 ≤ v ∧ v < n) : rngB n (l.set a v) := fun x hx => by
  rcases mem_set hx with hx | rfl
  · exact h x hx
  · exact hv

theorem rngB_swap {n : Int} {l : List Int} (h : rngB n l) {k : Nat} (hk : k + 1 < l.length) : rngB n (swapAt l k) :=
  rngB_set (rngB_set h (rngB_get h _ hk)) (rngB_get h _ (by omega))

theorem rngB_unit (n : Nat) : rngB (n : Int) (unitL n) := fun x hx => by
  simp only [unitL, tab, List.mem_map, List.mem_range] at hx
  obtain ⟨i, hi, rfl⟩ := hx
  omega

theorem rngB_perm {s : Int} {w : List Int} (h : braidB s w = true) : ∀ i, i ≤ w.length → rngB s (permN s w i)
  | 0, _ => by
    have hs := braidB_s h
    have := rngB_unit s.toNat
    rw [show ((s.toNat : Nat) : Int) = s by omega] at this
    exact this
  | i + 1, hi => by
    have hs := braidB_s h
    have hp := plc_in h i (by omega)
    exact rngB_swap (rngB_perm h i (by omega)) (by rw [permN_length]; omega)

def permC (s : Int) (w : List Int) : List Int × Int := if braidB s w = true then (backL (permL s w), 0) else ([], 1)

theorem permC_no {s : Int} {w : List Int} (h : braidB s w = false) : [] = (permC s w).1 ∧ 1 = (permC s w).2 := by simp [permC, h]
theorem permC_yes {s : Int} {w : List Int} (h : braidB s w = true) : backL (permL s w) = (permC s w).1 ∧ 0 = (permC s w).2 := by simp [permC, h]
theorem permC_len (s : Int) (w : List Int) : (permC s w).1.length ≤ 6 := by
  unfold permC
  split
  · rename_i h
    have := braidB_s h
    simp only [backL, backN_length, permL, permN_length]
    omega
  · simp

def incB : List Int → Bool
  | x :: y :: r => decide (x < y) && incB (y :: r)
  | _ => true

theorem incB_drop (l : List Int) (i : Nat) (h : i + 1 < l.length) : incB (l.drop i) = (decide (l.getD i 0 < l.getD (i + 1) 0) && incB (l.drop (i + 1))) := by
  rw [drop_cons' l 0 i (by omega), drop_cons' l 0 (i + 1) h]
  rfl

theorem incB_short (l : List Int) (i : Nat) (h : l.length ≤ i + 1) : incB (l.drop i) = true := by
  by_cases hi : i < l.length
  · rw [drop_cons' l 0 i hi, List.drop_of_length_le h]; rfl
  · rw [List.drop_of_length_le (by omega)]; rfl

theorem incB_get {l : List Int} (h : incB l = true) (i : Nat) (hi : i + 1 < l.length) : l.getD i 0 < l.getD (i + 1) 0 := by
  have : ∀ j, j ≤ i → incB (l.drop j) = true := fun j => by
    induction j with
    | zero => intro _; simpa using h
    | succ j ih =>
      intro hj
      have := ih (by omega)
      rw [incB_drop l j (by omega), Bool.and_eq_true] at this
      exact this.2
  have := this i (Nat.le_refl _)
  rw [incB_drop l i hi, Bool.and_eq_true] at this
  exact of_decide_eq_true this.1

/-- Increasing numbers of 0..n-1, n of them, are all in order. -/
theorem inc_unit {l : List Int} (hr : rngB (l.length : Int) l) : incB l = decide (l = unitL l.length) := by
  cases hc : incB l with
  | true =>
    symm
    apply decide_eq_true
    have low : ∀ i, i < l.length → (i : Int) ≤ l.getD i 0 := fun i => by
      induction i with
      | zero => intro hi; exact (rngB_get hr 0 hi).1
      | succ i ih =>
        intro hi
        have h1 := ih (by omega)
        have h2 := incB_get hc i hi
        omega
    have high : ∀ j i, i + j + 1 = l.length → l.getD i 0 ≤ (i : Int) := fun j => by
      induction j with
      | zero =>
        intro i hi
        have := rngB_get hr i (by omega)
        omega
      | succ j ih =>
        intro i hi
        have h1 := ih (i + 1) (by omega)
        have h2 := incB_get hc i (by omega)
        omega
    apply list_ext (by simp [unitL, tab_length])
    intro i hi
    rw [unitL, tab_getD _ _ _ hi]
    have h1 := low i hi
    have h2 := high (l.length - i - 1) i (by omega)
    omega
  | false =>
    symm
    apply decide_eq_false
    intro he
    have : ∀ n i, n - i ≤ n → incB ((unitL n).drop (n - i)) = true := fun n i => by
      induction i with
      | zero => intro _; exact incB_short _ _ (by simp [unitL, tab_length])
      | succ i ih =>
        intro hi
        by_cases hn : i + 1 ≤ n
        · by_cases h1 : i = 0
          · subst h1; exact incB_short _ _ (by simp [unitL, tab_length]; omega)
          · rw [incB_drop _ _ (by simp [unitL, tab_length]; omega), Bool.and_eq_true]
            refine ⟨decide_eq_true ?_, ?_⟩
            · rw [unitL, tab_getD _ _ _ (by omega), tab_getD _ _ _ (by omega)]; omega
            · rw [show n - (i + 1) + 1 = n - i by omega]; exact ih (by omega)
        · have := ih (by omega)
          rwa [show n - (i + 1) = n - i by omega]
    have := this l.length l.length (by omega)
    rw [Nat.sub_self, List.drop_zero, ← he, hc] at this
    cases this

def identity_p (n : Int) : Post := ⟨0 ≤ n ∧ n ≤ 1099511627776, .c (.ints 2 .i64 (unitL n.toNat)), []⟩
def identity_ct : List AD → Option Post
  | [.c (.int .i64 (n))] => some (identity_p n)
  | _ => none
def identity_ann (n : Int) : Nat → Option Ann
  | 0 => some (Ann.mk ((Nat)) (fun i => ⟨[(3, .c (.own (10))), (8, .c (.int .i64 (n))), (9, .c (.int .i64 ((i : Int))))], [(10, some (.ints 2 .i64 ((unitL n.toNat).take i ++ List.replicate ((unitL n.toNat).length - i) 0)))]⟩) (fun i => i ≤ n.toNat) (fun i => n.toNat - i) (fun _ => noAnn))
  | _ => none
def identity_G : List (Nat × Ctr) := []
def identity_V (n : Int) : Prop :=
  ((((0 : Int) ≤ n) ∧
  ((n ≤ n) ∧
  (Go.Sx.room (Int.toNat n)))) ∧
  ((∃ x0 : Nat, ((x0 ≤ Int.toNat n) ∧
  (((↑(List.length (List.replicate (Int.toNat n) (0 : Int))) : Int) = n) ∧
  (((0 : Int) = (↑x0 : Int)) ∧
  (List.replicate (Int.toNat n) (0 : Int) = List.take x0 (Go.Sx.unitL (Int.toNat n)) ++ List.replicate (List.length (Go.Sx.unitL (Int.toNat n)) - x0) (0 : Int)))))) ∧
  (∀ x1 : Nat, ((x1 ≤ Int.toNat n) →
  (BrP (Decidable.decide ((↑x1 : Int) < n))
    ((Go.Sx.inB (↑x1 : Int) (List.length (List.take x1 (Go.Sx.unitL (Int.toNat n)) ++ List.replicate (List.length (Go.Sx.unitL (Int.toNat n)) - x1) (0 : Int)))) ∧
    ((Go.Sx.InR ((↑x1 : Int) + (1 : Int))) ∧
    (∃ x2 : Nat, ((x2 ≤ Int.toNat n) ∧
    ((Int.toNat n - x2 < Int.toNat n - x1) ∧
    ((n = n) ∧
    (((↑x1 : Int) + (1 : Int) = (↑x2 : Int)) ∧
    (List.set (List.take x1 (Go.Sx.unitL (Int.toNat n)) ++ List.replicate (List.length (Go.Sx.unitL (Int.toNat n)) - x1) (0 : Int)) (Int.toNat (↑x1 : Int)) (↑x1 : Int) = List.take x2 (Go.Sx.unitL (Int.toNat n)) ++ List.replicate (List.length (Go.Sx.unitL (Int.toNat n)) - x2) (0 : Int)))))))))
    ((List.take x1 (Go.Sx.unitL (Int.toNat n)) ++ List.replicate (List.length (Go.Sx.unitL (Int.toNat n)) - x1) (0 : Int) = Go.Sx.unitL (Int.toNat n)) ∧
    (True)))))))
theorem identity_vc (n : Int) : runF Try.prog (gam identity_G) noWr (identity_ann n) Try.f103 (bodyOf Try.f103) [] [.c (.int .i64 (n))] (identity_p n) = identity_V n := by kernel_rfl
theorem identity_ok (n : Int) (hpre : (identity_p n).pre) : identity_V n := by
  simp only [identity_p, identity_V, BrP_iff, true_and, and_true, decide_eq_true_eq, decide_eq_false_iff_not, bne_iff_ne, beq_iff_eq, bne_eq_false_iff_eq, beq_eq_false_iff_ne, Bool.not_eq_true, Bool.not_eq_false, Bool.not_true, Bool.not_false, Bool.not_eq_eq_eq_not, Int.toNat_natCast, List.length_append, List.length_take, List.length_replicate, List.length_set, List.length_map, List.length_drop, List.length_nil, List.length_cons, markL_length, inB, InR, room, bdsOk] at hpre ⊢
  have hl : (unitL n.toNat).length = n.toNat := by simp [unitL, tab_length]
  refine ⟨by omega, ⟨0, by omega, by omega, rfl, fill_start _ _ _ hl⟩, fun i hi => ⟨fun h => ⟨by omega, by omega, i + 1, by omega, by omega, by omega, ?_⟩, fun h => ?_⟩⟩
  · rw [← fill_step (unitL n.toNat) 0 0 i (by omega), unitL, tab_getD _ _ _ (by omega)]
  · exact fill_end _ _ _ (by omega)
theorem identity_fits : Fits Try.prog 103 ⟨[], identity_ct⟩ := by
  refine fits_fn (Γ := gam identity_G) gok_nil Try.func103 (by kernel_rfl) (by kernel_rfl) (by kernel_rfl) fun ds p h hp => ?_
  unfold identity_ct at h
  split at h
  · cases h
    exact ⟨noWr, identity_ann _ , by rw [identity_vc]; exact identity_ok _  hp⟩
  · cases h

def l01Unit_p (n : Int) : Post := ⟨0 ≤ n ∧ n ≤ 1099511627776, .c (.ints 2 .i64 (unitL n.toNat)), []⟩
def l01Unit_ct : List AD → Option Post
  | [.c (.int .i64 (n))] => some (l01Unit_p n)
  | _ => none
def l01Unit_ann (n : Int) : Nat → Option Ann
  | 0 => some (Ann.mk ((Nat)) (fun i => ⟨[(0, .c (.int .i64 (n))), (3, .c (.own (10))), (4, .c (.int .i64 ((i : Int))))], [(10, some (.ints 2 .i64 ((unitL n.toNat).take i)))]⟩) (fun i => i ≤ n.toNat) (fun i => n.toNat - i) (fun _ => noAnn))
  | _ => none
def l01Unit_G : List (Nat × Ctr) := []
def l01Unit_V (n : Int) : Prop :=
  ((∃ x0 : Nat, ((x0 ≤ Int.toNat n) ∧
  ((n = n) ∧
  (((0 : Int) = (↑x0 : Int)) ∧
  ([] = List.take x0 (Go.Sx.unitL (Int.toNat n))))))) ∧
  (∀ x1 : Nat, ((x1 ≤ Int.toNat n) →
  (BrP (Decidable.decide ((↑x1 : Int) < n))
    ((Go.Sx.room (List.length (List.take x1 (Go.Sx.unitL (Int.toNat n))) + List.length [(↑x1 : Int)])) ∧
    ((Go.Sx.InR ((↑x1 : Int) + (1 : Int))) ∧
    (∃ x2 : Nat, ((x2 ≤ Int.toNat n) ∧
    ((Int.toNat n - x2 < Int.toNat n - x1) ∧
    ((n = n) ∧
    (((↑x1 : Int) + (1 : Int) = (↑x2 : Int)) ∧
    (List.take x1 (Go.Sx.unitL (Int.toNat n)) ++ [(↑x1 : Int)] = List.take x2 (Go.Sx.unitL (Int.toNat n))))))))))
    ((List.take x1 (Go.Sx.unitL (Int.toNat n)) = Go.Sx.unitL (Int.toNat n)) ∧
    (True))))))
theorem l01Unit_vc (n : Int) : runF Try.prog (gam l01Unit_G) noWr (l01Unit_ann n) Try.f96 (bodyOf Try.f96) [] [.c (.int .i64 (n))] (l01Unit_p n) = l01Unit_V n := by kernel_rfl
theorem l01Unit_ok (n : Int) (hpre : (l01Unit_p n).pre) : l01Unit_V n := by
  simp only [l01Unit_p, l01Unit_V, BrP_iff, true_and, and_true, decide_eq_true_eq, decide_eq_false_iff_not, bne_iff_ne, beq_iff_eq, bne_eq_false_iff_eq, beq_eq_false_iff_ne, Bool.not_eq_true, Bool.not_eq_false, Bool.not_true, Bool.not_false, Bool.not_eq_eq_eq_not, Int.toNat_natCast, List.length_append, List.length_take, List.length_replicate, List.length_set, List.length_map, List.length_drop, List.length_nil, List.length_cons, markL_length, inB, InR, room, bdsOk] at hpre ⊢
  have hl : (unitL n.toNat).length = n.toNat := by simp [unitL, tab_length]
  refine ⟨⟨0, by omega, rfl, by simp⟩, fun i hi => ⟨fun h => ⟨by omega, by omega, i + 1, by omega, by omega, by omega, ?_⟩, fun h => ?_⟩⟩
  · rw [← take_snoc (unitL n.toNat) 0 i (by omega), unitL, tab_getD _ _ _ (by omega)]
  · exact List.take_of_length_le (by omega)
theorem l01Unit_fits : Fits Try.prog 96 ⟨[], l01Unit_ct⟩ := by
  refine fits_fn (Γ := gam l01Unit_G) gok_nil Try.func96 (by kernel_rfl) (by kernel_rfl) (by kernel_rfl) fun ds p h hp => ?_
  unfold l01Unit_ct at h
  split at h
  · cases h
    exact ⟨noWr, l01Unit_ann _ , by rw [l01Unit_vc]; exact l01Unit_ok _  hp⟩
  · cases h

def inverse_p (p : List Int) : Post := ⟨room p.length ∧ rngB (p.length : Int) p, .c (.ints 2 .i64 (backL p)), []⟩
def inverse_ct : List AD → Option Post
  | [.c (.ints .i64 (p))] => some (inverse_p p)
  | _ => none
def inverse_ann (p : List Int) : Nat → Option Ann
  | 0 => some (Ann.mk ((Nat)) (fun i => ⟨[(3, .c (.own (10))), (9, .c (.ro (.ints .i64 (p)))), (10, .c (.int .i64 ((p.length : Int)))), (11, .c (.int .i64 ((i : Int))))], [(10, some (.ints 2 .i64 (backN p i)))]⟩) (fun i => i ≤ p.length) (fun i => p.length - i) (fun _ => noAnn))
  | _ => none
def inverse_G : List (Nat × Ctr) := []
def inverse_V (p : List Int) : Prop :=
  ((((0 : Int) ≤ (↑(List.length p) : Int)) ∧
  (((↑(List.length p) : Int) ≤ (↑(List.length p) : Int)) ∧
  (Go.Sx.room (Int.toNat (↑(List.length p) : Int))))) ∧
  ((∃ x0 : Nat, ((x0 ≤ List.length p) ∧
  ((p = p) ∧
  (((↑(List.length p) : Int) = (↑(List.length p) : Int)) ∧
  (((0 : Int) = (↑x0 : Int)) ∧
  (List.replicate (Int.toNat (↑(List.length p) : Int)) (0 : Int) = Go.Sx.backN p x0)))))) ∧
  (∀ x1 : Nat, ((x1 ≤ List.length p) →
  (BrP (Decidable.decide ((↑x1 : Int) < (↑(List.length p) : Int)))
    ((Go.Sx.inB (↑x1 : Int) (List.length p)) ∧
    ((Go.Sx.inB (List.getD p (Int.toNat (↑x1 : Int)) (0 : Int)) (List.length (Go.Sx.backN p x1))) ∧
    ((Go.Sx.InR ((↑x1 : Int) + (1 : Int))) ∧
    (∃ x2 : Nat, ((x2 ≤ List.length p) ∧
    ((List.length p - x2 < List.length p - x1) ∧
    ((p = p) ∧
    (((↑(List.length p) : Int) = (↑(List.length p) : Int)) ∧
    (((↑x1 : Int) + (1 : Int) = (↑x2 : Int)) ∧
    (List.set (Go.Sx.backN p x1) (Int.toNat (List.getD p (Int.toNat (↑x1 : Int)) (0 : Int))) (↑x1 : Int) = Go.Sx.backN p x2))))))))))
    ((Go.Sx.backN p x1 = Go.Sx.backL p) ∧
    (True)))))))
theorem inverse_vc (p : List Int) : runF Try.prog (gam inverse_G) noWr (inverse_ann p) Try.f110 (bodyOf Try.f110) [] [.c (.ints .i64 (p))] (inverse_p p) = inverse_V p := by kernel_rfl
theorem inverse_ok (p : List Int) (hpre : (inverse_p p).pre) : inverse_V p := by
  simp only [inverse_p, inverse_V, BrP_iff, true_and, and_true, decide_eq_true_eq, decide_eq_false_iff_not, bne_iff_ne, beq_iff_eq, bne_eq_false_iff_eq, beq_eq_false_iff_ne, Bool.not_eq_true, Bool.not_eq_false, Bool.not_true, Bool.not_false, Bool.not_eq_eq_eq_not, Int.toNat_natCast, List.length_append, List.length_take, List.length_replicate, List.length_set, List.length_map, List.length_drop, List.length_nil, List.length_cons, markL_length, inB, InR, room, bdsOk] at hpre ⊢
  obtain ⟨h1, h2⟩ := hpre
  refine ⟨by omega, ⟨0, by omega, rfl, rfl⟩, fun i hi => ⟨fun h => ?_, fun h => ?_⟩⟩
  · have hr := rngB_get h2 i (by omega)
    rw [backN_length]
    exact ⟨by omega, by omega, by omega, i + 1, by omega, by omega, by omega, rfl⟩
  · rw [show i = p.length by omega]; rfl
theorem inverse_fits : Fits Try.prog 110 ⟨[], inverse_ct⟩ := by
  refine fits_fn (Γ := gam inverse_G) gok_nil Try.func110 (by kernel_rfl) (by kernel_rfl) (by kernel_rfl) fun ds p h hp => ?_
  unfold inverse_ct at h
  split at h
  · cases h
    exact ⟨noWr, inverse_ann _ , by rw [inverse_vc]; exact inverse_ok _  hp⟩
  · cases h

def l01Back_p (p : List Int) : Post := ⟨room p.length ∧ rngB (p.length : Int) p, .c (.ints 2 .i64 (backL p)), []⟩
def l01Back_ct : List AD → Option Post
  | [.c (.ints .i64 (p))] => some (l01Back_p p)
  | _ => none
def l01Back_ann (p : List Int) : Nat → Option Ann
  | 0 => some (Ann.mk ((Nat)) (fun i => ⟨[(0, .c (.ro (.ints .i64 (p)))), (3, .c (.own (10))), (4, .c (.int .i64 ((i : Int))))], [(10, some (.ints 2 .i64 (backN p i)))]⟩) (fun i => i ≤ p.length) (fun i => p.length - i) (fun _ => noAnn))
  | _ => none
def l01Back_G : List (Nat × Ctr) := []
def l01Back_V (p : List Int) : Prop :=
  ((((0 : Int) ≤ (↑(List.length p) : Int)) ∧
  (((↑(List.length p) : Int) ≤ (↑(List.length p) : Int)) ∧
  (Go.Sx.room (Int.toNat (↑(List.length p) : Int))))) ∧
  ((∃ x0 : Nat, ((x0 ≤ List.length p) ∧
  ((p = p) ∧
  (((0 : Int) = (↑x0 : Int)) ∧
  (List.replicate (Int.toNat (↑(List.length p) : Int)) (0 : Int) = Go.Sx.backN p x0))))) ∧
  (∀ x1 : Nat, ((x1 ≤ List.length p) →
  (BrP (Decidable.decide ((↑x1 : Int) < (↑(List.length p) : Int)))
    ((Go.Sx.inB (↑x1 : Int) (List.length p)) ∧
    ((Go.Sx.inB (List.getD p (Int.toNat (↑x1 : Int)) (0 : Int)) (List.length (Go.Sx.backN p x1))) ∧
    ((Go.Sx.InR ((↑x1 : Int) + (1 : Int))) ∧
    (∃ x2 : Nat, ((x2 ≤ List.length p) ∧
    ((List.length p - x2 < List.length p - x1) ∧
    ((p = p) ∧
    (((↑x1 : Int) + (1 : Int) = (↑x2 : Int)) ∧
    (List.set (Go.Sx.backN p x1) (Int.toNat (List.getD p (Int.toNat (↑x1 : Int)) (0 : Int))) (↑x1 : Int) = Go.Sx.backN p x2)))))))))
    ((Go.Sx.backN p x1 = Go.Sx.backL p) ∧
    (True)))))))
theorem l01Back_vc (p : List Int) : runF Try.prog (gam l01Back_G) noWr (l01Back_ann p) Try.f108 (bodyOf Try.f108) [] [.c (.ints .i64 (p))] (l01Back_p p) = l01Back_V p := by kernel_rfl
theorem l01Back_ok (p : List Int) (hpre : (l01Back_p p).pre) : l01Back_V p := by
  simp only [l01Back_p, l01Back_V, BrP_iff, true_and, and_true, decide_eq_true_eq, decide_eq_false_iff_not, bne_iff_ne, beq_iff_eq, bne_eq_false_iff_eq, beq_eq_false_iff_ne, Bool.not_eq_true, Bool.not_eq_false, Bool.not_true, Bool.not_false, Bool.not_eq_eq_eq_not, Int.toNat_natCast, List.length_append, List.length_take, List.length_replicate, List.length_set, List.length_map, List.length_drop, List.length_nil, List.length_cons, markL_length, inB, InR, room, bdsOk] at hpre ⊢
  obtain ⟨h1, h2⟩ := hpre
  refine ⟨by omega, ⟨0, by omega, rfl, rfl⟩, fun i hi => ⟨fun h => ?_, fun h => ?_⟩⟩
  · have hr := rngB_get h2 i (by omega)
    rw [backN_length]
    exact ⟨by omega, by omega, by omega, i + 1, by omega, by omega, by omega, rfl⟩
  · rw [show i = p.length by omega]; rfl
theorem l01Back_fits : Fits Try.prog 108 ⟨[], l01Back_ct⟩ := by
  refine fits_fn (Γ := gam l01Back_G) gok_nil Try.func108 (by kernel_rfl) (by kernel_rfl) (by kernel_rfl) fun ds p h hp => ?_
  unfold l01Back_ct at h
  split at h
  · cases h
    exact ⟨noWr, l01Back_ann _ , by rw [l01Back_vc]; exact l01Back_ok _  hp⟩
  · cases h

def placeOf_p (x : Int) : Post := ⟨-1000000 ≤ x ∧ x ≤ 1000000, .c (.int .i64 (plc x)), []⟩
def placeOf_ct : List AD → Option Post
  | [.c (.int .i64 (x))] => some (placeOf_p x)
  | _ => none
def placeOf_G : List (Nat × Ctr) := [(82, ⟨[], signOf_ct⟩)]
def placeOf_V (x : Int) : Prop :=
  (((True) ∧
  (True)) ∧
  ((Go.Sx.InR (x * Go.Sx.sgn x)) ∧
  ((Go.Sx.InR (x * Go.Sx.sgn x - (1 : Int))) ∧
  ((x * Go.Sx.sgn x - (1 : Int) = Go.Sx.plc x) ∧
  (True)))))
theorem placeOf_vc (x : Int) : runF Try.prog (gam placeOf_G) noWr noAnn Try.f109 (bodyOf Try.f109) [] [.c (.int .i64 (x))] (placeOf_p x) = placeOf_V x := by kernel_rfl
theorem placeOf_ok (x : Int) (hpre : (placeOf_p x).pre) : placeOf_V x := by
  simp only [placeOf_p, placeOf_V, BrP_iff, true_and, and_true, decide_eq_true_eq, decide_eq_false_iff_not, bne_iff_ne, beq_iff_eq, bne_eq_false_iff_eq, beq_eq_false_iff_ne, Bool.not_eq_true, Bool.not_eq_false, Bool.not_true, Bool.not_false, Bool.not_eq_eq_eq_not, Int.toNat_natCast, List.length_append, List.length_take, List.length_replicate, List.length_set, List.length_map, List.length_drop, List.length_nil, List.length_cons, markL_length, inB, InR, room, bdsOk] at hpre ⊢
  unfold plc sgn
  split <;> omega
theorem placeOf_fits : Fits Try.prog 109 ⟨[], placeOf_ct⟩ := by
  refine fits_fn (Γ := gam placeOf_G) (gok_cons signOf_fits gok_nil) Try.func109 (by kernel_rfl) (by kernel_rfl) (by kernel_rfl) fun ds p h hp => ?_
  unfold placeOf_ct at h
  split at h
  · cases h
    exact ⟨noWr, noAnn, by rw [placeOf_vc]; exact placeOf_ok _  hp⟩
  · cases h

def l16Place_p (x : Int) : Post := ⟨-1000000 ≤ x ∧ x ≤ 1000000, .c (.int .i64 (plc x)), []⟩
def l16Place_ct : List AD → Option Post
  | [.c (.int .i64 (x))] => some (l16Place_p x)
  | _ => none
def l16Place_G : List (Nat × Ctr) := []
def l16Place_V (x : Int) : Prop :=
  (BrP (Decidable.decide (x < (0 : Int)))
    ((Go.Sx.InR (-x)) ∧
    ((Go.Sx.InR (-x - (1 : Int))) ∧
    ((-x - (1 : Int) = Go.Sx.plc x) ∧
    (True))))
    ((Go.Sx.InR (x - (1 : Int))) ∧
    ((x - (1 : Int) = Go.Sx.plc x) ∧
    (True))))
theorem l16Place_vc (x : Int) : runF Try.prog (gam l16Place_G) noWr noAnn Try.f106 (bodyOf Try.f106) [] [.c (.int .i64 (x))] (l16Place_p x) = l16Place_V x := by kernel_rfl
theorem l16Place_ok (x : Int) (hpre : (l16Place_p x).pre) : l16Place_V x := by
  simp only [l16Place_p, l16Place_V, BrP_iff, true_and, and_true, decide_eq_true_eq, decide_eq_false_iff_not, bne_iff_ne, beq_iff_eq, bne_eq_false_iff_eq, beq_eq_false_iff_ne, Bool.not_eq_true, Bool.not_eq_false, Bool.not_true, Bool.not_false, Bool.not_eq_eq_eq_not, Int.toNat_natCast, List.length_append, List.length_take, List.length_replicate, List.length_set, List.length_map, List.length_drop, List.length_nil, List.length_cons, markL_length, inB, InR, room, bdsOk] at hpre ⊢
  unfold plc sgn
  refine ⟨fun h => ?_, fun h => ?_⟩
  · rw [if_pos h]; omega
  · rw [if_neg h]; omega
theorem l16Place_fits : Fits Try.prog 106 ⟨[], l16Place_ct⟩ := by
  refine fits_fn (Γ := gam l16Place_G) gok_nil Try.func106 (by kernel_rfl) (by kernel_rfl) (by kernel_rfl) fun ds p h hp => ?_
  unfold l16Place_ct at h
  split at h
  · cases h
    exact ⟨noWr, noAnn, by rw [l16Place_vc]; exact l16Place_ok _  hp⟩
  · cases h

def braidPermutation_p (s : Int) (w : List Int) : Post := ⟨braidB s w = true, .c (.ints 2 .i64 (backL (permL s w))), []⟩
def braidPermutation_ct : List AD → Option Post
  | [.agg [.int .i64 (s), .ints .i64 (w)]] => some (braidPermutation_p s w)
  | _ => none
def braidPermutation_ann (s : Int) (w : List Int) : Nat → Option Ann
  | 0 => some (Ann.mk ((Nat)) (fun i => ⟨[(3, .c (.own (20))), (11, .c (.ro (.ints .i64 (w)))), (12, .c (.int .i64 ((w.length : Int)))), (13, .c (.int .i64 ((i : Int))))], [(20, some (.ints 2 .i64 (permN s w i)))]⟩) (fun i => i ≤ w.length) (fun i => w.length - i) (fun _ => noAnn))
  | _ => none
def braidPermutation_G : List (Nat × Ctr) := [(103, ⟨[], identity_ct⟩), (109, ⟨[], placeOf_ct⟩), (110, ⟨[], inverse_ct⟩)]
def braidPermutation_V (s : Int) (w : List Int) : Prop :=
  (((((0 : Int) ≤ s) ∧
  (s ≤ (1099511627776 : Int))) ∧
  (True)) ∧
  ((∃ x0 : Nat, ((x0 ≤ List.length w) ∧
  ((w = w) ∧
  (((↑(List.length w) : Int) = (↑(List.length w) : Int)) ∧
  (((0 : Int) = (↑x0 : Int)) ∧
  (Go.Sx.unitL (Int.toNat s) = Go.Sx.permN s w x0)))))) ∧
  (∀ x1 : Nat, ((x1 ≤ List.length w) →
  (BrP (Decidable.decide ((↑x1 : Int) < (↑(List.length w) : Int)))
    ((Go.Sx.inB (↑x1 : Int) (List.length w)) ∧
    (((((-1000000 : Int) ≤ List.getD w (Int.toNat (↑x1 : Int)) (0 : Int)) ∧
    (List.getD w (Int.toNat (↑x1 : Int)) (0 : Int) ≤ (1000000 : Int))) ∧
    (True)) ∧
    ((Go.Sx.InR (Go.Sx.plc (List.getD w (Int.toNat (↑x1 : Int)) (0 : Int)) + (1 : Int))) ∧
    ((Go.Sx.InR (Go.Sx.plc (List.getD w (Int.toNat (↑x1 : Int)) (0 : Int)) + (1 : Int))) ∧
    ((Go.Sx.inB (Go.Sx.plc (List.getD w (Int.toNat (↑x1 : Int)) (0 : Int)) + (1 : Int)) (List.length (Go.Sx.permN s w x1))) ∧
    ((Go.Sx.inB (Go.Sx.plc (List.getD w (Int.toNat (↑x1 : Int)) (0 : Int))) (List.length (Go.Sx.permN s w x1))) ∧
    ((Go.Sx.inB (Go.Sx.plc (List.getD w (Int.toNat (↑x1 : Int)) (0 : Int))) (List.length (Go.Sx.permN s w x1))) ∧
    ((Go.Sx.inB (Go.Sx.plc (List.getD w (Int.toNat (↑x1 : Int)) (0 : Int)) + (1 : Int)) (List.length (List.set (Go.Sx.permN s w x1) (Int.toNat (Go.Sx.plc (List.getD w (Int.toNat (↑x1 : Int)) (0 : Int)))) (List.getD (Go.Sx.permN s w x1) (Int.toNat (Go.Sx.plc (List.getD w (Int.toNat (↑x1 : Int)) (0 : Int)) + (1 : Int))) (0 : Int))))) ∧
    ((Go.Sx.InR ((↑x1 : Int) + (1 : Int))) ∧
    (∃ x2 : Nat, ((x2 ≤ List.length w) ∧
    ((List.length w - x2 < List.length w - x1) ∧
    ((w = w) ∧
    (((↑(List.length w) : Int) = (↑(List.length w) : Int)) ∧
    (((↑x1 : Int) + (1 : Int) = (↑x2 : Int)) ∧
    (List.set (List.set (Go.Sx.permN s w x1) (Int.toNat (Go.Sx.plc (List.getD w (Int.toNat (↑x1 : Int)) (0 : Int)))) (List.getD (Go.Sx.permN s w x1) (Int.toNat (Go.Sx.plc (List.getD w (Int.toNat (↑x1 : Int)) (0 : Int)) + (1 : Int))) (0 : Int))) (Int.toNat (Go.Sx.plc (List.getD w (Int.toNat (↑x1 : Int)) (0 : Int)) + (1 : Int))) (List.getD (Go.Sx.permN s w x1) (Int.toNat (Go.Sx.plc (List.getD w (Int.toNat (↑x1 : Int)) (0 : Int)))) (0 : Int)) = Go.Sx.permN s w x2))))))))))))))))
    ((((Go.Sx.room (List.length (Go.Sx.permN s w x1))) ∧
    (Go.Sx.rngB (↑(List.length (Go.Sx.permN s w x1)) : Int) (Go.Sx.permN s w x1))) ∧
    (True)) ∧
    ((Go.Sx.backL (Go.Sx.permN s w x1) = Go.Sx.backL (Go.Sx.permL s w)) ∧
    (True))))))))
theorem braidPermutation_vc (s : Int) (w : List Int) : runF Try.prog (gam braidPermutation_G) noWr (braidPermutation_ann s w) Try.f94 (bodyOf Try.f94) [] [.agg [.int .i64 (s), .ints .i64 (w)]] (braidPermutation_p s w) = braidPermutation_V s w := by kernel_rfl
theorem braidPermutation_ok (s : Int) (w : List Int) (hpre : (braidPermutation_p s w).pre) : braidPermutation_V s w := by
  simp only [braidPermutation_p, braidPermutation_V, BrP_iff, true_and, and_true, decide_eq_true_eq, decide_eq_false_iff_not, bne_iff_ne, beq_iff_eq, bne_eq_false_iff_eq, beq_eq_false_iff_ne, Bool.not_eq_true, Bool.not_eq_false, Bool.not_true, Bool.not_false, Bool.not_eq_eq_eq_not, Int.toNat_natCast, List.length_append, List.length_take, List.length_replicate, List.length_set, List.length_map, List.length_drop, List.length_nil, List.length_cons, markL_length, inB, InR, room, bdsOk] at hpre ⊢
  have hs := braidB_s hpre
  have hw := braidB_len hpre
  refine ⟨by omega, ⟨0, by omega, rfl, rfl⟩, fun i hi => ⟨fun h => ?_, fun h => ?_⟩⟩
  · have h1 := braidB_get hpre i (by omega)
    have h2 := plc_in hpre i (by omega)
    have hl := permN_length s w i
    rw [hl]
    refine ⟨by omega, by omega, by omega, by omega, by omega, by omega, by omega, by omega, by omega, i + 1, by omega, by omega, by omega, ?_⟩
    simp only [permN, swapAt]
    rw [show (plc (w.getD i 0) + 1).toNat = (plc (w.getD i 0)).toNat + 1 by omega]
  · rw [show i = w.length by omega]
    refine ⟨⟨by rw [permN_length]; omega, ?_⟩, rfl⟩
    rw [permN_length, show ((s.toNat : Nat) : Int) = s by omega]
    exact rngB_perm hpre _ (Nat.le_refl _)
theorem braidPermutation_fits : Fits Try.prog 94 ⟨[], braidPermutation_ct⟩ := by
  refine fits_fn (Γ := gam braidPermutation_G) (gok_cons identity_fits (gok_cons placeOf_fits (gok_cons inverse_fits gok_nil))) Try.func94 (by kernel_rfl) (by kernel_rfl) (by kernel_rfl) fun ds p h hp => ?_
  unfold braidPermutation_ct at h
  split at h
  · cases h
    exact ⟨noWr, braidPermutation_ann _ _ , by rw [braidPermutation_vc]; exact braidPermutation_ok _ _  hp⟩
  · cases h

def l16Permutation_p (s : Int) (w : List Int) : Post := ⟨braidB s w = true, .c (.ints 2 .i64 (backL (permL s w))), []⟩
def l16Permutation_ct : List AD → Option Post
  | [.agg [.int .i64 (s), .ints .i64 (w)]] => some (l16Permutation_p s w)
  | _ => none
def l16Permutation_ann (s : Int) (w : List Int) : Nat → Option Ann
  | 0 => some (Ann.mk ((Nat)) (fun i => ⟨[(1, .c (.ptr 1 0)), (3, .c (.own (20))), (4, .c (.int .i64 ((i : Int))))], [(1, some (.box [.int .i64 (s), .ro (.ints .i64 (w))])), (20, some (.ints 2 .i64 (permN s w i)))]⟩) (fun i => i ≤ w.length) (fun i => w.length - i) (fun _ => noAnn))
  | _ => none
def l16Permutation_G : List (Nat × Ctr) := [(96, ⟨[], l01Unit_ct⟩), (106, ⟨[], l16Place_ct⟩), (108, ⟨[], l01Back_ct⟩)]
def l16Permutation_V (s : Int) (w : List Int) : Prop :=
  (((((0 : Int) ≤ s) ∧
  (s ≤ (1099511627776 : Int))) ∧
  (True)) ∧
  ((∃ x0 : Nat, ((x0 ≤ List.length w) ∧
  (((0 : Int) = (↑x0 : Int)) ∧
  ((s = s) ∧
  ((w = w) ∧
  (Go.Sx.unitL (Int.toNat s) = Go.Sx.permN s w x0)))))) ∧
  (∀ x1 : Nat, ((x1 ≤ List.length w) →
  (BrP (Decidable.decide ((↑x1 : Int) < (↑(List.length w) : Int)))
    ((Go.Sx.inB (↑x1 : Int) (List.length w)) ∧
    (((((-1000000 : Int) ≤ List.getD w (Int.toNat (↑x1 : Int)) (0 : Int)) ∧
    (List.getD w (Int.toNat (↑x1 : Int)) (0 : Int) ≤ (1000000 : Int))) ∧
    (True)) ∧
    ((Go.Sx.inB (Go.Sx.plc (List.getD w (Int.toNat (↑x1 : Int)) (0 : Int))) (List.length (Go.Sx.permN s w x1))) ∧
    ((Go.Sx.InR (Go.Sx.plc (List.getD w (Int.toNat (↑x1 : Int)) (0 : Int)) + (1 : Int))) ∧
    ((Go.Sx.inB (Go.Sx.plc (List.getD w (Int.toNat (↑x1 : Int)) (0 : Int)) + (1 : Int)) (List.length (Go.Sx.permN s w x1))) ∧
    ((Go.Sx.inB (Go.Sx.plc (List.getD w (Int.toNat (↑x1 : Int)) (0 : Int))) (List.length (Go.Sx.permN s w x1))) ∧
    ((Go.Sx.InR (Go.Sx.plc (List.getD w (Int.toNat (↑x1 : Int)) (0 : Int)) + (1 : Int))) ∧
    ((Go.Sx.inB (Go.Sx.plc (List.getD w (Int.toNat (↑x1 : Int)) (0 : Int)) + (1 : Int)) (List.length (List.set (Go.Sx.permN s w x1) (Int.toNat (Go.Sx.plc (List.getD w (Int.toNat (↑x1 : Int)) (0 : Int)))) (List.getD (Go.Sx.permN s w x1) (Int.toNat (Go.Sx.plc (List.getD w (Int.toNat (↑x1 : Int)) (0 : Int)) + (1 : Int))) (0 : Int))))) ∧
    ((Go.Sx.InR ((↑x1 : Int) + (1 : Int))) ∧
    (∃ x2 : Nat, ((x2 ≤ List.length w) ∧
    ((List.length w - x2 < List.length w - x1) ∧
    (((↑x1 : Int) + (1 : Int) = (↑x2 : Int)) ∧
    ((s = s) ∧
    ((w = w) ∧
    (List.set (List.set (Go.Sx.permN s w x1) (Int.toNat (Go.Sx.plc (List.getD w (Int.toNat (↑x1 : Int)) (0 : Int)))) (List.getD (Go.Sx.permN s w x1) (Int.toNat (Go.Sx.plc (List.getD w (Int.toNat (↑x1 : Int)) (0 : Int)) + (1 : Int))) (0 : Int))) (Int.toNat (Go.Sx.plc (List.getD w (Int.toNat (↑x1 : Int)) (0 : Int)) + (1 : Int))) (List.getD (Go.Sx.permN s w x1) (Int.toNat (Go.Sx.plc (List.getD w (Int.toNat (↑x1 : Int)) (0 : Int)))) (0 : Int)) = Go.Sx.permN s w x2))))))))))))))))
    ((((Go.Sx.room (List.length (Go.Sx.permN s w x1))) ∧
    (Go.Sx.rngB (↑(List.length (Go.Sx.permN s w x1)) : Int) (Go.Sx.permN s w x1))) ∧
    (True)) ∧
    ((Go.Sx.backL (Go.Sx.permN s w x1) = Go.Sx.backL (Go.Sx.permL s w)) ∧
    (True))))))))
theorem l16Permutation_vc (s : Int) (w : List Int) : runF Try.prog (gam l16Permutation_G) noWr (l16Permutation_ann s w) Try.f93 (bodyOf Try.f93) [] [.agg [.int .i64 (s), .ints .i64 (w)]] (l16Permutation_p s w) = l16Permutation_V s w := by kernel_rfl
theorem l16Permutation_ok (s : Int) (w : List Int) (hpre : (l16Permutation_p s w).pre) : l16Permutation_V s w := by
  simp only [l16Permutation_p, l16Permutation_V, BrP_iff, true_and, and_true, decide_eq_true_eq, decide_eq_false_iff_not, bne_iff_ne, beq_iff_eq, bne_eq_false_iff_eq, beq_eq_false_iff_ne, Bool.not_eq_true, Bool.not_eq_false, Bool.not_true, Bool.not_false, Bool.not_eq_eq_eq_not, Int.toNat_natCast, List.length_append, List.length_take, List.length_replicate, List.length_set, List.length_map, List.length_drop, List.length_nil, List.length_cons, markL_length, inB, InR, room, bdsOk] at hpre ⊢
  have hs := braidB_s hpre
  have hw := braidB_len hpre
  refine ⟨by omega, ⟨0, by omega, rfl, rfl⟩, fun i hi => ⟨fun h => ?_, fun h => ?_⟩⟩
  · have h1 := braidB_get hpre i (by omega)
    have h2 := plc_in hpre i (by omega)
    have hl := permN_length s w i
    rw [hl]
    refine ⟨by omega, by omega, by omega, by omega, by omega, by omega, by omega, by omega, by omega, i + 1, by omega, by omega, by omega, ?_⟩
    simp only [permN, swapAt]
    rw [show (plc (w.getD i 0) + 1).toNat = (plc (w.getD i 0)).toNat + 1 by omega]
  · rw [show i = w.length by omega]
    refine ⟨⟨by rw [permN_length]; omega, ?_⟩, rfl⟩
    rw [permN_length, show ((s.toNat : Nat) : Int) = s by omega]
    exact rngB_perm hpre _ (Nat.le_refl _)
theorem l16Permutation_fits : Fits Try.prog 93 ⟨[], l16Permutation_ct⟩ := by
  refine fits_fn (Γ := gam l16Permutation_G) (gok_cons l01Unit_fits (gok_cons l16Place_fits (gok_cons l01Back_fits gok_nil))) Try.func93 (by kernel_rfl) (by kernel_rfl) (by kernel_rfl) fun ds p h hp => ?_
  unfold l16Permutation_ct at h
  split at h
  · cases h
    exact ⟨noWr, l16Permutation_ann _ _ , by rw [l16Permutation_vc]; exact l16Permutation_ok _ _  hp⟩
  · cases h

def sBraidPermutation_p (s : Int) (w : List Int) : Post := ⟨room w.length, .tup [.inl (.ints 2 .i64 ((permC s w).1)), .inl (.int .i64 ((permC s w).2))], []⟩
def sBraidPermutation_ct : List AD → Option Post
  | [.agg [.int .i64 (s), .ints .i64 (w)]] => some (sBraidPermutation_p s w)
  | _ => none
def sBraidPermutation_G : List (Nat × Ctr) := [(67, ⟨[], l16Is_ct⟩), (93, ⟨[], l16Permutation_ct⟩)]
def sBraidPermutation_V (s : Int) (w : List Int) : Prop :=
  (((Go.Sx.room (List.length w)) ∧
  (True)) ∧
  (BrP (!Go.Sx.braidB s w)
    ((([] = Prod.fst (Go.Sx.permC s w)) ∧
    (((1 : Int) = Prod.snd (Go.Sx.permC s w)) ∧
    (True))) ∧
    (True))
    (((Go.Sx.braidB s w = Bool.true) ∧
    (True)) ∧
    (((Go.Sx.backL (Go.Sx.permL s w) = Prod.fst (Go.Sx.permC s w)) ∧
    (((0 : Int) = Prod.snd (Go.Sx.permC s w)) ∧
    (True))) ∧
    (True)))))
theorem sBraidPermutation_vc (s : Int) (w : List Int) : runF Try.prog (gam sBraidPermutation_G) noWr noAnn Try.f49 (bodyOf Try.f49) [] [.agg [.int .i64 (s), .ints .i64 (w)]] (sBraidPermutation_p s w) = sBraidPermutation_V s w := by kernel_rfl
theorem sBraidPermutation_ok (s : Int) (w : List Int) (hpre : (sBraidPermutation_p s w).pre) : sBraidPermutation_V s w := by
  simp only [sBraidPermutation_p, sBraidPermutation_V, BrP_iff, true_and, and_true, decide_eq_true_eq, decide_eq_false_iff_not, bne_iff_ne, beq_iff_eq, bne_eq_false_iff_eq, beq_eq_false_iff_ne, Bool.not_eq_true, Bool.not_eq_false, Bool.not_true, Bool.not_false, Bool.not_eq_eq_eq_not, Int.toNat_natCast, List.length_append, List.length_take, List.length_replicate, List.length_set, List.length_map, List.length_drop, List.length_nil, List.length_cons, markL_length, inB, InR, room, bdsOk] at hpre ⊢
  exact ⟨hpre, fun h => permC_no h, fun h => ⟨h, permC_yes h⟩⟩
theorem sBraidPermutation_fits : Fits Try.prog 49 ⟨[], sBraidPermutation_ct⟩ := by
  refine fits_fn (Γ := gam sBraidPermutation_G) (gok_cons l16Is_fits (gok_cons l16Permutation_fits gok_nil)) Try.func49 (by kernel_rfl) (by kernel_rfl) (by kernel_rfl) fun ds p h hp => ?_
  unfold sBraidPermutation_ct at h
  split at h
  · cases h
    exact ⟨noWr, noAnn, by rw [sBraidPermutation_vc]; exact sBraidPermutation_ok _ _  hp⟩
  · cases h

def iBraidPermutation_p (s : Int) (w : List Int) : Post := ⟨room w.length, .tup [.inl (.ints 2 .i64 ((permC s w).1)), .inl (.int .i64 ((permC s w).2))], []⟩
def iBraidPermutation_ct : List AD → Option Post
  | [.agg [.int .i64 (s), .ints .i64 (w)]] => some (iBraidPermutation_p s w)
  | _ => none
def iBraidPermutation_G : List (Nat × Ctr) := [(25, ⟨[], iIsBraid_ct⟩), (94, ⟨[], braidPermutation_ct⟩)]
def iBraidPermutation_V (s : Int) (w : List Int) : Prop :=
  (((Go.Sx.room (List.length w)) ∧
  (True)) ∧
  (BrP (!Go.Sx.braidB s w)
    ((([] = Prod.fst (Go.Sx.permC s w)) ∧
    (((1 : Int) = Prod.snd (Go.Sx.permC s w)) ∧
    (True))) ∧
    (True))
    (((Go.Sx.braidB s w = Bool.true) ∧
    (True)) ∧
    (((Go.Sx.backL (Go.Sx.permL s w) = Prod.fst (Go.Sx.permC s w)) ∧
    (((0 : Int) = Prod.snd (Go.Sx.permC s w)) ∧
    (True))) ∧
    (True)))))
theorem iBraidPermutation_vc (s : Int) (w : List Int) : runF Try.prog (gam iBraidPermutation_G) noWr noAnn Try.f50 (bodyOf Try.f50) [] [.agg [.int .i64 (s), .ints .i64 (w)]] (iBraidPermutation_p s w) = iBraidPermutation_V s w := by kernel_rfl
theorem iBraidPermutation_ok (s : Int) (w : List Int) (hpre : (iBraidPermutation_p s w).pre) : iBraidPermutation_V s w := by
  simp only [iBraidPermutation_p, iBraidPermutation_V, BrP_iff, true_and, and_true, decide_eq_true_eq, decide_eq_false_iff_not, bne_iff_ne, beq_iff_eq, bne_eq_false_iff_eq, beq_eq_false_iff_ne, Bool.not_eq_true, Bool.not_eq_false, Bool.not_true, Bool.not_false, Bool.not_eq_eq_eq_not, Int.toNat_natCast, List.length_append, List.length_take, List.length_replicate, List.length_set, List.length_map, List.length_drop, List.length_nil, List.length_cons, markL_length, inB, InR, room, bdsOk] at hpre ⊢
  exact ⟨hpre, fun h => permC_no h, fun h => ⟨h, permC_yes h⟩⟩
theorem iBraidPermutation_fits : Fits Try.prog 50 ⟨[], iBraidPermutation_ct⟩ := by
  refine fits_fn (Γ := gam iBraidPermutation_G) (gok_cons iIsBraid_fits (gok_cons braidPermutation_fits gok_nil)) Try.func50 (by kernel_rfl) (by kernel_rfl) (by kernel_rfl) fun ds p h hp => ?_
  unfold iBraidPermutation_ct at h
  split at h
  · cases h
    exact ⟨noWr, noAnn, by rw [iBraidPermutation_vc]; exact iBraidPermutation_ok _ _  hp⟩
  · cases h

def lBraidPermutation_p (s : Int) (w : List Int) : Post := ⟨(w.length : Int) ≤ 9223372036854775807, .c (.bool (true)), []⟩
def lBraidPermutation_ct : List AD → Option Post
  | [.agg [.int .i64 (s), .ints .i64 (w)]] => some (lBraidPermutation_p s w)
  | _ => none
def lBraidPermutation_G : List (Nat × Ctr) := [(22, ⟨[], szBraid_ct⟩), (24, ⟨[], toBraid_ct⟩), (26, ⟨[], eqBraid_ct⟩), (35, ⟨[(0, 1)], markBraid_ct⟩), (21, ⟨[], eqInt64S_ct⟩), (29, ⟨[(0, 0)], markInt64S_ct⟩), (30, ⟨[], heldInt64S_ct⟩), (49, ⟨[], sBraidPermutation_ct⟩), (50, ⟨[], iBraidPermutation_ct⟩)]
def lBraidPermutation_V (s : Int) (w : List Int) : Prop :=
  (((((↑(List.length w) : Int) ≤ (9223372036854775807 : Int)) ∧
  (((0 : Int) ≤ (1048576 : Int)) ∧
  ((1048576 : Int) ≤ (1099511627776 : Int)))) ∧
  (True)) ∧
  (BrP (Decidable.decide ((if (1048576 : Int) < (↑(List.length w) : Int) then (-1 : Int) else (1048576 : Int) - (↑(List.length w) : Int)) < (0 : Int)))
    ((Bool.true = Bool.true) ∧
    (True))
    (((Go.Sx.room (List.length w)) ∧
    (True)) ∧
    (((Go.Sx.room (List.length w)) ∧
    (True)) ∧
    (((Go.Sx.room (List.length w)) ∧
    (True)) ∧
    (((Go.Sx.room (List.length w)) ∧
    (True)) ∧
    (((Go.Sx.room (List.length (Prod.fst (Go.Sx.permC s w)))) ∧
    (True)) ∧
    (BrP (!Decidable.decide (Prod.fst (Go.Sx.permC s w) = Prod.fst (Go.Sx.permC s w)))
      ((Bool.false = Bool.true) ∧
      (True))
      (BrP (Prod.snd (Go.Sx.permC s w) != Prod.snd (Go.Sx.permC s w))
        ((Bool.false = Bool.true) ∧
        (True))
        (((Go.Sx.room (List.length w)) ∧
        (True)) ∧
        (((Go.Sx.room (List.length w)) ∧
        (True)) ∧
        (BrP (!Decidable.decide (s = s ∧ w = w))
          ((Bool.false = Bool.true) ∧
          (True))
          ((((Go.Sx.room (List.length w)) ∧
          (((0 : Int) ≤ (1 : Int)) ∧
          ((1 : Int) ≤ (1099511627776 : Int)))) ∧
          ((List.length (Go.Sx.markL (1 : Int) (List.length w)) = List.length w) ∧
          (True))) ∧
          (BrP (Decidable.decide ((1 : Int) + (↑(List.length w) : Int) < (0 : Int)))
            ((Bool.false = Bool.true) ∧
            (True))
            (((Go.Sx.room (List.length (Prod.fst (Go.Sx.permC s w)))) ∧
            (True)) ∧
            (BrP (!Decidable.decide (Prod.fst (Go.Sx.permC s w) = Prod.fst (Go.Sx.permC s w)))
              ((Bool.false = Bool.true) ∧
              (True))
              (BrP (Prod.snd (Go.Sx.permC s w) != Prod.snd (Go.Sx.permC s w))
                ((Bool.false = Bool.true) ∧
                (True))
                ((((Go.Sx.room (List.length (Prod.fst (Go.Sx.permC s w)))) ∧
                (((0 : Int) ≤ (1 : Int)) ∧
                ((1 : Int) ≤ (1099511627776 : Int)))) ∧
                ((List.length (Go.Sx.markL (1 : Int) (List.length (Prod.fst (Go.Sx.permC s w)))) = List.length (Prod.fst (Go.Sx.permC s w))) ∧
                (True))) ∧
                ((((Go.Sx.room (List.length (Go.Sx.markL (1 : Int) (List.length (Prod.fst (Go.Sx.permC s w)))))) ∧
                (((0 : Int) ≤ (1 : Int)) ∧
                ((1 : Int) ≤ (1099511627776 : Int)))) ∧
                (True)) ∧
                (BrP (Decidable.decide ((if Go.Sx.markL (1 : Int) (List.length (Prod.fst (Go.Sx.permC s w))) = Go.Sx.markL (1 : Int) (List.length (Go.Sx.markL (1 : Int) (List.length (Prod.fst (Go.Sx.permC s w))))) then (1 : Int) + (↑(List.length (Go.Sx.markL (1 : Int) (List.length (Prod.fst (Go.Sx.permC s w))))) : Int) else (-1 : Int)) < (0 : Int)))
                  ((Bool.false = Bool.true) ∧
                  (True))
                  (BrP ((if Go.Sx.markL (1 : Int) (List.length (Prod.fst (Go.Sx.permC s w))) = Go.Sx.markL (1 : Int) (List.length (Go.Sx.markL (1 : Int) (List.length (Prod.fst (Go.Sx.permC s w))))) then (1 : Int) + (↑(List.length (Go.Sx.markL (1 : Int) (List.length (Prod.fst (Go.Sx.permC s w))))) : Int) else (-1 : Int)) != (1 : Int) + (↑(List.length (Prod.fst (Go.Sx.permC s w))) : Int))
                    ((Bool.false = Bool.true) ∧
                    (True))
                    (((Go.Sx.room (List.length w)) ∧
                    (True)) ∧
                    (((Go.Sx.room (List.length w)) ∧
                    (True)) ∧
                    (((Go.Sx.room (List.length (Prod.fst (Go.Sx.permC s w)))) ∧
                    (True)) ∧
                    (BrP (!Decidable.decide (Prod.fst (Go.Sx.permC s w) = Prod.fst (Go.Sx.permC s w)))
                      ((Bool.false = Bool.true) ∧
                      (True))
                      (BrP (Prod.snd (Go.Sx.permC s w) != Prod.snd (Go.Sx.permC s w))
                        ((Bool.false = Bool.true) ∧
                        (True))
                        ((((Go.Sx.room (List.length (Go.Sx.markL (1 : Int) (List.length (Prod.fst (Go.Sx.permC s w)))))) ∧
                        (((0 : Int) ≤ (1 : Int)) ∧
                        ((1 : Int) ≤ (1099511627776 : Int)))) ∧
                        (True)) ∧
                        (BrP (Decidable.decide ((if Go.Sx.markL (1 : Int) (List.length (Prod.fst (Go.Sx.permC s w))) = Go.Sx.markL (1 : Int) (List.length (Go.Sx.markL (1 : Int) (List.length (Prod.fst (Go.Sx.permC s w))))) then (1 : Int) + (↑(List.length (Go.Sx.markL (1 : Int) (List.length (Prod.fst (Go.Sx.permC s w))))) : Int) else (-1 : Int)) < (0 : Int)))
                          ((Bool.false = Bool.true) ∧
                          (True))
                          (BrP ((if Go.Sx.markL (1 : Int) (List.length (Prod.fst (Go.Sx.permC s w))) = Go.Sx.markL (1 : Int) (List.length (Go.Sx.markL (1 : Int) (List.length (Prod.fst (Go.Sx.permC s w))))) then (1 : Int) + (↑(List.length (Go.Sx.markL (1 : Int) (List.length (Prod.fst (Go.Sx.permC s w))))) : Int) else (-1 : Int)) != (1 : Int) + (↑(List.length (Prod.fst (Go.Sx.permC s w))) : Int))
                            ((Bool.false = Bool.true) ∧
                            (True))
                            ((Bool.true = Bool.true) ∧
                            (True)))))))))))))))))))))))))))))))
theorem lBraidPermutation_vc (s : Int) (w : List Int) : runF Try.prog (gam lBraidPermutation_G) noWr noAnn Try.f14 (bodyOf Try.f14) [] [.agg [.int .i64 (s), .ints .i64 (w)]] (lBraidPermutation_p s w) = lBraidPermutation_V s w := by kernel_rfl
theorem lBraidPermutation_ok (s : Int) (w : List Int) (hpre : (lBraidPermutation_p s w).pre) : lBraidPermutation_V s w := by
  simp only [lBraidPermutation_p, lBraidPermutation_V, BrP_iff, true_and, and_true, decide_eq_true_eq, decide_eq_false_iff_not, bne_iff_ne, beq_iff_eq, bne_eq_false_iff_eq, beq_eq_false_iff_ne, Bool.not_eq_true, Bool.not_eq_false, Bool.not_true, Bool.not_false, Bool.not_eq_eq_eq_not, Int.toNat_natCast, List.length_append, List.length_take, List.length_replicate, List.length_set, List.length_map, List.length_drop, List.length_nil, List.length_cons, markL_length, inB, InR, room, bdsOk] at hpre ⊢
  refine ⟨⟨hpre, by omega, by omega⟩, fun _ => trivial, fun h => ?_⟩
  have hw : w.length ≤ 1099511627776 := by split at h <;> omega
  have hl := permC_len s w
  have h1 : (permC s w).1.length ≤ 1099511627776 := by omega
  have h2 : ¬ (1 + ((permC s w).1.length : Int) < 0) := by omega
  have h3 : ¬ (1 + (w.length : Int) < 0) := by omega
  simp [hw, h1, h2, h3]
theorem lBraidPermutation_fits : Fits Try.prog 14 ⟨[], lBraidPermutation_ct⟩ := by
  refine fits_fn (Γ := gam lBraidPermutation_G) (gok_cons szBraid_fits (gok_cons toBraid_fits (gok_cons eqBraid_fits (gok_cons markBraid_fits (gok_cons eqInt64S_fits (gok_cons markInt64S_fits (gok_cons heldInt64S_fits (gok_cons sBraidPermutation_fits (gok_cons iBraidPermutation_fits gok_nil))))))))) Try.func14 (by kernel_rfl) (by kernel_rfl) (by kernel_rfl) fun ds p h hp => ?_
  unfold lBraidPermutation_ct at h
  split at h
  · cases h
    exact ⟨noWr, noAnn, by rw [lBraidPermutation_vc]; exact lBraidPermutation_ok _ _  hp⟩
  · cases h

def increasing_p (l : List Int) : Post := ⟨room l.length, .c (.bool (incB l)), []⟩
def increasing_ct : List AD → Option Post
  | [.c (.ints .i64 (l))] => some (increasing_p l)
  | _ => none
def increasing_ann (l : List Int) : Nat → Option Ann
  | 0 => some (Ann.mk ((Nat)) (fun i => ⟨[(0, .c (.ro (.ints .i64 (l)))), (3, .c (.int .i64 ((i : Int) + 1)))], []⟩) (fun i => incB l = incB (l.drop i)) (fun i => l.length - i) (fun _ => noAnn))
  | _ => none
def increasing_G : List (Nat × Ctr) := []
def increasing_V (l : List Int) : Prop :=
  ((∃ x0 : Nat, ((Go.Sx.incB l = Go.Sx.incB (List.drop x0 l)) ∧
  ((l = l) ∧
  ((1 : Int) = (↑x0 : Int) + (1 : Int))))) ∧
  (∀ x1 : Nat, ((Go.Sx.incB l = Go.Sx.incB (List.drop x1 l)) →
  (BrP (Decidable.decide ((↑x1 : Int) + (1 : Int) < (↑(List.length l) : Int)))
    ((Go.Sx.InR ((↑x1 : Int) + (1 : Int) - (1 : Int))) ∧
    ((Go.Sx.inB ((↑x1 : Int) + (1 : Int) - (1 : Int)) (List.length l)) ∧
    ((Go.Sx.inB ((↑x1 : Int) + (1 : Int)) (List.length l)) ∧
    (BrP (Decidable.decide (List.getD l (Int.toNat ((↑x1 : Int) + (1 : Int))) (0 : Int) ≤ List.getD l (Int.toNat ((↑x1 : Int) + (1 : Int) - (1 : Int))) (0 : Int)))
      ((Bool.false = Go.Sx.incB l) ∧
      (True))
      ((Go.Sx.InR ((↑x1 : Int) + (1 : Int) + (1 : Int))) ∧
      (∃ x2 : Nat, ((Go.Sx.incB l = Go.Sx.incB (List.drop x2 l)) ∧
      ((List.length l - x2 < List.length l - x1) ∧
      ((l = l) ∧
      ((↑x1 : Int) + (1 : Int) + (1 : Int) = (↑x2 : Int) + (1 : Int)))))))))))
    ((Bool.true = Go.Sx.incB l) ∧
    (True))))))
theorem increasing_vc (l : List Int) : runF Try.prog (gam increasing_G) noWr (increasing_ann l) Try.f104 (bodyOf Try.f104) [] [.c (.ints .i64 (l))] (increasing_p l) = increasing_V l := by kernel_rfl
theorem increasing_ok (l : List Int) (hpre : (increasing_p l).pre) : increasing_V l := by
  simp only [increasing_p, increasing_V, BrP_iff, true_and, and_true, decide_eq_true_eq, decide_eq_false_iff_not, bne_iff_ne, beq_iff_eq, bne_eq_false_iff_eq, beq_eq_false_iff_ne, Bool.not_eq_true, Bool.not_eq_false, Bool.not_true, Bool.not_false, Bool.not_eq_eq_eq_not, Int.toNat_natCast, List.length_append, List.length_take, List.length_replicate, List.length_set, List.length_map, List.length_drop, List.length_nil, List.length_cons, markL_length, inB, InR, room, bdsOk] at hpre ⊢
  refine ⟨⟨0, rfl, rfl⟩, fun i he => ⟨fun h => ?_, fun h => ?_⟩⟩
  · have hd := incB_drop l i (by omega)
    rw [show ((i : Int) + 1).toNat = i + 1 by omega, show ((i : Int) + 1 - 1).toNat = i by omega]
    refine ⟨by omega, by omega, by omega, fun h1 => ?_, fun h1 => ⟨by omega, i + 1, ?_, by omega, by omega⟩⟩
    · rw [he, hd, decide_eq_false (by omega)]; rfl
    · rw [he, hd, decide_eq_true (by omega)]; rfl
  · rw [he, incB_short l i (by omega)]
theorem increasing_fits : Fits Try.prog 104 ⟨[], increasing_ct⟩ := by
  refine fits_fn (Γ := gam increasing_G) gok_nil Try.func104 (by kernel_rfl) (by kernel_rfl) (by kernel_rfl) fun ds p h hp => ?_
  unfold increasing_ct at h
  split at h
  · cases h
    exact ⟨noWr, increasing_ann _ , by rw [increasing_vc]; exact increasing_ok _  hp⟩
  · cases h

def isIdentity_p (l : List Int) : Post := ⟨room l.length, .c (.bool (incB l)), []⟩
def isIdentity_ct : List AD → Option Post
  | [.c (.ints .i64 (l))] => some (isIdentity_p l)
  | _ => none
def isIdentity_G : List (Nat × Ctr) := [(104, ⟨[], increasing_ct⟩)]
def isIdentity_V (l : List Int) : Prop :=
  (((Go.Sx.room (List.length l)) ∧
  (True)) ∧
  ((Go.Sx.incB l = Go.Sx.incB l) ∧
  (True)))
theorem isIdentity_vc (l : List Int) : runF Try.prog (gam isIdentity_G) noWr noAnn Try.f81 (bodyOf Try.f81) [] [.c (.ints .i64 (l))] (isIdentity_p l) = isIdentity_V l := by kernel_rfl
theorem isIdentity_ok (l : List Int) (hpre : (isIdentity_p l).pre) : isIdentity_V l := by
  simp only [isIdentity_p, isIdentity_V, BrP_iff, true_and, and_true, decide_eq_true_eq, decide_eq_false_iff_not, bne_iff_ne, beq_iff_eq, bne_eq_false_iff_eq, beq_eq_false_iff_ne, Bool.not_eq_true, Bool.not_eq_false, Bool.not_true, Bool.not_false, Bool.not_eq_eq_eq_not, Int.toNat_natCast, List.length_append, List.length_take, List.length_replicate, List.length_set, List.length_map, List.length_drop, List.length_nil, List.length_cons, markL_length, inB, InR, room, bdsOk] at hpre ⊢
  exact hpre
theorem isIdentity_fits : Fits Try.prog 81 ⟨[], isIdentity_ct⟩ := by
  refine fits_fn (Γ := gam isIdentity_G) (gok_cons increasing_fits gok_nil) Try.func81 (by kernel_rfl) (by kernel_rfl) (by kernel_rfl) fun ds p h hp => ?_
  unfold isIdentity_ct at h
  split at h
  · cases h
    exact ⟨noWr, noAnn, by rw [isIdentity_vc]; exact isIdentity_ok _  hp⟩
  · cases h

def l01Same_p (a : List Int) (b : List Int) : Post := ⟨room a.length, .c (.bool (decide (a = b))), []⟩
def l01Same_ct : List AD → Option Post
  | [.c (.ints .i64 (a)), .c (.ints .i64 (b))] => some (l01Same_p a b)
  | _ => none
def l01Same_ann (a : List Int) (b : List Int) : Nat → Option Ann
  | 0 => some (Ann.mk ((Nat)) (fun i => ⟨[(0, .c (.ro (.ints .i64 (a)))), (1, .c (.ro (.ints .i64 (b)))), (5, .c (.int .i64 ((i : Int))))], []⟩) (fun i => i ≤ a.length ∧ a.length = b.length ∧ a.take i = b.take i) (fun i => a.length - i) (fun _ => noAnn))
  | _ => none
def l01Same_G : List (Nat × Ctr) := []
def l01Same_V (a : List Int) (b : List Int) : Prop :=
  (BrP ((↑(List.length a) : Int) != (↑(List.length b) : Int))
    ((Bool.false = Decidable.decide (a = b)) ∧
    (True))
    ((∃ x0 : Nat, (((x0 ≤ List.length a) ∧
    ((List.length a = List.length b) ∧
    (List.take x0 a = List.take x0 b))) ∧
    ((a = a) ∧
    ((b = b) ∧
    ((0 : Int) = (↑x0 : Int)))))) ∧
    (∀ x1 : Nat, (((x1 ≤ List.length a) ∧
    ((List.length a = List.length b) ∧
    (List.take x1 a = List.take x1 b))) →
    (BrP (Decidable.decide ((↑x1 : Int) < (↑(List.length a) : Int)))
      ((Go.Sx.inB (↑x1 : Int) (List.length a)) ∧
      ((Go.Sx.inB (↑x1 : Int) (List.length b)) ∧
      (BrP (List.getD a (Int.toNat (↑x1 : Int)) (0 : Int) != List.getD b (Int.toNat (↑x1 : Int)) (0 : Int))
        ((Bool.false = Decidable.decide (a = b)) ∧
        (True))
        ((Go.Sx.InR ((↑x1 : Int) + (1 : Int))) ∧
        (∃ x2 : Nat, (((x2 ≤ List.length a) ∧
        ((List.length a = List.length b) ∧
        (List.take x2 a = List.take x2 b))) ∧
        ((List.length a - x2 < List.length a - x1) ∧
        ((a = a) ∧
        ((b = b) ∧
        ((↑x1 : Int) + (1 : Int) = (↑x2 : Int)))))))))))
      ((Bool.true = Decidable.decide (a = b)) ∧
      (True)))))))
theorem l01Same_vc (a : List Int) (b : List Int) : runF Try.prog (gam l01Same_G) noWr (l01Same_ann a b) Try.f95 (bodyOf Try.f95) [] [.c (.ints .i64 (a)), .c (.ints .i64 (b))] (l01Same_p a b) = l01Same_V a b := by kernel_rfl
theorem l01Same_ok (a : List Int) (b : List Int) (hpre : (l01Same_p a b).pre) : l01Same_V a b := by
  simp only [l01Same_p, l01Same_V, BrP_iff, true_and, and_true, decide_eq_true_eq, decide_eq_false_iff_not, bne_iff_ne, beq_iff_eq, bne_eq_false_iff_eq, beq_eq_false_iff_ne, Bool.not_eq_true, Bool.not_eq_false, Bool.not_true, Bool.not_false, Bool.not_eq_eq_eq_not, Int.toNat_natCast, List.length_append, List.length_take, List.length_replicate, List.length_set, List.length_map, List.length_drop, List.length_nil, List.length_cons, markL_length, inB, InR, room, bdsOk] at hpre ⊢
  refine ⟨fun h => ?_, fun h => ⟨⟨0, ⟨by omega, by omega, rfl⟩, by simp⟩, fun i hi => ⟨fun h1 => ⟨by omega, by omega, fun h2 => ?_, fun h2 => ⟨by omega, i + 1, ⟨by omega, hi.2.1, ?_⟩, by omega, by omega⟩⟩, fun h1 => ?_⟩⟩⟩
  · exact (decide_eq_false fun e => h (by rw [e])).symm
  · exact (decide_eq_false fun e => h2 (by rw [e])).symm
  · exact (take_eq_step a b 0 i (by omega) (by omega) hi.2.2).2 h2
  · refine (decide_eq_true ?_).symm
    have := hi.2.2
    rwa [List.take_of_length_le (by omega), List.take_of_length_le (by omega)] at this
theorem l01Same_fits : Fits Try.prog 95 ⟨[], l01Same_ct⟩ := by
  refine fits_fn (Γ := gam l01Same_G) gok_nil Try.func95 (by kernel_rfl) (by kernel_rfl) (by kernel_rfl) fun ds p h hp => ?_
  unfold l01Same_ct at h
  split at h
  · cases h
    exact ⟨noWr, l01Same_ann _ _ , by rw [l01Same_vc]; exact l01Same_ok _ _  hp⟩
  · cases h

def pureC (s : Int) (w : List Int) : Bool × Int := if braidB s w = true then (decide (backL (permL s w) = unitL s.toNat), 0) else (false, 1)

theorem rngB_back (p : List Int) : ∀ i, i ≤ p.length → rngB (p.length : Int) (backN p i)
  | 0, _ => fun x hx => by
    simp only [backN, List.mem_replicate] at hx
    omega
  | i + 1, hi => rngB_set (rngB_back p i (by omega)) (by omega)

theorem pure_eq {s : Int} {w : List Int} (h : braidB s w = true) : incB (backL (permL s w)) = decide (backL (permL s w) = unitL s.toNat) := by
  have hl : (backL (permL s w)).length = s.toNat := by rw [backL, backN_length, permL, permN_length]
  have hr := rngB_back (permL s w) _ (Nat.le_refl _)
  have hp : (permL s w).length = s.toNat := permN_length s w _
  have := inc_unit (l := backL (permL s w)) (by rw [hl, ← hp]; exact hr)
  rw [hl] at this
  exact this

def sIsPure_p (s : Int) (w : List Int) : Post := ⟨room w.length, .tup [.inl (.bool ((pureC s w).1)), .inl (.int .i64 ((pureC s w).2))], []⟩
def sIsPure_ct : List AD → Option Post
  | [.agg [.int .i64 (s), .ints .i64 (w)]] => some (sIsPure_p s w)
  | _ => none
def sIsPure_G : List (Nat × Ctr) := [(67, ⟨[], l16Is_ct⟩), (93, ⟨[], l16Permutation_ct⟩), (96, ⟨[], l01Unit_ct⟩), (95, ⟨[], l01Same_ct⟩)]
def sIsPure_V (s : Int) (w : List Int) : Prop :=
  (((Go.Sx.room (List.length w)) ∧
  (True)) ∧
  (BrP (!Go.Sx.braidB s w)
    (((Bool.false = Prod.fst (Go.Sx.pureC s w)) ∧
    (((1 : Int) = Prod.snd (Go.Sx.pureC s w)) ∧
    (True))) ∧
    (True))
    (((Go.Sx.braidB s w = Bool.true) ∧
    (True)) ∧
    (((((0 : Int) ≤ s) ∧
    (s ≤ (1099511627776 : Int))) ∧
    (True)) ∧
    (((Go.Sx.room (List.length (Go.Sx.backL (Go.Sx.permL s w)))) ∧
    (True)) ∧
    (((Decidable.decide (Go.Sx.backL (Go.Sx.permL s w) = Go.Sx.unitL (Int.toNat s)) = Prod.fst (Go.Sx.pureC s w)) ∧
    (((0 : Int) = Prod.snd (Go.Sx.pureC s w)) ∧
    (True))) ∧
    (True)))))))
theorem sIsPure_vc (s : Int) (w : List Int) : runF Try.prog (gam sIsPure_G) noWr noAnn Try.f51 (bodyOf Try.f51) [] [.agg [.int .i64 (s), .ints .i64 (w)]] (sIsPure_p s w) = sIsPure_V s w := by kernel_rfl
theorem sIsPure_ok (s : Int) (w : List Int) (hpre : (sIsPure_p s w).pre) : sIsPure_V s w := by
  simp only [sIsPure_p, sIsPure_V, BrP_iff, true_and, and_true, decide_eq_true_eq, decide_eq_false_iff_not, bne_iff_ne, beq_iff_eq, bne_eq_false_iff_eq, beq_eq_false_iff_ne, Bool.not_eq_true, Bool.not_eq_false, Bool.not_true, Bool.not_false, Bool.not_eq_eq_eq_not, Int.toNat_natCast, List.length_append, List.length_take, List.length_replicate, List.length_set, List.length_map, List.length_drop, List.length_nil, List.length_cons, markL_length, inB, InR, room, bdsOk] at hpre ⊢
  refine ⟨hpre, fun h => by simp [pureC, h], fun h => ?_⟩
  have hs := braidB_s h
  refine ⟨h, by omega, ?_, ?_⟩
  · rw [backL, backN_length, permL, permN_length]; omega
  · simp [pureC, h]
theorem sIsPure_fits : Fits Try.prog 51 ⟨[], sIsPure_ct⟩ := by
  refine fits_fn (Γ := gam sIsPure_G) (gok_cons l16Is_fits (gok_cons l16Permutation_fits (gok_cons l01Unit_fits (gok_cons l01Same_fits gok_nil)))) Try.func51 (by kernel_rfl) (by kernel_rfl) (by kernel_rfl) fun ds p h hp => ?_
  unfold sIsPure_ct at h
  split at h
  · cases h
    exact ⟨noWr, noAnn, by rw [sIsPure_vc]; exact sIsPure_ok _ _  hp⟩
  · cases h

def iIsPure_p (s : Int) (w : List Int) : Post := ⟨room w.length, .tup [.inl (.bool ((pureC s w).1)), .inl (.int .i64 ((pureC s w).2))], []⟩
def iIsPure_ct : List AD → Option Post
  | [.agg [.int .i64 (s), .ints .i64 (w)]] => some (iIsPure_p s w)
  | _ => none
def iIsPure_G : List (Nat × Ctr) := [(25, ⟨[], iIsBraid_ct⟩), (94, ⟨[], braidPermutation_ct⟩), (81, ⟨[], isIdentity_ct⟩)]
def iIsPure_V (s : Int) (w : List Int) : Prop :=
  (((Go.Sx.room (List.length w)) ∧
  (True)) ∧
  (BrP (!Go.Sx.braidB s w)
    (((Bool.false = Prod.fst (Go.Sx.pureC s w)) ∧
    (((1 : Int) = Prod.snd (Go.Sx.pureC s w)) ∧
    (True))) ∧
    (True))
    (((Go.Sx.braidB s w = Bool.true) ∧
    (True)) ∧
    (((Go.Sx.room (List.length (Go.Sx.backL (Go.Sx.permL s w)))) ∧
    (True)) ∧
    (((Go.Sx.incB (Go.Sx.backL (Go.Sx.permL s w)) = Prod.fst (Go.Sx.pureC s w)) ∧
    (((0 : Int) = Prod.snd (Go.Sx.pureC s w)) ∧
    (True))) ∧
    (True))))))
theorem iIsPure_vc (s : Int) (w : List Int) : runF Try.prog (gam iIsPure_G) noWr noAnn Try.f52 (bodyOf Try.f52) [] [.agg [.int .i64 (s), .ints .i64 (w)]] (iIsPure_p s w) = iIsPure_V s w := by kernel_rfl
theorem iIsPure_ok (s : Int) (w : List Int) (hpre : (iIsPure_p s w).pre) : iIsPure_V s w := by
  simp only [iIsPure_p, iIsPure_V, BrP_iff, true_and, and_true, decide_eq_true_eq, decide_eq_false_iff_not, bne_iff_ne, beq_iff_eq, bne_eq_false_iff_eq, beq_eq_false_iff_ne, Bool.not_eq_true, Bool.not_eq_false, Bool.not_true, Bool.not_false, Bool.not_eq_eq_eq_not, Int.toNat_natCast, List.length_append, List.length_take, List.length_replicate, List.length_set, List.length_map, List.length_drop, List.length_nil, List.length_cons, markL_length, inB, InR, room, bdsOk] at hpre ⊢
  refine ⟨hpre, fun h => by simp [pureC, h], fun h => ?_⟩
  have hs := braidB_s h
  refine ⟨h, ?_, ?_⟩
  · rw [backL, backN_length, permL, permN_length]; omega
  · rw [pure_eq h]; simp [pureC, h]
theorem iIsPure_fits : Fits Try.prog 52 ⟨[], iIsPure_ct⟩ := by
  refine fits_fn (Γ := gam iIsPure_G) (gok_cons iIsBraid_fits (gok_cons braidPermutation_fits (gok_cons isIdentity_fits gok_nil))) Try.func52 (by kernel_rfl) (by kernel_rfl) (by kernel_rfl) fun ds p h hp => ?_
  unfold iIsPure_ct at h
  split at h
  · cases h
    exact ⟨noWr, noAnn, by rw [iIsPure_vc]; exact iIsPure_ok _ _  hp⟩
  · cases h

def lIsPure_p (s : Int) (w : List Int) : Post := ⟨(w.length : Int) ≤ 9223372036854775807, .c (.bool (true)), []⟩
def lIsPure_ct : List AD → Option Post
  | [.agg [.int .i64 (s), .ints .i64 (w)]] => some (lIsPure_p s w)
  | _ => none
def lIsPure_G : List (Nat × Ctr) := [(22, ⟨[], szBraid_ct⟩), (24, ⟨[], toBraid_ct⟩), (26, ⟨[], eqBraid_ct⟩), (51, ⟨[], sIsPure_ct⟩), (52, ⟨[], iIsPure_ct⟩)]
def lIsPure_V (s : Int) (w : List Int) : Prop :=
  (((((↑(List.length w) : Int) ≤ (9223372036854775807 : Int)) ∧
  (((0 : Int) ≤ (1048576 : Int)) ∧
  ((1048576 : Int) ≤ (1099511627776 : Int)))) ∧
  (True)) ∧
  (BrP (Decidable.decide ((if (1048576 : Int) < (↑(List.length w) : Int) then (-1 : Int) else (1048576 : Int) - (↑(List.length w) : Int)) < (0 : Int)))
    ((Bool.true = Bool.true) ∧
    (True))
    (((Go.Sx.room (List.length w)) ∧
    (True)) ∧
    (((Go.Sx.room (List.length w)) ∧
    (True)) ∧
    (((Go.Sx.room (List.length w)) ∧
    (True)) ∧
    (((Go.Sx.room (List.length w)) ∧
    (True)) ∧
    (BrP (!Prod.fst (Go.Sx.pureC s w) == Prod.fst (Go.Sx.pureC s w))
      ((Bool.false = Bool.true) ∧
      (True))
      (BrP (Prod.snd (Go.Sx.pureC s w) != Prod.snd (Go.Sx.pureC s w))
        ((Bool.false = Bool.true) ∧
        (True))
        (((Go.Sx.room (List.length w)) ∧
        (True)) ∧
        (((Go.Sx.room (List.length w)) ∧
        (True)) ∧
        (BrP (!Decidable.decide (s = s ∧ w = w))
          ((Bool.false = Bool.true) ∧
          (True))
          ((Bool.true = Bool.true) ∧
          (True)))))))))))))
theorem lIsPure_vc (s : Int) (w : List Int) : runF Try.prog (gam lIsPure_G) noWr noAnn Try.f15 (bodyOf Try.f15) [] [.agg [.int .i64 (s), .ints .i64 (w)]] (lIsPure_p s w) = lIsPure_V s w := by kernel_rfl
theorem lIsPure_ok (s : Int) (w : List Int) (hpre : (lIsPure_p s w).pre) : lIsPure_V s w := by
  simp only [lIsPure_p, lIsPure_V, BrP_iff, true_and, and_true, decide_eq_true_eq, decide_eq_false_iff_not, bne_iff_ne, beq_iff_eq, bne_eq_false_iff_eq, beq_eq_false_iff_ne, Bool.not_eq_true, Bool.not_eq_false, Bool.not_true, Bool.not_false, Bool.not_eq_eq_eq_not, Int.toNat_natCast, List.length_append, List.length_take, List.length_replicate, List.length_set, List.length_map, List.length_drop, List.length_nil, List.length_cons, markL_length, inB, InR, room, bdsOk] at hpre ⊢
  refine ⟨⟨hpre, by omega, by omega⟩, fun _ => trivial, fun h => ?_⟩
  have hw : w.length ≤ 1099511627776 := by split at h <;> omega
  simp [hw]
theorem lIsPure_fits : Fits Try.prog 15 ⟨[], lIsPure_ct⟩ := by
  refine fits_fn (Γ := gam lIsPure_G) (gok_cons szBraid_fits (gok_cons toBraid_fits (gok_cons eqBraid_fits (gok_cons sIsPure_fits (gok_cons iIsPure_fits gok_nil))))) Try.func15 (by kernel_rfl) (by kernel_rfl) (by kernel_rfl) fun ds p h hp => ?_
  unfold lIsPure_ct at h
  split at h
  · cases h
    exact ⟨noWr, noAnn, by rw [lIsPure_vc]; exact lIsPure_ok _ _  hp⟩
  · cases h

end Go.Sx

