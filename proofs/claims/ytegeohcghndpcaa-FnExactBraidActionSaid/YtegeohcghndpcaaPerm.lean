/- Contracts on the way of BraidPermutation and IsPureBraid. -/
import Derived.Test.YtegeohcghndpcaaBraidSum
open Go Go.Proofs
namespace Go.Sx
set_option linter.unusedSimpArgs false
set_option linter.unusedVariables false

def unitL (n : Nat) : List Int := tab n fun i => (i : Int)

/-- The inverse, as far as i places are written. -/
def backN (p : List Int) : Nat → List Int
  | 0 => List.replicate p.length 0
  | i + 1 => (backN p i).set (p.getD i 0).toNat (i : Int)

theorem backN_length (p : List Int) : ∀ i, (backN p i).length = p.length
  | 0 => by simp [backN]
  | i + 1 => by simp [backN, backN_length p i]

def backL (p : List Int) : List Int := backN p p.length

def swapAt (l : List Int) (k : Nat) : List Int := (l.set k (l.getD (k + 1) 0)).set (k + 1) (l.getD k 0)

theorem swapAt_length (l : List Int) (k : Nat) : (swapAt l k).length = l.length := by simp [swapAt]

def plc (x : Int) : Int := x * sgn x - 1

theorem plc_in {s : Int} {w : List Int} (h : braidB s w = true) (i : Nat) (hi : i < w.length) : 0 ≤ plc (w.getD i 0) ∧ plc (w.getD i 0) ≤ s - 2 := by
  have h1 := braidB_get h i hi
  unfold plc sgn
  split <;> omega

def permN (s : Int) (w : List Int) : Nat → List Int
  | 0 => unitL s.toNat
  | i + 1 => swapAt (permN s w i) (plc (w.getD i 0)).toNat

theorem permN_length (s : Int) (w : List Int) : ∀ i, (permN s w i).length = s.toNat
  | 0 => by simp [permN, unitL, tab_length]
  | i + 1 => by simp [permN, swapAt_length, permN_length s w i]

def permL (s : Int) (w : List Int) : List Int := permN s w w.length

def rngB (n : Int) (l : List Int) : Prop := ∀ x ∈ l, 0 ≤ x ∧ x < n

theorem rngB_get {n : Int} {l : List Int} (h : rngB n l) (i : Nat) (hi : i < l.length) : 0 ≤ l.getD i 0 ∧ l.getD i 0 < n := h _ (getD_mem l 0 i hi)

theorem rngB_set {n : Int} {l : List Int} (h : rngB n l) {a : Nat} {v : Int} (hv : 0 ≤ v ∧ v < n) : rngB n (l.set a v) := fun x hx => by
  rcases mem_set hx with hx | rfl
  · exact h x hx
  · exact hv

theorem rngB_swap {n : Int} {l : List Int} (h : rngB n l) {k : Nat} (hk : k + 1 < l.length) : rngB n (swapAt l k) :=
  rngB_set (rngB_set h (rngB_get h _ hk)) (rngB_get h _ (by omega))

theorem rngB_unit (n : Nat) : rngB (n : Int) (unitL n) := fun x hx => by
  simp only [unitL, tab, List.mem_map, List.mem_range] at hx
  obtain ⟨i, hi, rfl⟩ := hx
  omega

theorem rngB_perm {s : Int} {w : List Int} (h : braidB s w = true) : ∀ i, i ≤ w.length → rngB s (permN s w i)
  | 0, _ => by
    have hs := braidB_s h
    have := rngB_unit s.toNat
    rw [show ((s.toNat : Nat) : Int) = s by omega] at this
    exact this
  | i + 1, hi => by
    have hs := braidB_s h
    have hp := plc_in h i (by omega)
    exact rngB_swap (rngB_perm h i (by omega)) (by rw [permN_length]; omega)

def permC (s : Int) (w : List Int) : List Int × Int := if braidB s w = true then (backL (permL s w), 0) else ([], 1)

theorem permC_no {s : Int} {w : List Int} (h : braidB s w = false) : [] = (permC s w).1 ∧ 1 = (permC s w).2 := by simp [permC, h]
theorem permC_yes {s : Int} {w : List Int} (h : braidB s w = true) : backL (permL s w) = (permC s w).1 ∧ 0 = (permC s w).2 := by simp [permC, h]
theorem permC_len (s : Int) (w : List Int) : (permC s w).1.length ≤ 6 := by
  unfold permC
  split
  · rename_i h
    have := braidB_s h
    simp only [backL, backN_length, permL, permN_length]
    omega
  · simp

def incB : List Int → Bool
  | x :: y :: r => decide (x < y) && incB (y :: r)
  | _ => true

theorem incB_drop (l : List Int) (i : Nat) (h : i + 1 < l.length) : incB (l.drop i) = (decide (l.getD i 0 < l.getD (i + 1) 0) && incB (l.drop (i + 1))) := by
  rw [drop_cons' l 0 i (by omega), drop_cons' l 0 (i + 1) h]
  rfl

theorem incB_short (l : List Int) (i : Nat) (h : l.length ≤ i + 1) : incB (l.drop i) = true := by
  by_cases hi : i < l.length
  · rw [drop_cons' l 0 i hi, List.drop_of_length_le h]; rfl
  · rw [List.drop_of_length_le (by omega)]; rfl

theorem incB_get {l : List Int} (h : incB l = true) (i : Nat) (hi : i + 1 < l.length) : l.getD i 0 < l.getD (i + 1) 0 := by
  have : ∀ j, j ≤ i → incB (l.drop j) = true := fun j => by
    induction j with
    | zero => intro _; simpa using h
    | succ j ih =>
      intro hj
      have := ih (by omega)
      rw [incB_drop l j (by omega), Bool.and_eq_true] at this
      exact this.2
  have := this i (Nat.le_refl _)
  rw [incB_drop l i hi, Bool.and_eq_true] at this
  exact of_decide_eq_true this.1

/-- Increasing numbers of 0..n-1, n of them, are all in order. -/
theorem inc_unit {l : List Int} (hr : rngB (l.length : Int) l) : incB l = decide (l = unitL l.length) := by
  cases hc : incB l with
  | true =>
    symm
    apply decide_eq_true
    have low : ∀ i, i < l.length → (i : Int) ≤ l.getD i 0 := fun i => by
      induction i with
      | zero => intro hi; exact (rngB_get hr 0 hi).1
      | succ i ih =>
        intro hi
        have h1 := ih (by omega)
        have h2 := incB_get hc i hi
        omega
    have high : ∀ j i, i + j + 1 = l.length → l.getD i 0 ≤ (i : Int) := fun j => by
      induction j with
      | zero =>
        intro i hi
        have := rngB_get hr i (by omega)
        omega
      | succ j ih =>
        intro i hi
        have h1 := ih (i + 1) (by omega)
        have h2 := incB_get hc i (by omega)
        omega
    apply list_ext (by simp [unitL, tab_length])
    intro i hi
    rw [unitL, tab_getD _ _ _ hi]
    have h1 := low i hi
    have h2 := high (l.length - i - 1) i (by omega)
    omega
  | false =>
    symm
    apply decide_eq_false
    intro he
    have : ∀ n i, n - i ≤ n → incB ((unitL n).drop (n - i)) = true := fun n i => by
      induction i with
      | zero => intro _; exact incB_short _ _ (by simp [unitL, tab_length])
      | succ i ih =>
        intro hi
        by_cases hn : i + 1 ≤ n
        · by_cases h1 : i = 0
          · subst h1; exact incB_short _ _ (by simp [unitL, tab_length]; omega)
          · rw [incB_drop _ _ (by simp [unitL, tab_length]; omega), Bool.and_eq_true]
            refine ⟨decide_eq_true ?_, ?_⟩
            · rw [unitL, tab_getD _ _ _ (by omega), tab_getD _ _ _ (by omega)]; omega
            · rw [show n - (i + 1) + 1 = n - i by omega]; exact ih (by omega)
        · have := ih (by omega)
          rwa [show n - (i + 1) = n - i by omega]
    have := this l.length l.length (by omega)
    rw [Nat.sub_self, List.drop_zero, ← he, hc] at this
    cases this





def placeOf_p (x : Int) : Post := ⟨-1000000 ≤ x ∧ x ≤ 1000000, .c (.int .i64 (plc x)), []⟩
def placeOf_ct : List AD → Option Post
  | [.c (.int .i64 (x))] => some (placeOf_p x)
  | _ => none
def placeOf_G : List (Nat × Ctr) := [(163, ⟨[], signOf_ct⟩)]
def placeOf_V (x : Int) : Prop :=
  (((True) ∧
  (True)) ∧
  ((Go.Sx.InR (x * Go.Sx.sgn x)) ∧
  ((Go.Sx.InR (x * Go.Sx.sgn x - (1 : Int))) ∧
  ((x * Go.Sx.sgn x - (1 : Int) = Go.Sx.plc x) ∧
  (True)))))
theorem placeOf_vc (x : Int) : runF Try.prog (gam placeOf_G) noWr noAnn Try.f157 (bodyOf Try.f157) [] [.c (.int .i64 (x))] (placeOf_p x) = placeOf_V x := by kernel_rfl
theorem placeOf_ok (x : Int) (hpre : (placeOf_p x).pre) : placeOf_V x := by
  simp only [placeOf_p, placeOf_V, BrP_iff, true_and, and_true, decide_eq_true_eq, decide_eq_false_iff_not, bne_iff_ne, beq_iff_eq, bne_eq_false_iff_eq, beq_eq_false_iff_ne, Bool.not_eq_true, Bool.not_eq_false, Bool.not_true, Bool.not_false, Bool.not_eq_eq_eq_not, Int.toNat_natCast, List.length_append, List.length_take, List.length_replicate, List.length_set, List.length_map, List.length_drop, List.length_nil, List.length_cons, markL_length, inB, InR, room, bdsOk] at hpre ⊢
  unfold plc sgn
  split <;> omega
theorem placeOf_fits : Fits Try.prog 157 ⟨[], placeOf_ct⟩ := by
  refine fits_fn (Γ := gam placeOf_G) (gok_cons signOf_fits gok_nil) Try.func157 (by kernel_rfl) (by kernel_rfl) (by kernel_rfl) fun ds p h hp => ?_
  unfold placeOf_ct at h
  split at h
  · cases h
    exact ⟨noWr, noAnn, by rw [placeOf_vc]; exact placeOf_ok _  hp⟩
  · cases h

def l16Place_p (x : Int) : Post := ⟨-1000000 ≤ x ∧ x ≤ 1000000, .c (.int .i64 (plc x)), []⟩
def l16Place_ct : List AD → Option Post
  | [.c (.int .i64 (x))] => some (l16Place_p x)
  | _ => none
def l16Place_G : List (Nat × Ctr) := []
def l16Place_V (x : Int) : Prop :=
  (BrP (Decidable.decide (x < (0 : Int)))
    ((Go.Sx.InR (-x)) ∧
    ((Go.Sx.InR (-x - (1 : Int))) ∧
    ((-x - (1 : Int) = Go.Sx.plc x) ∧
    (True))))
    ((Go.Sx.InR (x - (1 : Int))) ∧
    ((x - (1 : Int) = Go.Sx.plc x) ∧
    (True))))
theorem l16Place_vc (x : Int) : runF Try.prog (gam l16Place_G) noWr noAnn Try.f123 (bodyOf Try.f123) [] [.c (.int .i64 (x))] (l16Place_p x) = l16Place_V x := by kernel_rfl
theorem l16Place_ok (x : Int) (hpre : (l16Place_p x).pre) : l16Place_V x := by
  simp only [l16Place_p, l16Place_V, BrP_iff, true_and, and_true, decide_eq_true_eq, decide_eq_false_iff_not, bne_iff_ne, beq_iff_eq, bne_eq_false_iff_eq, beq_eq_false_iff_ne, Bool.not_eq_true, Bool.not_eq_false, Bool.not_true, Bool.not_false, Bool.not_eq_eq_eq_not, Int.toNat_natCast, List.length_append, List.length_take, List.length_replicate, List.length_set, List.length_map, List.length_drop, List.length_nil, List.length_cons, markL_length, inB, InR, room, bdsOk] at hpre ⊢
  unfold plc sgn
  refine ⟨fun h => ?_, fun h => ?_⟩
  · rw [if_pos h]; omega
  · rw [if_neg h]; omega
theorem l16Place_fits : Fits Try.prog 123 ⟨[], l16Place_ct⟩ := by
  refine fits_fn (Γ := gam l16Place_G) gok_nil Try.func123 (by kernel_rfl) (by kernel_rfl) (by kernel_rfl) fun ds p h hp => ?_
  unfold l16Place_ct at h
  split at h
  · cases h
    exact ⟨noWr, noAnn, by rw [l16Place_vc]; exact l16Place_ok _  hp⟩
  · cases h








def l01Same_p (a : List Int) (b : List Int) : Post := ⟨room a.length, .c (.bool (decide (a = b))), []⟩
def l01Same_ct : List AD → Option Post
  | [.c (.ints .i64 (a)), .c (.ints .i64 (b))] => some (l01Same_p a b)
  | _ => none
def l01Same_ann (a : List Int) (b : List Int) : Nat → Option Ann
  | 0 => some (Ann.mk ((Nat)) (fun i => ⟨[(0, .c (.ro (.ints .i64 (a)))), (1, .c (.ro (.ints .i64 (b)))), (5, .c (.int .i64 ((i : Int))))], []⟩) (fun i => i ≤ a.length ∧ a.length = b.length ∧ a.take i = b.take i) (fun i => a.length - i) (fun _ => noAnn))
  | _ => none
def l01Same_G : List (Nat × Ctr) := []
def l01Same_V (a : List Int) (b : List Int) : Prop :=
  (BrP ((↑(List.length a) : Int) != (↑(List.length b) : Int))
    ((Bool.false = Decidable.decide (a = b)) ∧
    (True))
    ((∃ x0 : Nat, (((x0 ≤ List.length a) ∧
    ((List.length a = List.length b) ∧
    (List.take x0 a = List.take x0 b))) ∧
    ((a = a) ∧
    ((b = b) ∧
    ((0 : Int) = (↑x0 : Int)))))) ∧
    (∀ x1 : Nat, (((x1 ≤ List.length a) ∧
    ((List.length a = List.length b) ∧
    (List.take x1 a = List.take x1 b))) →
    (BrP (Decidable.decide ((↑x1 : Int) < (↑(List.length a) : Int)))
      ((Go.Sx.inB (↑x1 : Int) (List.length a)) ∧
      ((Go.Sx.inB (↑x1 : Int) (List.length b)) ∧
      (BrP (List.getD a (Int.toNat (↑x1 : Int)) (0 : Int) != List.getD b (Int.toNat (↑x1 : Int)) (0 : Int))
        ((Bool.false = Decidable.decide (a = b)) ∧
        (True))
        ((Go.Sx.InR ((↑x1 : Int) + (1 : Int))) ∧
        (∃ x2 : Nat, (((x2 ≤ List.length a) ∧
        ((List.length a = List.length b) ∧
        (List.take x2 a = List.take x2 b))) ∧
        ((List.length a - x2 < List.length a - x1) ∧
        ((a = a) ∧
        ((b = b) ∧
        ((↑x1 : Int) + (1 : Int) = (↑x2 : Int)))))))))))
      ((Bool.true = Decidable.decide (a = b)) ∧
      (True)))))))
theorem l01Same_vc (a : List Int) (b : List Int) : runF Try.prog (gam l01Same_G) noWr (l01Same_ann a b) Try.f95 (bodyOf Try.f95) [] [.c (.ints .i64 (a)), .c (.ints .i64 (b))] (l01Same_p a b) = l01Same_V a b := by kernel_rfl
theorem l01Same_ok (a : List Int) (b : List Int) (hpre : (l01Same_p a b).pre) : l01Same_V a b := by
  simp only [l01Same_p, l01Same_V, BrP_iff, true_and, and_true, decide_eq_true_eq, decide_eq_false_iff_not, bne_iff_ne, beq_iff_eq, bne_eq_false_iff_eq, beq_eq_false_iff_ne, Bool.not_eq_true, Bool.not_eq_false, Bool.not_true, Bool.not_false, Bool.not_eq_eq_eq_not, Int.toNat_natCast, List.length_append, List.length_take, List.length_replicate, List.length_set, List.length_map, List.length_drop, List.length_nil, List.length_cons, markL_length, inB, InR, room, bdsOk] at hpre ⊢
  refine ⟨fun h => ?_, fun h => ⟨⟨0, ⟨by omega, by omega, rfl⟩, by simp⟩, fun i hi => ⟨fun h1 => ⟨by omega, by omega, fun h2 => ?_, fun h2 => ⟨by omega, i + 1, ⟨by omega, hi.2.1, ?_⟩, by omega, by omega⟩⟩, fun h1 => ?_⟩⟩⟩
  · exact (decide_eq_false fun e => h (by rw [e])).symm
  · exact (decide_eq_false fun e => h2 (by rw [e])).symm
  · exact (take_eq_step a b 0 i (by omega) (by omega) hi.2.2).2 h2
  · refine (decide_eq_true ?_).symm
    have := hi.2.2
    rwa [List.take_of_length_le (by omega), List.take_of_length_le (by omega)] at this
theorem l01Same_fits : Fits Try.prog 95 ⟨[], l01Same_ct⟩ := by
  refine fits_fn (Γ := gam l01Same_G) gok_nil Try.func95 (by kernel_rfl) (by kernel_rfl) (by kernel_rfl) fun ds p h hp => ?_
  unfold l01Same_ct at h
  split at h
  · cases h
    exact ⟨noWr, l01Same_ann _ _ , by rw [l01Same_vc]; exact l01Same_ok _ _  hp⟩
  · cases h

def pureC (s : Int) (w : List Int) : Bool × Int := if braidB s w = true then (decide (backL (permL s w) = unitL s.toNat), 0) else (false, 1)

theorem rngB_back (p : List Int) : ∀ i, i ≤ p.length → rngB (p.length : Int) (backN p i)
  | 0, _ => fun x hx => by
    simp only [backN, List.mem_replicate] at hx
    omega
  | i + 1, hi => rngB_set (rngB_back p i (by omega)) (by omega)

theorem pure_eq {s : Int} {w : List Int} (h : braidB s w = true) : incB (backL (permL s w)) = decide (backL (permL s w) = unitL s.toNat) := by
  have hl : (backL (permL s w)).length = s.toNat := by rw [backL, backN_length, permL, permN_length]
  have hr := rngB_back (permL s w) _ (Nat.le_refl _)
  have hp : (permL s w).length = s.toNat := permN_length s w _
  have := inc_unit (l := backL (permL s w)) (by rw [hl, ← hp]; exact hr)
  rw [hl] at this
  exact this




end Go.Sx

