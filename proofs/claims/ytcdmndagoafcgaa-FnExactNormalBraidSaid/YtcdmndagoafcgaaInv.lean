/- Inv -/
import Derived.Test.YtcdmndagoafcgaaBraidSum
open Go Go.Proofs
namespace Go.Sx
set_option linter.unusedSimpArgs false
set_option linter.unusedVariables false

def negL (l : List Int) : List Int := l.map fun x => -x

theorem negL_length (l : List Int) : (negL l).length = l.length := by simp [negL]
theorem negL_getD (l : List Int) (i : Nat) (h : i < l.length) : (negL l).getD i 0 = -l.getD i 0 := by
  simp [negL, List.getD_eq_getElem?_getD, h]

theorem rev_getD (l : List Int) (i : Nat) (h : i < l.length) : l.reverse.getD i 0 = l.getD (l.length - 1 - i) 0 := by
  simp [List.getD_eq_getElem?_getD, List.getElem?_reverse h]

/-- The first i and the last i numbers exchanged. -/
def revT (l : List Int) (i : Nat) : List Int := tab l.length fun t => if t < i ∨ l.length - i ≤ t then l.getD (l.length - 1 - t) 0 else l.getD t 0

theorem revT_zero (l : List Int) : revT l 0 = l := by
  conv => rhs; rw [eq_tab l]
  apply tab_ext
  intro t ht
  rw [if_neg (by omega)]

theorem revT_end (l : List Int) (i : Nat) (h : l.length ≤ 2 * i + 1) : revT l i = l.reverse := by
  apply list_ext (by simp [revT, tab_length])
  intro t ht
  simp only [revT, tab_length] at ht
  rw [revT, tab_getD _ _ _ ht, rev_getD l t ht]
  split
  · rfl
  · rw [show l.length - 1 - t = t by omega]

theorem revT_step (l : List Int) (i : Nat) (h : 2 * i + 1 < l.length) :
    ((revT l i).set i ((revT l i).getD (l.length - 1 - i) 0)).set (l.length - 1 - i) ((revT l i).getD i 0) = revT l (i + 1) := by
  have e1 : (revT l i).getD (l.length - 1 - i) 0 = l.getD (l.length - 1 - i) 0 := by
    rw [revT, tab_getD _ _ _ (by omega), if_neg (by omega)]
  have e2 : (revT l i).getD i 0 = l.getD i 0 := by
    rw [revT, tab_getD _ _ _ (by omega), if_neg (by omega)]
  rw [e1, e2, revT, tab_set, tab_set]
  apply tab_ext
  intro t ht
  by_cases h1 : t = l.length - 1 - i
  · rw [if_pos h1, if_pos (by omega), show l.length - 1 - t = i by omega]
  · rw [if_neg h1]
    by_cases h2 : t = i
    · rw [if_pos h2, if_pos (by omega), h2]
    · rw [if_neg h2]
      by_cases h3 : t < i ∨ l.length - i ≤ t
      · rw [if_pos h3, if_pos (by omega)]
      · rw [if_neg h3, if_neg (by omega)]


def Reverse_p (l : List Int) : Post := ⟨room l.length, .tup [], [.ints 2 .i64 (l.reverse)]⟩
def Reverse_ct : List AD → Option Post
  | [.c (.ints .i64 (l))] => some (Reverse_p l)
  | _ => none
def Reverse_ann (l : List Int) : Nat → Option Ann
  | 0 => some (Ann.mk ((Nat)) (fun i => ⟨[(0, .c (.own (700))), (2, .c (.int .i64 ((i : Int)))), (3, .c (.int .i64 ((l.length : Int) - 1 - (i : Int))))], [(700, some (.ints 2 .i64 (revT l i)))]⟩) (fun i => 2 * i ≤ l.length + 1) (fun i => l.length - i) (fun _ => noAnn))
  | _ => none
def Reverse_G : List (Nat × Ctr) := []
def Reverse_V (l : List Int) : Prop :=
  ((InR ((↑(List.length l) : Int) - (1 : Int))) ∧
 ((∃ x0 : Nat, (((2 : Nat) * x0 ≤ List.length l + (1 : Nat)) ∧
 (((0 : Int) = (↑x0 : Int)) ∧
 (((↑(List.length l) : Int) - (1 : Int) = (↑(List.length l) : Int) - (1 : Int) - (↑x0 : Int)) ∧
 (l = revT l x0))))) ∧
 (∀ x1 : Nat, (((2 : Nat) * x1 ≤ List.length l + (1 : Nat)) →
 (BrP (Decidable.decide ((↑x1 : Int) < (↑(List.length l) : Int) - (1 : Int) - (↑x1 : Int)))
 ((inB ((↑(List.length l) : Int) - (1 : Int) - (↑x1 : Int)) (List.length (revT l x1))) ∧
 ((inB (↑x1 : Int) (List.length (revT l x1))) ∧
 ((inB (↑x1 : Int) (List.length (revT l x1))) ∧
 ((inB ((↑(List.length l) : Int) - (1 : Int) - (↑x1 : Int)) (List.length (List.set (revT l x1) (Int.toNat (↑x1 : Int)) (List.getD (revT l x1) (Int.toNat ((↑(List.length l) : Int) - (1 : Int) - (↑x1 : Int))) (0 : Int))))) ∧
 ((InR ((↑x1 : Int) + (1 : Int))) ∧
 ((InR ((↑(List.length l) : Int) - (1 : Int) - (↑x1 : Int) - (1 : Int))) ∧
 (∃ x2 : Nat, (((2 : Nat) * x2 ≤ List.length l + (1 : Nat)) ∧
 ((List.length l - x2 < List.length l - x1) ∧
 (((↑x1 : Int) + (1 : Int) = (↑x2 : Int)) ∧
 (((↑(List.length l) : Int) - (1 : Int) - (↑x1 : Int) - (1 : Int) = (↑(List.length l) : Int) - (1 : Int) - (↑x2 : Int)) ∧
 (List.set (List.set (revT l x1) (Int.toNat (↑x1 : Int)) (List.getD (revT l x1) (Int.toNat ((↑(List.length l) : Int) - (1 : Int) - (↑x1 : Int))) (0 : Int))) (Int.toNat ((↑(List.length l) : Int) - (1 : Int) - (↑x1 : Int))) (List.getD (revT l x1) (Int.toNat (↑x1 : Int)) (0 : Int)) = revT l x2))))))))))))
 ((True) ∧
 ((revT l x1 = List.reverse l) ∧
 (True))))))))
theorem Reverse_vc (l : List Int) : runF Try.prog (gam Reverse_G) noWr (Reverse_ann l) Try.f120 (bodyOf Try.f120) [(0, 0)] [.c (.ints .i64 (l))] (Reverse_p l) = Reverse_V l := by kernel_rfl
theorem Reverse_ok (l : List Int) (hpre : (Reverse_p l).pre) : Reverse_V l := by
  simp only [Reverse_p, Reverse_V, BrP_iff, true_and, and_true, decide_eq_true_eq, decide_eq_false_iff_not, bne_iff_ne, beq_iff_eq, bne_eq_false_iff_eq, beq_eq_false_iff_ne, Bool.not_eq_true, Bool.not_eq_false, Bool.not_true, Bool.not_false, Bool.not_eq_eq_eq_not, Int.toNat_natCast, List.length_append, List.length_take, List.length_replicate, List.length_set, List.length_map, List.length_drop, List.length_nil, List.length_cons, markL_length, inB, InR, room, bdsOk] at hpre ⊢
  refine ⟨by omega, ⟨0, by omega, rfl, by omega, (revT_zero l).symm⟩, fun i hi => ⟨fun h => ?_, fun h => revT_end l i (by omega)⟩⟩
  have hl : (revT l i).length = l.length := by rw [revT, tab_length]
  rw [hl, show ((l.length : Int) - 1 - (i : Int)).toNat = l.length - 1 - i by omega]
  exact ⟨by omega, by omega, by omega, by omega, by omega, by omega, i + 1, by omega, by omega, by omega, by omega, revT_step l i (by omega)⟩
theorem Reverse_fits : Fits Try.prog 120 ⟨[(0, 0)], Reverse_ct⟩ := by
  refine fits_fn (Γ := gam Reverse_G) gok_nil Try.func120 (by kernel_rfl) (by kernel_rfl) (by kernel_rfl) fun ds p h hp => ?_
  unfold Reverse_ct at h
  split at h
  · cases h
    exact ⟨noWr, Reverse_ann _ , by rw [Reverse_vc]; exact Reverse_ok _  hp⟩
  · cases h


def invC (s : Int) (w : List Int) : (Int × List Int) × Int := if braidB s w = true then ((s, (negL w).reverse), 0) else ((0, []), 1)

theorem invC_len (s : Int) (w : List Int) : (invC s w).1.2.length ≤ 30 := by
  unfold invC
  split
  · rename_i h
    have := braidB_len h
    simp only [List.length_reverse, negL_length]
    omega
  · simp

theorem braidB_mem {s : Int} {w : List Int} (h : braidB s w = true) : ∀ x ∈ w, -1000000 ≤ x ∧ x ≤ 1000000 := fun x hx => by
  obtain ⟨i, hi⟩ := List.getElem?_of_mem hx
  have hlt := (List.getElem?_eq_some_iff.1 hi).1
  have h1 := braidB_get h i hlt
  have h2 := braidB_s h
  rw [List.getD_eq_getElem?_getD, hi] at h1
  simp only [Option.getD_some] at h1
  omega




/-- One letter laid upon a reduced word. -/
def redS (st : List Int) (x : Int) : List Int := if st.length ≠ 0 ∧ st.getD (st.length - 1) 0 = -x then st.take (st.length - 1) else st ++ [x]

def redN (w : List Int) : Nat → List Int
  | 0 => []
  | i + 1 => redS (redN w i) (w.getD i 0)

theorem redN_len (w : List Int) : ∀ i, (redN w i).length ≤ i
  | 0 => by simp [redN]
  | i + 1 => by
    have := redN_len w i
    simp only [redN, redS]
    split
    · simp only [List.length_take]; omega
    · simp only [List.length_append, List.length_cons, List.length_nil]; omega

def redC (s : Int) (w : List Int) : (Int × List Int) × Int := if braidB s w = true then ((s, redN w w.length), 0) else ((0, []), 1)

theorem redC_len (s : Int) (w : List Int) : (redC s w).1.2.length ≤ 30 := by
  unfold redC
  split
  · rename_i h
    have := braidB_len h
    have := redN_len w w.length
    simp only []
    omega
  · simp

theorem redS_pop {st l : List Int} {x : Int} (h0 : st.length ≤ l.length) (h : l.take st.length = st) (h1 : 0 < st.length) (h2 : l.getD (st.length - 1) 0 = -x) :
    (redS st x).length = st.length - 1 ∧ l.take (redS st x).length = redS st x := by
  have e : st.getD (st.length - 1) 0 = l.getD (st.length - 1) 0 := by
    have := take_getD l 0 st.length (st.length - 1) (by omega)
    rw [h] at this
    exact this
  have : redS st x = st.take (st.length - 1) := by
    unfold redS
    rw [if_pos ⟨by omega, by rw [e, h2]⟩]
  rw [this]
  have hl : (st.take (st.length - 1)).length = st.length - 1 := by simp
  rw [hl]
  refine ⟨rfl, ?_⟩
  conv => rhs; rw [← h]
  rw [List.take_take, h, Nat.min_eq_left (by omega)]

theorem redS_push {st l : List Int} {x : Int} (h0 : st.length ≤ l.length) (h : l.take st.length = st) (h2 : st.length = 0 ∨ l.getD (st.length - 1) 0 ≠ -x) :
    redS st x = l.take st.length ++ [x] := by
  rw [h]
  unfold redS
  rw [if_neg]
  rintro ⟨h3, h4⟩
  rcases h2 with h2 | h2
  · exact h3 h2
  · apply h2
    rw [← h4]
    have := take_getD l 0 st.length (st.length - 1) (by omega)
    rw [h] at this
    exact this.symm

def l01Own_p (l : List Int) : Post := ⟨room l.length, .c (.ints 2 .i64 (l)), []⟩
def l01Own_ct : List AD → Option Post
  | [.c (.ints .i64 (l))] => some (l01Own_p l)
  | _ => none
def l01Own_G : List (Nat × Ctr) := []
def l01Own_V (l : List Int) : Prop :=
  ((room (List.length ([] : List Int) + List.length l)) ∧
 (([] ++ l = l) ∧
 (True)))
theorem l01Own_vc (l : List Int) : runF Try.prog (gam l01Own_G) noWr noAnn Try.f83 (bodyOf Try.f83) [] [.c (.ints .i64 (l))] (l01Own_p l) = l01Own_V l := by kernel_rfl
theorem l01Own_ok (l : List Int) (hpre : (l01Own_p l).pre) : l01Own_V l := by
  simp only [l01Own_p, l01Own_V, BrP_iff, true_and, and_true, decide_eq_true_eq, decide_eq_false_iff_not, bne_iff_ne, beq_iff_eq, bne_eq_false_iff_eq, beq_eq_false_iff_ne, Bool.not_eq_true, Bool.not_eq_false, Bool.not_true, Bool.not_false, Bool.not_eq_eq_eq_not, Int.toNat_natCast, List.length_append, List.length_take, List.length_replicate, List.length_set, List.length_map, List.length_drop, List.length_nil, List.length_cons, markL_length, inB, InR, room, bdsOk] at hpre ⊢
  simp [hpre]
theorem l01Own_fits : Fits Try.prog 83 ⟨[], l01Own_ct⟩ := by
  refine fits_fn (Γ := gam l01Own_G) gok_nil Try.func83 (by kernel_rfl) (by kernel_rfl) (by kernel_rfl) fun ds p h hp => ?_
  unfold l01Own_ct at h
  split at h
  · cases h
    exact ⟨noWr, noAnn, by rw [l01Own_vc]; exact l01Own_ok _  hp⟩
  · cases h




end Go.Sx
