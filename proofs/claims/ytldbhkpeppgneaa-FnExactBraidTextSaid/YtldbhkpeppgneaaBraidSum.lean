/- Contracts on the way of BraidSum. -/
import Derived.Test.YtldbhkpeppgneaaBraidB
open Go Go.Proofs
namespace Go.Sx
set_option linter.unusedSimpArgs false
set_option linter.unusedVariables false

def sgn (x : Int) : Int := if x < 0 then -1 else 1

def sgnN (w : List Int) : Nat → Int
  | 0 => 0
  | i + 1 => sgnN w i + sgn (w.getD i 0)

theorem sgn_le (x : Int) : -1 ≤ sgn x ∧ sgn x ≤ 1 := by unfold sgn; split <;> omega

theorem sgnN_le (w : List Int) : ∀ i : Nat, -(i : Int) ≤ sgnN w i ∧ sgnN w i ≤ (i : Int)
  | 0 => by simp [sgnN]
  | i + 1 => by
    have h1 := sgnN_le w i
    have h2 := sgn_le (w.getD i 0)
    simp only [sgnN]
    omega

theorem braidB_len {s : Int} {w : List Int} (h : braidB s w = true) : w.length ≤ 30 := by
  simp only [braidB, Bool.and_eq_true, decide_eq_true_eq] at h
  exact h.1.2

theorem braidB_s {s : Int} {w : List Int} (h : braidB s w = true) : 2 ≤ s ∧ s ≤ 6 := by
  simp only [braidB, Bool.and_eq_true, decide_eq_true_eq] at h
  exact h.1.1

theorem braidB_get {s : Int} {w : List Int} (h : braidB s w = true) (i : Nat) (hi : i < w.length) : w.getD i 0 ≠ 0 ∧ 1 - s ≤ w.getD i 0 ∧ w.getD i 0 ≤ s - 1 := by
  simp only [braidB, Bool.and_eq_true, decide_eq_true_eq] at h
  have := List.all_eq_true.1 h.2 _ (getD_mem w 0 i hi)
  exact of_decide_eq_true this

def sumC (s : Int) (w : List Int) : Int × Int := if braidB s w = true then (sgnN w w.length, 0) else (0, 1)

def signOf_p (x : Int) : Post := ⟨True, .c (.int .i64 (sgn x)), []⟩
def signOf_ct : List AD → Option Post
  | [.c (.int .i64 (x))] => some (signOf_p x)
  | _ => none
def signOf_G : List (Nat × Ctr) := []
def signOf_V (x : Int) : Prop :=
  (BrP (Decidable.decide (x < (0 : Int)))
    (((-1 : Int) = Go.Sx.sgn x) ∧
    (True))
    (((1 : Int) = Go.Sx.sgn x) ∧
    (True)))
theorem signOf_vc (x : Int) : runF Try.prog (gam signOf_G) noWr noAnn Try.f82 (bodyOf Try.f82) [] [.c (.int .i64 (x))] (signOf_p x) = signOf_V x := by kernel_rfl
theorem signOf_ok (x : Int) (hpre : (signOf_p x).pre) : signOf_V x := by
  simp only [signOf_p, signOf_V, BrP_iff, true_and, and_true, decide_eq_true_eq, decide_eq_false_iff_not, bne_iff_ne, beq_iff_eq, bne_eq_false_iff_eq, beq_eq_false_iff_ne, Bool.not_eq_true, Bool.not_eq_false, Bool.not_true, Bool.not_false, Bool.not_eq_eq_eq_not, Int.toNat_natCast, List.length_append, List.length_take, List.length_replicate, List.length_set, List.length_map, List.length_drop, List.length_nil, List.length_cons, markL_length, inB, InR, room, bdsOk] at hpre ⊢
  refine ⟨fun h => by simp [sgn, h], fun h => by simp [sgn, h]⟩
theorem signOf_fits : Fits Try.prog 82 ⟨[], signOf_ct⟩ := by
  refine fits_fn (Γ := gam signOf_G) gok_nil Try.func82 (by kernel_rfl) (by kernel_rfl) (by kernel_rfl) fun ds p h hp => ?_
  unfold signOf_ct at h
  split at h
  · cases h
    exact ⟨noWr, noAnn, by rw [signOf_vc]; exact signOf_ok _  hp⟩
  · cases h

def sBraidSum_p (s : Int) (w : List Int) : Post := ⟨room w.length, .tup [.inl (.int .i64 ((sumC s w).1)), .inl (.int .i64 ((sumC s w).2))], []⟩
def sBraidSum_ct : List AD → Option Post
  | [.agg [.int .i64 (s), .ints .i64 (w)]] => some (sBraidSum_p s w)
  | _ => none
def sBraidSum_ann (s : Int) (w : List Int) : Nat → Option Ann
  | 0 => some (Ann.mk ((Nat)) (fun i => ⟨[(1, .c (.ptr 1 0)), (4, .c (.int .i64 (sgnN w i))), (5, .c (.int .i64 ((i : Int))))], [(1, some (.box [.int .i64 (s), .ro (.ints .i64 (w))]))]⟩) (fun i => i ≤ w.length ∧ braidB s w = true) (fun i => w.length - i) (fun _ => noAnn))
  | _ => none
def sBraidSum_G : List (Nat × Ctr) := [(67, ⟨[], l16Is_ct⟩)]
def sBraidSum_V (s : Int) (w : List Int) : Prop :=
  (((Go.Sx.room (List.length w)) ∧
  (True)) ∧
  (BrP (!Go.Sx.braidB s w)
    ((((0 : Int) = Prod.fst (Go.Sx.sumC s w)) ∧
    (((1 : Int) = Prod.snd (Go.Sx.sumC s w)) ∧
    (True))) ∧
    (True))
    ((∃ x0 : Nat, (((x0 ≤ List.length w) ∧
    (Go.Sx.braidB s w = Bool.true)) ∧
    (((0 : Int) = Go.Sx.sgnN w x0) ∧
    (((0 : Int) = (↑x0 : Int)) ∧
    ((s = s) ∧
    (w = w)))))) ∧
    (∀ x1 : Nat, (((x1 ≤ List.length w) ∧
    (Go.Sx.braidB s w = Bool.true)) →
    (BrP (Decidable.decide ((↑x1 : Int) < (↑(List.length w) : Int)))
      ((Go.Sx.inB (↑x1 : Int) (List.length w)) ∧
      (BrP (Decidable.decide ((0 : Int) < List.getD w (Int.toNat (↑x1 : Int)) (0 : Int)))
        ((Go.Sx.InR (Go.Sx.sgnN w x1 + (1 : Int))) ∧
        ((Go.Sx.InR ((↑x1 : Int) + (1 : Int))) ∧
        (∃ x2 : Nat, (((x2 ≤ List.length w) ∧
        (Go.Sx.braidB s w = Bool.true)) ∧
        ((List.length w - x2 < List.length w - x1) ∧
        ((Go.Sx.sgnN w x1 + (1 : Int) = Go.Sx.sgnN w x2) ∧
        (((↑x1 : Int) + (1 : Int) = (↑x2 : Int)) ∧
        ((s = s) ∧
        (w = w)))))))))
        ((Go.Sx.InR (Go.Sx.sgnN w x1 - (1 : Int))) ∧
        ((Go.Sx.InR ((↑x1 : Int) + (1 : Int))) ∧
        (∃ x3 : Nat, (((x3 ≤ List.length w) ∧
        (Go.Sx.braidB s w = Bool.true)) ∧
        ((List.length w - x3 < List.length w - x1) ∧
        ((Go.Sx.sgnN w x1 - (1 : Int) = Go.Sx.sgnN w x3) ∧
        (((↑x1 : Int) + (1 : Int) = (↑x3 : Int)) ∧
        ((s = s) ∧
        (w = w)))))))))))
      (((Go.Sx.sgnN w x1 = Prod.fst (Go.Sx.sumC s w)) ∧
      (((0 : Int) = Prod.snd (Go.Sx.sumC s w)) ∧
      (True))) ∧
      (True))))))))
theorem sBraidSum_vc (s : Int) (w : List Int) : runF Try.prog (gam sBraidSum_G) noWr (sBraidSum_ann s w) Try.f37 (bodyOf Try.f37) [] [.agg [.int .i64 (s), .ints .i64 (w)]] (sBraidSum_p s w) = sBraidSum_V s w := by kernel_rfl
theorem sBraidSum_ok (s : Int) (w : List Int) (hpre : (sBraidSum_p s w).pre) : sBraidSum_V s w := by
  simp only [sBraidSum_p, sBraidSum_V, BrP_iff, true_and, and_true, decide_eq_true_eq, decide_eq_false_iff_not, bne_iff_ne, beq_iff_eq, bne_eq_false_iff_eq, beq_eq_false_iff_ne, Bool.not_eq_true, Bool.not_eq_false, Bool.not_true, Bool.not_false, Bool.not_eq_eq_eq_not, Int.toNat_natCast, List.length_append, List.length_take, List.length_replicate, List.length_set, List.length_map, List.length_drop, List.length_nil, List.length_cons, markL_length, inB, InR, room, bdsOk] at hpre ⊢
  refine ⟨hpre, fun h => by simp [sumC, h], fun hb => ⟨⟨0, ⟨by omega, hb⟩, rfl, rfl⟩, fun i ⟨hi, _⟩ => ⟨fun h => ?_, fun h => ?_⟩⟩⟩
  · have h1 := sgnN_le w i
    have h2 := braidB_get hb i (by omega)
    have h3 := braidB_len hb
    refine ⟨by omega, fun h4 => ⟨by omega, by omega, i + 1, ⟨by omega, hb⟩, by omega, ?_, by omega⟩, fun h4 => ⟨by omega, by omega, i + 1, ⟨by omega, hb⟩, by omega, ?_, by omega⟩⟩
    · simp only [sgnN, sgn]; rw [if_neg (by omega)]
    · simp only [sgnN, sgn]; rw [if_pos (by omega)]; rfl
  · rw [show i = w.length by omega]; simp [sumC, hb]
theorem sBraidSum_fits : Fits Try.prog 37 ⟨[], sBraidSum_ct⟩ := by
  refine fits_fn (Γ := gam sBraidSum_G) (gok_cons l16Is_fits gok_nil) Try.func37 (by kernel_rfl) (by kernel_rfl) (by kernel_rfl) fun ds p h hp => ?_
  unfold sBraidSum_ct at h
  split at h
  · cases h
    exact ⟨noWr, sBraidSum_ann _ _ , by rw [sBraidSum_vc]; exact sBraidSum_ok _ _  hp⟩
  · cases h

def iBraidSum_p (s : Int) (w : List Int) : Post := ⟨room w.length, .tup [.inl (.int .i64 ((sumC s w).1)), .inl (.int .i64 ((sumC s w).2))], []⟩
def iBraidSum_ct : List AD → Option Post
  | [.agg [.int .i64 (s), .ints .i64 (w)]] => some (iBraidSum_p s w)
  | _ => none
def iBraidSum_ann (s : Int) (w : List Int) : Nat → Option Ann
  | 0 => some (Ann.mk ((Nat)) (fun i => ⟨[(4, .c (.int .i64 (sgnN w i))), (11, .c (.ro (.ints .i64 (w)))), (12, .c (.int .i64 ((w.length : Int)))), (13, .c (.int .i64 ((i : Int))))], []⟩) (fun i => i ≤ w.length ∧ braidB s w = true) (fun i => w.length - i) (fun _ => noAnn))
  | _ => none
def iBraidSum_G : List (Nat × Ctr) := [(25, ⟨[], iIsBraid_ct⟩), (82, ⟨[], signOf_ct⟩)]
def iBraidSum_V (s : Int) (w : List Int) : Prop :=
  (((Go.Sx.room (List.length w)) ∧
  (True)) ∧
  (BrP (!Go.Sx.braidB s w)
    ((((0 : Int) = Prod.fst (Go.Sx.sumC s w)) ∧
    (((1 : Int) = Prod.snd (Go.Sx.sumC s w)) ∧
    (True))) ∧
    (True))
    ((∃ x0 : Nat, (((x0 ≤ List.length w) ∧
    (Go.Sx.braidB s w = Bool.true)) ∧
    (((0 : Int) = Go.Sx.sgnN w x0) ∧
    ((w = w) ∧
    (((↑(List.length w) : Int) = (↑(List.length w) : Int)) ∧
    ((0 : Int) = (↑x0 : Int))))))) ∧
    (∀ x1 : Nat, (((x1 ≤ List.length w) ∧
    (Go.Sx.braidB s w = Bool.true)) →
    (BrP (Decidable.decide ((↑x1 : Int) < (↑(List.length w) : Int)))
      ((Go.Sx.inB (↑x1 : Int) (List.length w)) ∧
      (((True) ∧
      (True)) ∧
      ((Go.Sx.InR (Go.Sx.sgnN w x1 + Go.Sx.sgn (List.getD w (Int.toNat (↑x1 : Int)) (0 : Int)))) ∧
      ((Go.Sx.InR ((↑x1 : Int) + (1 : Int))) ∧
      (∃ x2 : Nat, (((x2 ≤ List.length w) ∧
      (Go.Sx.braidB s w = Bool.true)) ∧
      ((List.length w - x2 < List.length w - x1) ∧
      ((Go.Sx.sgnN w x1 + Go.Sx.sgn (List.getD w (Int.toNat (↑x1 : Int)) (0 : Int)) = Go.Sx.sgnN w x2) ∧
      ((w = w) ∧
      (((↑(List.length w) : Int) = (↑(List.length w) : Int)) ∧
      ((↑x1 : Int) + (1 : Int) = (↑x2 : Int))))))))))))
      (((Go.Sx.sgnN w x1 = Prod.fst (Go.Sx.sumC s w)) ∧
      (((0 : Int) = Prod.snd (Go.Sx.sumC s w)) ∧
      (True))) ∧
      (True))))))))
theorem iBraidSum_vc (s : Int) (w : List Int) : runF Try.prog (gam iBraidSum_G) noWr (iBraidSum_ann s w) Try.f38 (bodyOf Try.f38) [] [.agg [.int .i64 (s), .ints .i64 (w)]] (iBraidSum_p s w) = iBraidSum_V s w := by kernel_rfl
theorem iBraidSum_ok (s : Int) (w : List Int) (hpre : (iBraidSum_p s w).pre) : iBraidSum_V s w := by
  simp only [iBraidSum_p, iBraidSum_V, BrP_iff, true_and, and_true, decide_eq_true_eq, decide_eq_false_iff_not, bne_iff_ne, beq_iff_eq, bne_eq_false_iff_eq, beq_eq_false_iff_ne, Bool.not_eq_true, Bool.not_eq_false, Bool.not_true, Bool.not_false, Bool.not_eq_eq_eq_not, Int.toNat_natCast, List.length_append, List.length_take, List.length_replicate, List.length_set, List.length_map, List.length_drop, List.length_nil, List.length_cons, markL_length, inB, InR, room, bdsOk] at hpre ⊢
  refine ⟨hpre, fun h => by simp [sumC, h], fun hb => ⟨⟨0, ⟨by omega, hb⟩, rfl, rfl⟩, fun i ⟨hi, _⟩ => ⟨fun h => ?_, fun h => ?_⟩⟩⟩
  · have h1 := sgnN_le w i
    have h2 := sgn_le (w.getD i 0)
    have h3 := braidB_len hb
    exact ⟨by omega, by omega, by omega, i + 1, ⟨by omega, hb⟩, by omega, rfl, by omega⟩
  · rw [show i = w.length by omega]; simp [sumC, hb]
theorem iBraidSum_fits : Fits Try.prog 38 ⟨[], iBraidSum_ct⟩ := by
  refine fits_fn (Γ := gam iBraidSum_G) (gok_cons iIsBraid_fits (gok_cons signOf_fits gok_nil)) Try.func38 (by kernel_rfl) (by kernel_rfl) (by kernel_rfl) fun ds p h hp => ?_
  unfold iBraidSum_ct at h
  split at h
  · cases h
    exact ⟨noWr, iBraidSum_ann _ _ , by rw [iBraidSum_vc]; exact iBraidSum_ok _ _  hp⟩
  · cases h

def lBraidSum_p (s : Int) (w : List Int) : Post := ⟨(w.length : Int) ≤ 9223372036854775807, .c (.bool (true)), []⟩
def lBraidSum_ct : List AD → Option Post
  | [.agg [.int .i64 (s), .ints .i64 (w)]] => some (lBraidSum_p s w)
  | _ => none
def lBraidSum_G : List (Nat × Ctr) := [(22, ⟨[], szBraid_ct⟩), (24, ⟨[], toBraid_ct⟩), (26, ⟨[], eqBraid_ct⟩), (37, ⟨[], sBraidSum_ct⟩), (38, ⟨[], iBraidSum_ct⟩)]
def lBraidSum_V (s : Int) (w : List Int) : Prop :=
  (((((↑(List.length w) : Int) ≤ (9223372036854775807 : Int)) ∧
  (((0 : Int) ≤ (1048576 : Int)) ∧
  ((1048576 : Int) ≤ (1099511627776 : Int)))) ∧
  (True)) ∧
  (BrP (Decidable.decide ((if (1048576 : Int) < (↑(List.length w) : Int) then (-1 : Int) else (1048576 : Int) - (↑(List.length w) : Int)) < (0 : Int)))
    ((Bool.true = Bool.true) ∧
    (True))
    (((Go.Sx.room (List.length w)) ∧
    (True)) ∧
    (((Go.Sx.room (List.length w)) ∧
    (True)) ∧
    (((Go.Sx.room (List.length w)) ∧
    (True)) ∧
    (((Go.Sx.room (List.length w)) ∧
    (True)) ∧
    (BrP (Prod.fst (Go.Sx.sumC s w) != Prod.fst (Go.Sx.sumC s w))
      ((Bool.false = Bool.true) ∧
      (True))
      (BrP (Prod.snd (Go.Sx.sumC s w) != Prod.snd (Go.Sx.sumC s w))
        ((Bool.false = Bool.true) ∧
        (True))
        (((Go.Sx.room (List.length w)) ∧
        (True)) ∧
        (((Go.Sx.room (List.length w)) ∧
        (True)) ∧
        (BrP (!Decidable.decide (s = s ∧ w = w))
          ((Bool.false = Bool.true) ∧
          (True))
          ((Bool.true = Bool.true) ∧
          (True)))))))))))))
theorem lBraidSum_vc (s : Int) (w : List Int) : runF Try.prog (gam lBraidSum_G) noWr noAnn Try.f8 (bodyOf Try.f8) [] [.agg [.int .i64 (s), .ints .i64 (w)]] (lBraidSum_p s w) = lBraidSum_V s w := by kernel_rfl
theorem lBraidSum_ok (s : Int) (w : List Int) (hpre : (lBraidSum_p s w).pre) : lBraidSum_V s w := by
  simp only [lBraidSum_p, lBraidSum_V, BrP_iff, true_and, and_true, decide_eq_true_eq, decide_eq_false_iff_not, bne_iff_ne, beq_iff_eq, bne_eq_false_iff_eq, beq_eq_false_iff_ne, Bool.not_eq_true, Bool.not_eq_false, Bool.not_true, Bool.not_false, Bool.not_eq_eq_eq_not, Int.toNat_natCast, List.length_append, List.length_take, List.length_replicate, List.length_set, List.length_map, List.length_drop, List.length_nil, List.length_cons, markL_length, inB, InR, room, bdsOk] at hpre ⊢
  refine ⟨⟨hpre, by omega, by omega⟩, fun _ => trivial, fun h => ?_⟩
  have hw : w.length ≤ 1099511627776 := by split at h <;> omega
  simp [hw]
theorem lBraidSum_fits : Fits Try.prog 8 ⟨[], lBraidSum_ct⟩ := by
  refine fits_fn (Γ := gam lBraidSum_G) (gok_cons szBraid_fits (gok_cons toBraid_fits (gok_cons eqBraid_fits (gok_cons sBraidSum_fits (gok_cons iBraidSum_fits gok_nil))))) Try.func8 (by kernel_rfl) (by kernel_rfl) (by kernel_rfl) fun ds p h hp => ?_
  unfold lBraidSum_ct at h
  split at h
  · cases h
    exact ⟨noWr, noAnn, by rw [lBraidSum_vc]; exact lBraidSum_ok _ _  hp⟩
  · cases h

end Go.Sx

