/- Sets as bits. -/
import Derived.Test.YtaipacgkkjkjdaaBase
open Go Go.Proofs
namespace Go.Sx
set_option linter.unusedSimpArgs false
set_option linter.unusedVariables false

/-- Is x in the set s? -/
def bitB (s : Int) (x : Nat) : Bool := s.toNat.testBit x

theorem shr_nat {s : Int} (h : 0 ≤ s) (k : Nat) : s / 2 ^ k = ((s.toNat / 2 ^ k : Nat) : Int) := by
  obtain ⟨m, rfl⟩ : ∃ m : Nat, s = (m : Int) := ⟨s.toNat, by omega⟩
  rw [Int.toNat_natCast, Int.natCast_ediv, Int.natCast_pow]; rfl

theorem bit_one {s : Int} (h : 0 ≤ s) (k : Nat) : ((((s / 2 ^ k).toNat &&& 1 : Nat) : Int) = 1) ↔ bitB s k = true := by
  rw [shr_nat h, Int.toNat_natCast, Nat.and_one_is_mod, bitB, Nat.testBit_eq_decide_div_mod_eq, decide_eq_true_iff]
  omega

theorem bit_zero {s : Int} (h : 0 ≤ s) (k : Nat) : ((((s / 2 ^ k).toNat &&& 1 : Nat) : Int) = 0) ↔ bitB s k = false := by
  rw [shr_nat h, Int.toNat_natCast, Nat.and_one_is_mod, bitB, Nat.testBit_eq_decide_div_mod_eq, decide_eq_false_iff_not]
  omega

theorem bit_oneT {s : Int} (h : 0 ≤ s) (k : Nat) : ((((s / 2 ^ k).toNat &&& Int.toNat 1 : Nat) : Int) = 1) ↔ bitB s k = true := bit_one h k
theorem bit_zeroT {s : Int} (h : 0 ≤ s) (k : Nat) : ((((s / 2 ^ k).toNat &&& Int.toNat 1 : Nat) : Int) = 0) ↔ bitB s k = false := bit_zero h k
theorem bit_nT {s : Int} (h : 0 ≤ s) (k : Nat) : ((((s / 2 ^ k).toNat &&& Int.toNat 1 : Nat) : Int) ≠ 1) ↔ bitB s k = false := by
  rw [ne_eq, bit_oneT h, Bool.not_eq_true]
theorem bit_nzT {s : Int} (h : 0 ≤ s) (k : Nat) : ((((s / 2 ^ k).toNat &&& Int.toNat 1 : Nat) : Int) ≠ 0) ↔ bitB s k = true := by
  rw [ne_eq, bit_zeroT h, Bool.not_eq_false]

theorem wu64 {a : Int} (h : 0 ≤ a ∧ a ≤ 9223372036854775807) : IntKind.u64.wrap a = a := by
  show a % 18446744073709551616 = a
  exact Int.emod_eq_of_lt h.1 (by omega)

theorem shr_le {s : Int} (h : 0 ≤ s) (k : Nat) (hs : s ≤ 9223372036854775807) : 0 ≤ s / 2 ^ k ∧ s / 2 ^ k ≤ 9223372036854775807 := by
  rw [shr_nat h]
  have h1 := Int.natCast_nonneg (s.toNat / 2 ^ k)
  have h2 : ((s.toNat / 2 ^ k : Nat) : Int) ≤ (s.toNat : Int) := Int.ofNat_le.2 (Nat.div_le_self s.toNat (2 ^ k))
  exact ⟨h1, by omega⟩

theorem shr_pos {s : Int} (h : 0 ≤ s) (k : Nat) : 0 < s / 2 ^ k ↔ 2 ^ k ≤ s.toNat := by
  rw [shr_nat h]
  have : 0 < s.toNat / 2 ^ k ↔ 2 ^ k ≤ s.toNat := Nat.div_pos_iff.trans ⟨fun h => h.2, fun h => ⟨Nat.two_pow_pos k, h⟩⟩
  omega

/-- The elements of a set below k. -/
def elN (s : Int) (k : Nat) : List Int := ((List.range k).filter (bitB s)).map fun i : Nat => (i : Int)

theorem elN_step (s : Int) (k : Nat) : elN s (k + 1) = if bitB s k = true then elN s k ++ [(k : Int)] else elN s k := by
  simp only [elN, List.range_succ, List.filter_append, List.filter_cons, List.filter_nil]
  split <;> simp

theorem bitB_big {s : Int} {k : Nat} (h : s.toNat < 2 ^ k) {m : Nat} (hm : k ≤ m) : bitB s m = false :=
  Nat.testBit_lt_two_pow (Nat.lt_of_lt_of_le h (Nat.pow_le_pow_right (by omega) hm))

theorem elN_stop {s : Int} {k : Nat} (h : s.toNat < 2 ^ k) : ∀ j, elN s (k + j) = elN s k
  | 0 => rfl
  | j + 1 => by rw [← Nat.add_assoc, elN_step, bitB_big h (by omega), if_neg (by decide), elN_stop h j]

theorem elN_all (s : Int) (k : Nat) (f : Int → Bool) : (elN s k).all f = (List.range k).all fun x => !bitB s x || f (x : Int) := by
  simp [elN, List.all_map, List.all_filter, Function.comp_def]

theorem elN_len (s : Int) (k : Nat) : (elN s k).length ≤ k := by
  have := List.length_filter_le (bitB s) (List.range k)
  simpa [elN] using this

theorem elN_in (s : Int) (k : Nat) : ∀ x ∈ elN s k, 0 ≤ x ∧ x < (k : Int) := fun x hx => by
  simp only [elN, List.mem_map, List.mem_filter, List.mem_range] at hx
  obtain ⟨a, ⟨ha, _⟩, rfl⟩ := hx
  omega

/-- The set of the places below i at which p holds. -/
def mskN (p : Nat → Bool) : Nat → Nat
  | 0 => 0
  | i + 1 => if p i = true then mskN p i ||| 2 ^ i else mskN p i

theorem mskN_lt (p : Nat → Bool) : ∀ i, mskN p i < 2 ^ i
  | 0 => by simp [mskN]
  | i + 1 => by
    have h := mskN_lt p i
    have h2 : mskN p i < 2 ^ (i + 1) := by rw [Nat.pow_succ]; omega
    simp only [mskN]
    split
    · exact Nat.or_lt_two_pow h2 (by rw [Nat.pow_succ]; have := Nat.two_pow_pos i; omega)
    · exact h2

theorem rg_step (f : Nat → Bool) {i N : Nat} (h : i < N) : (List.range' i (N - i)).all f = (f i && (List.range' (i + 1) (N - (i + 1))).all f) := by
  rw [show N - i = (N - (i + 1)) + 1 by omega, List.range'_succ]; rfl

theorem rg_end (f : Nat → Bool) {i N : Nat} (h : N ≤ i) : (List.range' i (N - i)).all f = true := by
  rw [show N - i = 0 by omega]; rfl

theorem rg_start (f : Nat → Bool) (N : Nat) : (List.range N).all f = (List.range' 0 (N - 0)).all f := by
  rw [List.range_eq_range', Nat.sub_zero]

def hasBit_p (s : Int) (x : Int) : Post := ⟨0 ≤ s ∧ s ≤ 9223372036854775807 ∧ 0 ≤ x ∧ x ≤ 62, .c (.bool (bitB s x.toNat)), []⟩
def hasBit_ct : List AD → Option Post
  | [.c (.int .i64 (s)), .c (.int .i64 (x))] => some (hasBit_p s x)
  | _ => none
def hasBit_G : List (Nat × Ctr) := []
def hasBit_V (s : Int) (x : Int) : Prop :=
  ((((0 : Int) ≤ x) ∧
  (x ≤ (62 : Int))) ∧
  (((Go.IntKind.i64 = Go.IntKind.i64) ∧
  ((((0 : Int) ≤ s / (2 : Int) ^ Int.toNat x) ∧
  (s / (2 : Int) ^ Int.toNat x ≤ (9223372036854775807 : Int))) ∧
  (((0 : Int) ≤ (1 : Int)) ∧
  ((1 : Int) ≤ (9223372036854775807 : Int))))) ∧
  ((((↑(Int.toNat (s / (2 : Int) ^ Int.toNat x) &&& Int.toNat (1 : Int)) : Int) == (1 : Int)) = Go.Sx.bitB s (Int.toNat x)) ∧
  (True))))
theorem hasBit_vc (s : Int) (x : Int) : runF Try.prog (gam hasBit_G) noWr noAnn Try.f127 (bodyOf Try.f127) [] [.c (.int .i64 (s)), .c (.int .i64 (x))] (hasBit_p s x) = hasBit_V s x := by kernel_rfl
theorem hasBit_ok (s : Int) (x : Int) (hpre : (hasBit_p s x).pre) : hasBit_V s x := by
  simp only [hasBit_p, hasBit_V, BrP_iff, true_and, and_true, decide_eq_true_eq, decide_eq_false_iff_not, bne_iff_ne, beq_iff_eq, bne_eq_false_iff_eq, beq_eq_false_iff_ne, Bool.not_eq_true, Bool.not_eq_false, Bool.not_true, Bool.not_false, Bool.not_eq_eq_eq_not, Int.toNat_natCast, List.length_append, List.length_take, List.length_replicate, List.length_set, List.length_map, List.length_drop, List.length_nil, List.length_cons, markL_length, inB, InR, room, bdsOk] at hpre ⊢
  obtain ⟨h0, h1, h2, h3⟩ := hpre
  refine ⟨by omega, ⟨shr_le h0 _ h1, by omega, by omega⟩, ?_⟩
  rw [Bool.eq_iff_iff, beq_iff_eq]
  exact bit_one h0 _
theorem hasBit_fits : Fits Try.prog 127 ⟨[], hasBit_ct⟩ := by
  refine fits_fn (Γ := gam hasBit_G) gok_nil Try.func127 (by kernel_rfl) (by kernel_rfl) (by kernel_rfl) fun ds p h hp => ?_
  unfold hasBit_ct at h
  split at h
  · cases h
    exact ⟨noWr, noAnn, by rw [hasBit_vc]; exact hasBit_ok _ _  hp⟩
  · cases h

def elementsOf_p (s : Int) : Post := ⟨0 ≤ s ∧ s < 4096, .c (.ints 2 .i64 (elN s 12)), []⟩
def elementsOf_ct : List AD → Option Post
  | [.c (.int .i64 (s))] => some (elementsOf_p s)
  | _ => none
def elementsOf_ann (s : Int) : Nat → Option Ann
  | 0 => some (Ann.mk ((Nat)) (fun i => ⟨[(0, .c (.int .i64 (s))), (3, .c (.own (3))), (4, .c (.int .i64 ((i : Int))))], [(3, some (.ints 2 .i64 (elN s i)))]⟩) (fun i => i ≤ 12) (fun i => 12 - i) (fun _ => noAnn))
  | _ => none
def elementsOf_G : List (Nat × Ctr) := [(127, ⟨[], hasBit_ct⟩)]
def elementsOf_V (s : Int) : Prop :=
  ((∃ x0 : Nat, ((x0 ≤ (12 : Nat)) ∧
  ((s = s) ∧
  (((0 : Int) = (↑x0 : Int)) ∧
  (Go.Sx.elN s x0 = []))))) ∧
  (∀ x1 : Nat, ((x1 ≤ (12 : Nat)) →
  ((((0 : Int) ≤ (↑x1 : Int)) ∧
  ((↑x1 : Int) ≤ (62 : Int))) ∧
  (BrP (Decidable.decide ((0 : Int) < s / (2 : Int) ^ Int.toNat (↑x1 : Int)))
    (((((0 : Int) ≤ s) ∧
    ((s ≤ (9223372036854775807 : Int)) ∧
    (((0 : Int) ≤ (↑x1 : Int)) ∧
    ((↑x1 : Int) ≤ (62 : Int))))) ∧
    (True)) ∧
    (BrP (Go.Sx.bitB s (Int.toNat (↑x1 : Int)))
      ((Go.Sx.room (List.length (Go.Sx.elN s x1) + List.length [(↑x1 : Int)])) ∧
      ((Go.Sx.InR ((↑x1 : Int) + (1 : Int))) ∧
      (∃ x2 : Nat, ((x2 ≤ (12 : Nat)) ∧
      (((12 : Nat) - x2 < (12 : Nat) - x1) ∧
      ((s = s) ∧
      (((↑x1 : Int) + (1 : Int) = (↑x2 : Int)) ∧
      (Go.Sx.elN s x1 ++ [(↑x1 : Int)] = Go.Sx.elN s x2))))))))
      ((Go.Sx.InR ((↑x1 : Int) + (1 : Int))) ∧
      (∃ x3 : Nat, ((x3 ≤ (12 : Nat)) ∧
      (((12 : Nat) - x3 < (12 : Nat) - x1) ∧
      ((s = s) ∧
      (((↑x1 : Int) + (1 : Int) = (↑x3 : Int)) ∧
      (Go.Sx.elN s x1 = Go.Sx.elN s x3)))))))))
    ((Go.Sx.elN s x1 = Go.Sx.elN s (12 : Nat)) ∧
    (True)))))))
theorem elementsOf_vc (s : Int) : runF Try.prog (gam elementsOf_G) noWr (elementsOf_ann s) Try.f118 (bodyOf Try.f118) [] [.c (.int .i64 (s))] (elementsOf_p s) = elementsOf_V s := by kernel_rfl
theorem elementsOf_ok (s : Int) (hpre : (elementsOf_p s).pre) : elementsOf_V s := by
  simp only [elementsOf_p, elementsOf_V, BrP_iff, true_and, and_true, decide_eq_true_eq, decide_eq_false_iff_not, bne_iff_ne, beq_iff_eq, bne_eq_false_iff_eq, beq_eq_false_iff_ne, Bool.not_eq_true, Bool.not_eq_false, Bool.not_true, Bool.not_false, Bool.not_eq_eq_eq_not, Int.toNat_natCast, List.length_append, List.length_take, List.length_replicate, List.length_set, List.length_map, List.length_drop, List.length_nil, List.length_cons, markL_length, inB, InR, room, bdsOk] at hpre ⊢
  obtain ⟨h0, h1⟩ := hpre
  refine ⟨⟨0, by omega, rfl, rfl⟩, fun i hi => ⟨by omega, fun h => ?_, fun h => ?_⟩⟩
  · have hp := (shr_pos h0 i).1 h
    have hi2 : i < 12 := by
      rcases Nat.lt_or_ge i 12 with h | h
      · exact h
      · have e : i = 12 := by omega
        subst e
        omega
    have hl := elN_len s i
    refine ⟨by omega, fun hb => ⟨by omega, by omega, i + 1, by omega, by omega, by omega, by rw [elN_step, if_pos hb]⟩, fun hb => ⟨by omega, i + 1, by omega, by omega, by omega, by rw [elN_step, if_neg (by rw [hb]; decide)]⟩⟩
  · have hp : s.toNat < 2 ^ i := by
      rcases Nat.lt_or_ge s.toNat (2 ^ i) with h2 | h2
      · exact h2
      · exact absurd ((shr_pos h0 i).2 h2) h
    have := elN_stop hp (12 - i)
    rwa [show i + (12 - i) = 12 by omega, eq_comm] at this
theorem elementsOf_fits : Fits Try.prog 118 ⟨[], elementsOf_ct⟩ := by
  refine fits_fn (Γ := gam elementsOf_G) (gok_cons hasBit_fits gok_nil) Try.func118 (by kernel_rfl) (by kernel_rfl) (by kernel_rfl) fun ds p h hp => ?_
  unfold elementsOf_ct at h
  split at h
  · cases h
    exact ⟨noWr, elementsOf_ann _ , by rw [elementsOf_vc]; exact elementsOf_ok _  hp⟩
  · cases h

end Go.Sx

