/- Bit -/
import Derived.Test.YtcfbmimjffkgdaaBase
open Go Go.Proofs
namespace Go.Sx
set_option linter.unusedSimpArgs false
set_option linter.unusedVariables false

/-- Is x in the set s? -/
def bitB (s : Int) (x : Nat) : Bool := s.toNat.testBit x

theorem shr_nat {s : Int} (h : 0 ≤ s) (k : Nat) : s / 2 ^ k = ((s.toNat / 2 ^ k : Nat) : Int) := by
  obtain ⟨m, rfl⟩ : ∃ m : Nat, s = (m : Int) := ⟨s.toNat, by omega⟩
  rw [Int.toNat_natCast, Int.natCast_ediv, Int.natCast_pow]; rfl

theorem bit_one {s : Int} (h : 0 ≤ s) (k : Nat) : ((((s / 2 ^ k).toNat &&& 1 : Nat) : Int) = 1) ↔ bitB s k = true := by
  rw [shr_nat h, Int.toNat_natCast, Nat.and_one_is_mod, bitB, Nat.testBit_eq_decide_div_mod_eq, decide_eq_true_iff]
  omega

theorem bit_zero {s : Int} (h : 0 ≤ s) (k : Nat) : ((((s / 2 ^ k).toNat &&& 1 : Nat) : Int) = 0) ↔ bitB s k = false := by
  rw [shr_nat h, Int.toNat_natCast, Nat.and_one_is_mod, bitB, Nat.testBit_eq_decide_div_mod_eq, decide_eq_false_iff_not]
  omega

theorem bit_oneT {s : Int} (h : 0 ≤ s) (k : Nat) : ((((s / 2 ^ k).toNat &&& Int.toNat 1 : Nat) : Int) = 1) ↔ bitB s k = true := bit_one h k
theorem bit_zeroT {s : Int} (h : 0 ≤ s) (k : Nat) : ((((s / 2 ^ k).toNat &&& Int.toNat 1 : Nat) : Int) = 0) ↔ bitB s k = false := bit_zero h k
theorem bit_nT {s : Int} (h : 0 ≤ s) (k : Nat) : ((((s / 2 ^ k).toNat &&& Int.toNat 1 : Nat) : Int) ≠ 1) ↔ bitB s k = false := by
  rw [ne_eq, bit_oneT h, Bool.not_eq_true]
theorem bit_nzT {s : Int} (h : 0 ≤ s) (k : Nat) : ((((s / 2 ^ k).toNat &&& Int.toNat 1 : Nat) : Int) ≠ 0) ↔ bitB s k = true := by
  rw [ne_eq, bit_zeroT h, Bool.not_eq_false]

theorem wu64 {a : Int} (h : 0 ≤ a ∧ a ≤ 9223372036854775807) : IntKind.u64.wrap a = a := by
  show a % 18446744073709551616 = a
  exact Int.emod_eq_of_lt h.1 (by omega)

theorem shr_le {s : Int} (h : 0 ≤ s) (k : Nat) (hs : s ≤ 9223372036854775807) : 0 ≤ s / 2 ^ k ∧ s / 2 ^ k ≤ 9223372036854775807 := by
  rw [shr_nat h]
  have h1 := Int.natCast_nonneg (s.toNat / 2 ^ k)
  have h2 : ((s.toNat / 2 ^ k : Nat) : Int) ≤ (s.toNat : Int) := Int.ofNat_le.2 (Nat.div_le_self s.toNat (2 ^ k))
  exact ⟨h1, by omega⟩

theorem shr_pos {s : Int} (h : 0 ≤ s) (k : Nat) : 0 < s / 2 ^ k ↔ 2 ^ k ≤ s.toNat := by
  rw [shr_nat h]
  have : 0 < s.toNat / 2 ^ k ↔ 2 ^ k ≤ s.toNat := Nat.div_pos_iff.trans ⟨fun h => h.2, fun h => ⟨Nat.two_pow_pos k, h⟩⟩
  omega

/-- The elements of a set below k. -/
def elN (s : Int) (k : Nat) : List Int := ((List.range k).filter (bitB s)).map fun i : Nat => (i : Int)

theorem elN_step (s : Int) (k : Nat) : elN s (k + 1) = if bitB s k = true then elN s k ++ [(k : Int)] else elN s k := by
  simp only [elN, List.range_succ, List.filter_append, List.filter_cons, List.filter_nil]
  split <;> simp

theorem bitB_big {s : Int} {k : Nat} (h : s.toNat < 2 ^ k) {m : Nat} (hm : k ≤ m) : bitB s m = false :=
  Nat.testBit_lt_two_pow (Nat.lt_of_lt_of_le h (Nat.pow_le_pow_right (by omega) hm))

theorem elN_stop {s : Int} {k : Nat} (h : s.toNat < 2 ^ k) : ∀ j, elN s (k + j) = elN s k
  | 0 => rfl
  | j + 1 => by rw [← Nat.add_assoc, elN_step, bitB_big h (by omega), if_neg (by decide), elN_stop h j]

theorem elN_all (s : Int) (k : Nat) (f : Int → Bool) : (elN s k).all f = (List.range k).all fun x => !bitB s x || f (x : Int) := by
  simp [elN, List.all_map, List.all_filter, Function.comp_def]

theorem elN_len (s : Int) (k : Nat) : (elN s k).length ≤ k := by
  have := List.length_filter_le (bitB s) (List.range k)
  simpa [elN] using this

theorem elN_in (s : Int) (k : Nat) : ∀ x ∈ elN s k, 0 ≤ x ∧ x < (k : Int) := fun x hx => by
  simp only [elN, List.mem_map, List.mem_filter, List.mem_range] at hx
  obtain ⟨a, ⟨ha, _⟩, rfl⟩ := hx
  omega

/-- The set of the places below i at which p holds. -/
def mskN (p : Nat → Bool) : Nat → Nat
  | 0 => 0
  | i + 1 => if p i = true then mskN p i ||| 2 ^ i else mskN p i

theorem mskN_lt (p : Nat → Bool) : ∀ i, mskN p i < 2 ^ i
  | 0 => by simp [mskN]
  | i + 1 => by
    have h := mskN_lt p i
    have h2 : mskN p i < 2 ^ (i + 1) := by rw [Nat.pow_succ]; omega
    simp only [mskN]
    split
    · exact Nat.or_lt_two_pow h2 (by rw [Nat.pow_succ]; have := Nat.two_pow_pos i; omega)
    · exact h2

theorem rg_step (f : Nat → Bool) {i N : Nat} (h : i < N) : (List.range' i (N - i)).all f = (f i && (List.range' (i + 1) (N - (i + 1))).all f) := by
  rw [show N - i = (N - (i + 1)) + 1 by omega, List.range'_succ]; rfl

theorem rg_end (f : Nat → Bool) {i N : Nat} (h : N ≤ i) : (List.range' i (N - i)).all f = true := by
  rw [show N - i = 0 by omega]; rfl

theorem rg_start (f : Nat → Bool) (N : Nat) : (List.range N).all f = (List.range' 0 (N - 0)).all f := by
  rw [List.range_eq_range', Nat.sub_zero]



end Go.Sx
