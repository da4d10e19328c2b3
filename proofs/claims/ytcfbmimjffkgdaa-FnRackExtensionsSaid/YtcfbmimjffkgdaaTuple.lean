/- Tuple -/
import Derived.Test.YtcfbmimjffkgdaaBase
open Go Go.Proofs
namespace Go.Sx
set_option linter.unusedSimpArgs false
set_option linter.unusedVariables false

def degB (n k : Int) : Bool := decide (0 ≤ k ∧ k ≤ 1000) && decide (n ^ k.toNat ≤ 512)

/-- The k digits of a number, the last one last. -/
def digN (n : Int) : Nat → Int → List Int
  | 0, _ => []
  | k + 1, p => digN n k (p.tdiv n) ++ [p.tmod n]

theorem digN_length (n : Int) : ∀ (k : Nat) (p : Int), (digN n k p).length = k
  | 0, _ => rfl
  | k + 1, p => by simp [digN, digN_length n k]

theorem pow_pos' {n : Int} (h : 1 ≤ n) : ∀ i : Nat, 1 ≤ n ^ i
  | 0 => by simp
  | i + 1 => by
    have h1 := pow_pos' h i
    rw [Int.pow_succ]
    have := Int.mul_le_mul h1 h (by omega) (by omega)
    omega

theorem pow_mono {n : Int} (h : 1 ≤ n) (i : Nat) : ∀ j : Nat, n ^ i ≤ n ^ (i + j)
  | 0 => by simp
  | j + 1 => by
    have h1 := pow_mono h i j
    have h2 := pow_pos' h (i + j)
    rw [← Nat.add_assoc, Int.pow_succ]
    have := Int.mul_le_mul (Int.le_refl (n ^ (i + j))) h (by omega) (by omega)
    omega

theorem pow_le {n : Int} (h : 1 ≤ n) {i k : Nat} (hk : i ≤ k) : n ^ i ≤ n ^ k := by
  have := pow_mono h i (k - i)
  rwa [show i + (k - i) = k by omega] at this

theorem pow_one' : ∀ i : Nat, (1 : Int) ^ i = 1
  | 0 => rfl
  | i + 1 => by rw [Int.pow_succ, pow_one' i]; rfl

def tupOk (n k p : Int) : Bool := decide (1 ≤ n ∧ n ≤ 12) && (degB n k && decide (0 ≤ p ∧ p ≤ n ^ k.toNat - 1))
def tupC (n k p : Int) : List Int × Int := if tupOk n k p = true then (digN n k.toNat p, 0) else ([], 2)

theorem tupC_len (n k p : Int) : (tupC n k p).1.length ≤ 1000 := by
  unfold tupC
  split
  · rename_i h
    simp only [tupOk, degB, Bool.and_eq_true, decide_eq_true_eq] at h
    rw [digN_length]
    omega
  · simp

theorem tupC_no {n k p : Int} (h : tupOk n k p = false) : [] = (tupC n k p).1 ∧ 2 = (tupC n k p).2 := by simp [tupC, h]
theorem tupC_yes {n k p : Int} (h : tupOk n k p = true) : digN n k.toNat p = (tupC n k p).1 ∧ 0 = (tupC n k p).2 := by simp [tupC, h]

theorem rep_set (j : Nat) (v : Int) (suf : List Int) : (List.replicate (j + 1) 0 ++ suf).set j v = List.replicate j 0 ++ v :: suf := by
  induction j with
  | zero => rfl
  | succ j ih => rw [List.replicate_succ, List.cons_append, List.set_cons_succ, ih, List.replicate_succ, List.cons_append]

















end Go.Sx
