/- Pair -/
import Derived.Test.YtcfbmimjffkgdaaBase
open Go Go.Proofs
namespace Go.Sx
set_option linter.unusedSimpArgs false
set_option linter.unusedVariables false

theorem mul_le36 {x y : Int} (h1 : 0 ≤ x ∧ x ≤ 6) (h2 : 0 ≤ y ∧ y ≤ 6) : 0 ≤ x * y ∧ x * y ≤ 36 :=
  ⟨Int.mul_nonneg h1.1 h2.1, Int.le_trans (Int.mul_le_mul h1.2 h2.2 h2.1 (by omega)) (by omega)⟩

def primeB (p : Int) : Bool := decide (p = 2 ∨ p = 3 ∨ p = 5 ∨ p = 7)

def l15Prime_p (p : Int) : Post := ⟨True, .c (.bool (primeB p)), []⟩
def l15Prime_ct : List AD → Option Post
  | [.c (.int .i64 (p))] => some (l15Prime_p p)
  | _ => none
def l15Prime_G : List (Nat × Ctr) := []
def l15Prime_V (p : Int) : Prop :=
  (BrP (p == (2 : Int))
 ((Bool.true = primeB p) ∧
 (True))
 (BrP (p == (3 : Int))
 ((Bool.true = primeB p) ∧
 (True))
 (BrP (p == (5 : Int))
 ((Bool.true = primeB p) ∧
 (True))
 (((p == (7 : Int)) = primeB p) ∧
 (True)))))
theorem l15Prime_vc (p : Int) : runF Try.prog (gam l15Prime_G) noWr noAnn Try.f42 (bodyOf Try.f42) [] [.c (.int .i64 (p))] (l15Prime_p p) = l15Prime_V p := by kernel_rfl
theorem l15Prime_ok (p : Int) (hpre : (l15Prime_p p).pre) : l15Prime_V p := by
  simp only [l15Prime_p, l15Prime_V, BrP_iff, true_and, and_true, decide_eq_true_eq, decide_eq_false_iff_not, bne_iff_ne, beq_iff_eq, bne_eq_false_iff_eq, beq_eq_false_iff_ne, Bool.not_eq_true, Bool.not_eq_false, Bool.not_true, Bool.not_false, Bool.not_eq_eq_eq_not, Int.toNat_natCast, List.length_append, List.length_take, List.length_replicate, List.length_set, List.length_map, List.length_drop, List.length_nil, List.length_cons, markL_length, inB, InR, room, bdsOk] at hpre ⊢
  refine ⟨fun h => ?_, fun h => ⟨fun h => ?_, fun h => ⟨fun h => ?_, fun h => ?_⟩⟩⟩ <;> simp [primeB, *]
  rw [Bool.eq_iff_iff]; simp
theorem l15Prime_fits : Fits Try.prog 42 ⟨[], l15Prime_ct⟩ := by
  refine fits_fn (Γ := gam l15Prime_G) gok_nil Try.func42 (by kernel_rfl) (by kernel_rfl) (by kernel_rfl) fun ds p h hp => ?_
  unfold l15Prime_ct at h
  split at h
  · cases h
    exact ⟨noWr, noAnn, by rw [l15Prime_vc]; exact l15Prime_ok _  hp⟩
  · cases h

def isFieldPrime_p (p : Int) : Post := ⟨True, .c (.bool (primeB p)), []⟩
def isFieldPrime_ct : List AD → Option Post
  | [.c (.int .i64 (p))] => some (isFieldPrime_p p)
  | _ => none
def isFieldPrime_G : List (Nat × Ctr) := []
def isFieldPrime_V (p : Int) : Prop :=
  (BrP (p == (2 : Int))
 ((Bool.true = primeB p) ∧
 (True))
 (BrP (p == (3 : Int))
 ((Bool.true = primeB p) ∧
 (True))
 (BrP (p == (5 : Int))
 ((Bool.true = primeB p) ∧
 (True))
 (((p == (7 : Int)) = primeB p) ∧
 (True)))))
theorem isFieldPrime_vc (p : Int) : runF Try.prog (gam isFieldPrime_G) noWr noAnn Try.f104 (bodyOf Try.f104) [] [.c (.int .i64 (p))] (isFieldPrime_p p) = isFieldPrime_V p := by kernel_rfl
theorem isFieldPrime_ok (p : Int) (hpre : (isFieldPrime_p p).pre) : isFieldPrime_V p := by
  simp only [isFieldPrime_p, isFieldPrime_V, BrP_iff, true_and, and_true, decide_eq_true_eq, decide_eq_false_iff_not, bne_iff_ne, beq_iff_eq, bne_eq_false_iff_eq, beq_eq_false_iff_ne, Bool.not_eq_true, Bool.not_eq_false, Bool.not_true, Bool.not_false, Bool.not_eq_eq_eq_not, Int.toNat_natCast, List.length_append, List.length_take, List.length_replicate, List.length_set, List.length_map, List.length_drop, List.length_nil, List.length_cons, markL_length, inB, InR, room, bdsOk] at hpre ⊢
  refine ⟨fun h => ?_, fun h => ⟨fun h => ?_, fun h => ⟨fun h => ?_, fun h => ?_⟩⟩⟩ <;> simp [primeB, *]
  rw [Bool.eq_iff_iff]; simp
theorem isFieldPrime_fits : Fits Try.prog 104 ⟨[], isFieldPrime_ct⟩ := by
  refine fits_fn (Γ := gam isFieldPrime_G) gok_nil Try.func104 (by kernel_rfl) (by kernel_rfl) (by kernel_rfl) fun ds p h hp => ?_
  unfold isFieldPrime_ct at h
  split at h
  · cases h
    exact ⟨noWr, noAnn, by rw [isFieldPrime_vc]; exact isFieldPrime_ok _  hp⟩
  · cases h

theorem primeB_le {p : Int} (h : primeB p = true) : 2 ≤ p ∧ p ≤ 7 := by
  have := of_decide_eq_true h
  omega

end Go.Sx
