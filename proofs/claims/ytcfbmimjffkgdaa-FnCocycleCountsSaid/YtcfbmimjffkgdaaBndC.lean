/- BndC -/
import Derived.Test.YtcfbmimjffkgdaaBndI
import Derived.Test.YtcfbmimjffkgdaaRackC
import Derived.Test.YtcfbmimjffkgdaaPair
open Go Go.Proofs
namespace Go.Sx
set_option linter.unusedSimpArgs false
set_option linter.unusedVariables false

def dgB (t : List (List Int)) (p k : Int) : Bool := primeB p && degB t.length k
def dgC (t : List (List Int)) (p k : Int) : Int := if rackB t = true then (if dgB t p k = true then 0 else 2) else 1
def chB (t : List (List Int)) (p k : Int) (c : List Int) : Bool := decide ((c.length : Int) = (t.length : Int) ^ k.toNat) && allW 0 (p - 1) c
def chC (t : List (List Int)) (p k : Int) (c : List Int) : Int := if rackB t = true then (if dgB t p k = true then (if chB t p k c = true then 0 else 2) else 2) else 1

theorem allW_inP {p : Int} {c : List Int} (h : allW 0 (p - 1) c = true) : inP p c := fun q hq => by
  have := List.all_eq_true.1 h _ (getD_mem c 0 q hq)
  simpa using this

theorem chB_of {t : List (List Int)} {p k : Int} {c : List Int} (h : chB t p k c = true) : c.length = t.length ^ k.toNat ∧ inP p c ∧ allW 0 (p - 1) c = true := by
  simp only [chB, Bool.and_eq_true, decide_eq_true_eq] at h
  refine ⟨?_, allW_inP h.2, h.2⟩
  have := h.1
  rw [← Int.natCast_pow] at this
  exact Int.natCast_inj.1 this

theorem dgC_ok {t : List (List Int)} {p k : Int} (h : dgC t p k = 0) : rackB t = true ∧ primeB p = true ∧ degB t.length k = true ∧ dgB t p k = true := by
  unfold dgC at h
  split at h
  · split at h
    · rename_i a b
      have := b
      simp only [dgB, Bool.and_eq_true] at this
      exact ⟨a, this.1, this.2, b⟩
    · omega
  · omega

theorem dgC_no {t : List (List Int)} {p k : Int} (c : List Int) (h : dgC t p k ≠ 0) : dgC t p k = chC t p k c := by
  unfold dgC at h ⊢
  unfold chC
  split
  · rename_i a
    rw [if_pos a] at h
    split
    · rename_i b; rw [if_pos b] at h; omega
    · rfl
  · rfl

theorem chC_ok {t : List (List Int)} {p k : Int} {c : List Int} (h : chC t p k c = 0) : rackB t = true ∧ primeB p = true ∧ degB t.length k = true ∧ chB t p k c = true ∧ dgC t p k = 0 := by
  unfold chC at h
  split at h
  · split at h
    · split at h
      · rename_i a b d
        have e : dgC t p k = 0 := by rw [dgC, if_pos a, if_pos b]
        obtain ⟨x, y, z, _⟩ := dgC_ok e
        exact ⟨x, y, z, d, e⟩
      · omega
    · omega
  · omega

theorem degB_of {n k : Int} (h : degB n k = true) : 0 ≤ k ∧ k ≤ 1000 ∧ n ^ k.toNat ≤ 512 := by
  simp only [degB, Bool.and_eq_true, decide_eq_true_eq] at h
  omega

def checkDegree_p (t : List (List Int)) (p : Int) (k : Int) : Post := ⟨roomR t, .c (.int .i64 (dgC t p k)), []⟩
def checkDegree_ct : List AD → Option Post
  | [.agg [.rows .i64 (t)], .c (.int .i64 (p)), .c (.int .i64 (k))] => some (checkDegree_p t p k)
  | _ => none
def checkDegree_G : List (Nat × Ctr) := [(26, ⟨[], IsRack_ct⟩), (104, ⟨[], isFieldPrime_ct⟩), (51, ⟨[], isDegree_ct⟩)]
def checkDegree_V (t : List (List Int)) (p : Int) (k : Int) : Prop :=
  (((roomR t) ∧
 (True)) ∧
 (BrP (!rackB t)
 (((1 : Int) = dgC t p k) ∧
 (True))
 (((True) ∧
 (True)) ∧
 (BrP (!primeB p)
 (((2 : Int) = dgC t p k) ∧
 (True))
 (((((1 : Int) ≤ (↑(List.length t) : Int)) ∧
 ((↑(List.length t) : Int) ≤ (12 : Int))) ∧
 (True)) ∧
 (BrP (!degB (↑(List.length t) : Int) k)
 (((2 : Int) = dgC t p k) ∧
 (True))
 (((0 : Int) = dgC t p k) ∧
 (True))))))))
theorem checkDegree_vc (t : List (List Int)) (p : Int) (k : Int) : runF Try.prog (gam checkDegree_G) noWr noAnn Try.f50 (bodyOf Try.f50) [] [.agg [.rows .i64 (t)], .c (.int .i64 (p)), .c (.int .i64 (k))] (checkDegree_p t p k) = checkDegree_V t p k := by kernel_rfl
theorem checkDegree_ok (t : List (List Int)) (p : Int) (k : Int) (hpre : (checkDegree_p t p k).pre) : checkDegree_V t p k := by
  simp only [checkDegree_p, checkDegree_V, BrP_iff, true_and, and_true, decide_eq_true_eq, decide_eq_false_iff_not, bne_iff_ne, beq_iff_eq, bne_eq_false_iff_eq, beq_eq_false_iff_ne, Bool.not_eq_true, Bool.not_eq_false, Bool.not_true, Bool.not_false, Bool.not_eq_eq_eq_not, Int.toNat_natCast, List.length_append, List.length_take, List.length_replicate, List.length_set, List.length_map, List.length_drop, List.length_nil, List.length_cons, markL_length, inB, InR, room, bdsOk] at hpre ⊢
  refine ⟨hpre, fun h => by simp [dgC, h], fun h => ⟨fun h2 => by simp [dgC, h, dgB, h2], fun h2 => ?_⟩⟩
  have hn := tabB_of (rackB_tab h)
  exact ⟨by omega, fun h3 => by simp [dgC, h, dgB, h2, h3], fun h3 => by simp [dgC, h, dgB, h2, h3]⟩
theorem checkDegree_fits : Fits Try.prog 50 ⟨[], checkDegree_ct⟩ := by
  refine fits_fn (Γ := gam checkDegree_G) (gok_cons IsRack_fits (gok_cons isFieldPrime_fits (gok_cons isDegree_fits gok_nil))) Try.func50 (by kernel_rfl) (by kernel_rfl) (by kernel_rfl) fun ds p h hp => ?_
  unfold checkDegree_ct at h
  split at h
  · cases h
    exact ⟨noWr, noAnn, by rw [checkDegree_vc]; exact checkDegree_ok _ _ _  hp⟩
  · cases h







end Go.Sx
