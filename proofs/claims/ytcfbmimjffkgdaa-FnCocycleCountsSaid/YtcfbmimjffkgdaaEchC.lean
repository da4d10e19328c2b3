/- Own2 EchC -/
import Derived.Test.YtcfbmimjffkgdaaOwn
import Derived.Test.YtcfbmimjffkgdaaLists
import Derived.Test.YtcfbmimjffkgdaaKer
import Derived.Test.YtcfbmimjffkgdaaRnkR
section
open Go Go.Proofs
namespace Go.Sx
set_option linter.unusedSimpArgs false
set_option linter.unusedVariables false

def l01Own2_p (t : List (List Int)) : Post := ⟨roomR t, .c (.rows 46 2 .i64 (t)), []⟩
def l01Own2_ct : List AD → Option Post
  | [.c (.rows .i64 (t))] => some (l01Own2_p t)
  | _ => none
def l01Own2_ann (t : List (List Int)) : Nat → Option Ann
  | 0 => some (Ann.mk ((Nat)) (fun i => ⟨[(0, .c (.ro (.rows .i64 (t)))), (3, .c (.own (5))), (4, .c (.int .i64 ((i : Int))))], [(5, some (.rows 0 46 2 .i64 (t.take i)))]⟩) (fun i => i ≤ t.length) (fun i => t.length - i) (fun _ => noAnn))
  | _ => none
def l01Own2_G : List (Nat × Ctr) := [(97, ⟨[], l01Own_ct⟩)]
def l01Own2_V (t : List (List Int)) : Prop :=
  ((∃ x0 : Nat, ((x0 ≤ List.length t) ∧
 ((t = t) ∧
 (((0 : Int) = (↑x0 : Int)) ∧
 ([] = List.take x0 t))))) ∧
 (∀ x1 : Nat, ((x1 ≤ List.length t) →
 (BrP (Decidable.decide ((↑x1 : Int) < (↑(List.length t) : Int)))
 ((inB (↑x1 : Int) (List.length t)) ∧
 (((room (List.length (List.getD t (Int.toNat (↑x1 : Int)) []))) ∧
 (True)) ∧
 ((room (List.length (List.take x1 t) + List.length [List.getD t (Int.toNat (↑x1 : Int)) []])) ∧
 ((InR ((↑x1 : Int) + (1 : Int))) ∧
 (∃ x2 : Nat, ((x2 ≤ List.length t) ∧
 ((List.length t - x2 < List.length t - x1) ∧
 ((t = t) ∧
 (((↑x1 : Int) + (1 : Int) = (↑x2 : Int)) ∧
 (List.take x1 t ++ [List.getD t (Int.toNat (↑x1 : Int)) []] = List.take x2 t))))))))))
 ((List.take x1 t = t) ∧
 (True))))))
theorem l01Own2_vc (t : List (List Int)) : runF Try.prog (gam l01Own2_G) noWr (l01Own2_ann t) Try.f99 (bodyOf Try.f99) [] [.c (.rows .i64 (t))] (l01Own2_p t) = l01Own2_V t := by kernel_rfl
theorem l01Own2_ok (t : List (List Int)) (hpre : (l01Own2_p t).pre) : l01Own2_V t := by
  simp only [l01Own2_p, l01Own2_V, BrP_iff, true_and, and_true, decide_eq_true_eq, decide_eq_false_iff_not, bne_iff_ne, beq_iff_eq, bne_eq_false_iff_eq, beq_eq_false_iff_ne, Bool.not_eq_true, Bool.not_eq_false, Bool.not_true, Bool.not_false, Bool.not_eq_eq_eq_not, Int.toNat_natCast, List.length_append, List.length_take, List.length_replicate, List.length_set, List.length_map, List.length_drop, List.length_nil, List.length_cons, markL_length, inB, InR, room, bdsOk] at hpre ⊢
  have h1 := hpre.1
  refine ⟨⟨0, by omega, rfl, by simp⟩, fun i hi => ⟨fun h => ⟨by omega, roomR_get hpre i (by omega), by omega, by omega, i + 1, by omega, by omega, by omega, take_snoc _ _ _ (by omega)⟩, fun h => List.take_of_length_le (by omega)⟩⟩
theorem l01Own2_fits : Fits Try.prog 99 ⟨[], l01Own2_ct⟩ := by
  refine fits_fn (Γ := gam l01Own2_G) (gok_cons l01Own_fits gok_nil) Try.func99 (by kernel_rfl) (by kernel_rfl) (by kernel_rfl) fun ds p h hp => ?_
  unfold l01Own2_ct at h
  split at h
  · cases h
    exact ⟨noWr, l01Own2_ann _ , by rw [l01Own2_vc]; exact l01Own2_ok _  hp⟩
  · cases h

end Go.Sx
end

section
open Go Go.Proofs
namespace Go.Sx
set_option linter.unusedSimpArgs false
set_option linter.unusedVariables false

/-- Rows below i, other than row d, less the part of s. -/
def upT (p : Int) (s : List Int) (a d : Nat) (B : List (List Int)) (i : Nat) : List (List Int) := (List.range B.length).map fun j => if j < i ∧ j ≠ d then upR p s a (B.getD j []) else B.getD j []

theorem upT_length (p : Int) (s : List Int) (a d : Nat) (B : List (List Int)) (i : Nat) : (upT p s a d B i).length = B.length := by simp [upT]

theorem upT_get (p : Int) (s : List Int) (a d : Nat) (B : List (List Int)) (i : Nat) {j : Nat} (h : j < B.length) : (upT p s a d B i).getD j [] = if j < i ∧ j ≠ d then upR p s a (B.getD j []) else B.getD j [] := by
  simp [upT, List.getD, h]

theorem upT_zero (p : Int) (s : List Int) (a d : Nat) (B : List (List Int)) : upT p s a d B 0 = B :=
  list2_ext (upT_length ..) fun j hj => by rw [upT_length] at hj; rw [upT_get _ _ _ _ _ _ hj, if_neg (by omega)]

theorem upT_keep (p : Int) (s : List Int) (a d : Nat) (B : List (List Int)) {i : Nat} (h : i = d ∨ (B.getD i []).getD a 0 = 0) : upT p s a d B (i + 1) = upT p s a d B i :=
  list2_ext (by rw [upT_length, upT_length]) fun j hj => by
    rw [upT_length] at hj
    rw [upT_get _ _ _ _ _ _ hj, upT_get _ _ _ _ _ _ hj]
    by_cases e : j = i
    · subst e
      rcases h with h | h
      · rw [if_neg (by omega), if_neg (by omega)]
      · rw [if_neg (by omega : ¬ (j < j ∧ j ≠ d))]
        split
        · rw [upR, if_neg (by omega)]
        · rfl
    · by_cases e2 : j < i ∧ j ≠ d
      · rw [if_pos e2, if_pos (by omega)]
      · rw [if_neg e2, if_neg (by omega)]

theorem upT_set (p : Int) (s : List Int) (a d : Nat) (B : List (List Int)) {i : Nat} (hi : i < B.length) (h : i ≠ d) : (upT p s a d B i).set i (upR p s a (B.getD i [])) = upT p s a d B (i + 1) :=
  list2_ext (by rw [List.length_set, upT_length, upT_length]) fun j hj => by
    rw [List.length_set, upT_length] at hj
    rw [upT_get _ _ _ _ _ _ hj]
    by_cases e : j = i
    · subst e
      rw [if_pos (by omega)]
      simp [List.getD, upT_length, hj]
    · rw [show ((upT p s a d B i).set i (upR p s a (B.getD i []))).getD j [] = (upT p s a d B i).getD j [] by simp [List.getD, List.getElem?_set_ne (Ne.symm e)], upT_get _ _ _ _ _ _ hj]
      by_cases e2 : j < i ∧ j ≠ d
      · rw [if_pos e2, if_pos (by omega)]
      · rw [if_neg e2, if_neg (by omega)]

/-- The row at r, made 1 at a, and the rows with it at place d. -/
def ecS (p : Int) (out : List (List Int)) (a r : Nat) : List Int := scF p (ivM p ((out.getD r []).getD a 0)) (out.getD r [])
def ecB (p : Int) (out : List (List Int)) (a d r : Nat) : List (List Int) := (out.set r (out.getD d [])).set d (ecS p out a r)
def ecW (R : List (List Int)) : Nat := (R.getD 0 []).length

theorem ecB_length (p : Int) (out : List (List Int)) (a d r : Nat) : (ecB p out a d r).length = out.length := by simp [ecB]

theorem ecB_get (p : Int) (out : List (List Int)) (a d r : Nat) {i : Nat} (h : i < out.length) : (ecB p out a d r).getD i [] = if i = d then ecS p out a r else if i = r then out.getD d [] else out.getD i [] := by
  unfold ecB
  by_cases e : i = d
  · subst e; simp [List.getD, h]
  · rw [if_neg e]
    by_cases e2 : i = r
    · subst e2; rw [if_pos rfl]; simp only [List.getD, List.getElem?_set_ne (Ne.symm e)]; simp [h]
    · simp [List.getD, List.getElem?_set_ne (Ne.symm e), List.getElem?_set_ne (Ne.symm e2), e2]

theorem scF_st (p m : Int) (r : List Int) : stF p m r (List.replicate r.length 0) = scF p m r := by
  unfold stF scF
  rw [List.length_replicate]
  refine tab_ext fun q hq => ?_
  rw [show (List.replicate r.length (0 : Int)).getD q 0 = 0 by simp [List.getD, hq], Int.zero_add, Int.mul_comm]

section
variable {p : Int} {N : Nat} {R out : List (List Int)} {d a r : Nat}

theorem ecS_ok (hp : primeB p = true) (E : EInv p N R out d a) (hr : d ≤ r) (hr2 : r < out.length) (hne : at2 out r a ≠ 0) : rwP p N (ecS p out a r) ∧ (ecS p out a r).getD a 0 = 1 := by
  have rr := E.row r hr2
  have lr : ldF (out.getD r []) = (a : Int) := ld_is hne fun i hi => E.low r hr hr2 i hi
  have n := scF_nrm hp rr (by omega)
  rw [lr, Int.toNat_natCast] at n
  have n1 := n.one
  rw [lr, Int.toNat_natCast] at n1
  exact ⟨n.row, n1⟩

theorem ecB_row (hp : primeB p = true) (E : EInv p N R out d a) (hr : d ≤ r) (hr2 : r < out.length) (hne : at2 out r a ≠ 0) {i : Nat} (hi : i < out.length) : rwP p N ((ecB p out a d r).getD i []) := by
  rw [ecB_get _ _ _ _ _ hi]
  split
  · exact (ecS_ok hp E hr hr2 hne).1
  · split
    · exact E.row d (by omega)
    · exact E.row i hi

theorem ec_step (hp : primeB p = true) (E : EInv p N R out d a) (ha : a < N) (hr : d ≤ r) (hr2 : r < out.length) (hne : at2 out r a ≠ 0) : EInv p N R (upT p (ecS p out a r) a d (ecB p out a d r) out.length) (d + 1) (a + 1) :=
  E.step hp ha hr hr2 hne rfl (by rw [upT_length, ecB_length]) fun i hi => by
    rw [upT_get _ _ _ _ _ _ (by rw [ecB_length]; exact hi), ecB_get _ _ _ _ _ hi]
    by_cases e : i = d
    · rw [if_neg (by omega), if_pos e, if_pos e]; rfl
    · rw [if_pos ⟨hi, e⟩, if_neg e, if_neg e]; rfl

theorem ec_st (hl : (out.getD r []).length = N) : stF p (p - (p - ivM p ((out.getD r []).getD a 0))) (out.getD r []) (List.replicate N 0) = ecS p out a r := by
  rw [show p - (p - ivM p ((out.getD r []).getD a 0)) = ivM p ((out.getD r []).getD a 0) by omega, ← hl, scF_st]; rfl

theorem ec_upg {s : List Int} {B : List (List Int)} {i : Nat} (hi : i < B.length) : (upT p s a d B i).getD i [] = B.getD i [] := by rw [upT_get _ _ _ _ _ _ hi, if_neg (by omega)]
end



end Go.Sx
end
