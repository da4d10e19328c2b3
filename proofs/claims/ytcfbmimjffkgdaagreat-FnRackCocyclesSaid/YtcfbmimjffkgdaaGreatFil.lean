/- Fil -/
import Derived.Test.YtcfbmimjffkgdaaGreatQb
import Derived.Test.YtcfbmimjffkgdaaGreatOwn2
import Derived.Test.YtcfbmimjffkgdaaGreatRnk
import Derived.Test.YtcfbmimjffkgdaaGreatRack
section
open Go Go.Proofs
namespace Go.Sx
set_option linter.unusedSimpArgs false
set_option linter.unusedVariables false
def upT (p : Int) (s : List Int) (a d : Nat) (B : List (List Int)) (i : Nat) : List (List Int) := (List.range B.length).map fun j => if j < i ∧ j ≠ d then upR p s a (B.getD j []) else B.getD j []
theorem upT_length (p : Int) (s : List Int) (a d : Nat) (B : List (List Int)) (i : Nat) : (upT p s a d B i).length = B.length := by simp [upT]
theorem upT_get (p : Int) (s : List Int) (a d : Nat) (B : List (List Int)) (i : Nat) {j : Nat} (h : j < B.length) : (upT p s a d B i).getD j [] = if j < i ∧ j ≠ d then upR p s a (B.getD j []) else B.getD j [] := by
  simp [upT, List.getD, h]
theorem upT_zero (p : Int) (s : List Int) (a d : Nat) (B : List (List Int)) : upT p s a d B 0 = B :=
  list2_ext (upT_length ..) fun j hj => by rw [upT_length] at hj; rw [upT_get _ _ _ _ _ _ hj, if_neg (by omega)]
theorem upT_keep (p : Int) (s : List Int) (a d : Nat) (B : List (List Int)) {i : Nat} (h : i = d ∨ (B.getD i []).getD a 0 = 0) : upT p s a d B (i + 1) = upT p s a d B i :=
  list2_ext (by rw [upT_length, upT_length]) fun j hj => by
    rw [upT_length] at hj
    rw [upT_get _ _ _ _ _ _ hj, upT_get _ _ _ _ _ _ hj]
    by_cases e : j = i
    · subst e
      rcases h with h | h
      · rw [if_neg (by omega), if_neg (by omega)]
      · rw [if_neg (by omega : ¬ (j < j ∧ j ≠ d))]
        split
        · rw [upR, if_neg (by omega)]
        · rfl
    · by_cases e2 : j < i ∧ j ≠ d
      · rw [if_pos e2, if_pos (by omega)]
      · rw [if_neg e2, if_neg (by omega)]
theorem upT_set (p : Int) (s : List Int) (a d : Nat) (B : List (List Int)) {i : Nat} (hi : i < B.length) (h : i ≠ d) : (upT p s a d B i).set i (upR p s a (B.getD i [])) = upT p s a d B (i + 1) :=
  list2_ext (by rw [List.length_set, upT_length, upT_length]) fun j hj => by
    rw [List.length_set, upT_length] at hj
    rw [upT_get _ _ _ _ _ _ hj]
    by_cases e : j = i
    · subst e
      rw [if_pos (by omega)]
      simp [List.getD, upT_length, hj]
    · rw [show ((upT p s a d B i).set i (upR p s a (B.getD i []))).getD j [] = (upT p s a d B i).getD j [] by simp [List.getD, List.getElem?_set_ne (Ne.symm e)], upT_get _ _ _ _ _ _ hj]
      by_cases e2 : j < i ∧ j ≠ d
      · rw [if_pos e2, if_pos (by omega)]
      · rw [if_neg e2, if_neg (by omega)]
def ecS (p : Int) (out : List (List Int)) (a r : Nat) : List Int := scF p (ivM p ((out.getD r []).getD a 0)) (out.getD r [])
def ecB (p : Int) (out : List (List Int)) (a d r : Nat) : List (List Int) := (out.set r (out.getD d [])).set d (ecS p out a r)
def ecW (R : List (List Int)) : Nat := (R.getD 0 []).length
theorem ecB_length (p : Int) (out : List (List Int)) (a d r : Nat) : (ecB p out a d r).length = out.length := by simp [ecB]
theorem ecB_get (p : Int) (out : List (List Int)) (a d r : Nat) {i : Nat} (h : i < out.length) : (ecB p out a d r).getD i [] = if i = d then ecS p out a r else if i = r then out.getD d [] else out.getD i [] := by
  unfold ecB
  by_cases e : i = d
  · subst e; simp [List.getD, h]
  · rw [if_neg e]
    by_cases e2 : i = r
    · subst e2; rw [if_pos rfl]; simp only [List.getD, List.getElem?_set_ne (Ne.symm e)]; simp [h]
    · simp [List.getD, List.getElem?_set_ne (Ne.symm e), List.getElem?_set_ne (Ne.symm e2), e2]
theorem scF_st (p m : Int) (r : List Int) : stF p m r (List.replicate r.length 0) = scF p m r := by
  unfold stF scF
  rw [List.length_replicate]
  refine tab_ext fun q hq => ?_
  rw [show (List.replicate r.length (0 : Int)).getD q 0 = 0 by simp [List.getD, hq], Int.zero_add, Int.mul_comm]
section
variable {p : Int} {N : Nat} {R out : List (List Int)} {d a r : Nat}
theorem ecS_ok (hp : primeB p = true) (E : EInv p N R out d a) (hr : d ≤ r) (hr2 : r < out.length) (hne : at2 out r a ≠ 0) : rwP p N (ecS p out a r) ∧ (ecS p out a r).getD a 0 = 1 := by
  have rr := E.row r hr2
  have lr : ldF (out.getD r []) = (a : Int) := ld_is hne fun i hi => E.low r hr hr2 i hi
  have n := scF_nrm hp rr (by omega)
  rw [lr, Int.toNat_natCast] at n
  have n1 := n.one
  rw [lr, Int.toNat_natCast] at n1
  exact ⟨n.row, n1⟩
theorem ecB_row (hp : primeB p = true) (E : EInv p N R out d a) (hr : d ≤ r) (hr2 : r < out.length) (hne : at2 out r a ≠ 0) {i : Nat} (hi : i < out.length) : rwP p N ((ecB p out a d r).getD i []) := by
  rw [ecB_get _ _ _ _ _ hi]
  split
  · exact (ecS_ok hp E hr hr2 hne).1
  · split
    · exact E.row d (by omega)
    · exact E.row i hi
theorem ec_step (hp : primeB p = true) (E : EInv p N R out d a) (ha : a < N) (hr : d ≤ r) (hr2 : r < out.length) (hne : at2 out r a ≠ 0) : EInv p N R (upT p (ecS p out a r) a d (ecB p out a d r) out.length) (d + 1) (a + 1) :=
  E.step hp ha hr hr2 hne rfl (by rw [upT_length, ecB_length]) fun i hi => by
    rw [upT_get _ _ _ _ _ _ (by rw [ecB_length]; exact hi), ecB_get _ _ _ _ _ hi]
    by_cases e : i = d
    · rw [if_neg (by omega), if_pos e, if_pos e]; rfl
    · rw [if_pos ⟨hi, e⟩, if_neg e, if_neg e]; rfl
theorem ec_st (hl : (out.getD r []).length = N) : stF p (p - (p - ivM p ((out.getD r []).getD a 0))) (out.getD r []) (List.replicate N 0) = ecS p out a r := by
  rw [show p - (p - ivM p ((out.getD r []).getD a 0)) = ivM p ((out.getD r []).getD a 0) by omega, ← hl, scF_st]; rfl
theorem ec_upg {s : List Int} {B : List (List Int)} {i : Nat} (hi : i < B.length) : (upT p s a d B i).getD i [] = B.getD i [] := by rw [upT_get _ _ _ _ _ _ hi, if_neg (by omega)]
end
def l15Echelon_p (R : List (List Int)) (p : Int) : Post := ⟨primeB p = true ∧ (∃ N, rwsP p N R ∧ 1 ≤ N ∧ N ≤ 512) ∧ R.length ≤ 512, .c (.ro (.rows .i64 (srtL (imN p R R.length)))), []⟩
def l15Echelon_ct : List AD → Option Post
  | [.c (.rows .i64 (R)), .c (.int .i64 (p))] => some (l15Echelon_p R p)
  | _ => none
def l15Echelon_ann (R : List (List Int)) (p : Int) : Nat → Option Ann
  | 0 => some (Ann.mk ((Nat) × (Nat) × (List (List Int))) (fun x => match x with | (a, d, out) => ⟨[(1, .c (.int .i64 (p))), (5, .c (.own (100))), (6, .c (.int .i64 ((d : Int)))), (7, .c (.int .i64 ((ecW R : Int)))), (8, .c (.int .i64 ((a : Int))))], [(100, some (.lst 0 27 (.rows .i64 (out))))]⟩) (fun x => match x with | (a, d, out) => a ≤ ecW R ∧ out.length = R.length ∧ EInv p (ecW R) R out d a) (fun x => match x with | (a, d, out) => ecW R - a) (fun x => match x with | (a, d, out) => fun b_ => match b_ with | 2 => some (Ann.mk ((Nat)) (fun f => ⟨[(1, .c (.int .i64 (p))), (5, .c (.own (100))), (6, .c (.int .i64 ((d : Int)))), (7, .c (.int .i64 ((ecW R : Int)))), (8, .c (.int .i64 ((a : Int)))), (9, .c (.int .i64 ((f : Int))))], [(100, some (.lst 0 27 (.rows .i64 (out))))]⟩) (fun f => d ≤ f ∧ f ≤ out.length ∧ a < ecW R ∧ ∀ i, d ≤ i → i < f → at2 out i a = 0) (fun f => out.length - f) (fun _ => noAnn)) | 4 => some (Ann.mk ((Nat) × (Nat)) (fun x => match x with | (i, r) => ⟨[(1, .c (.int .i64 (p))), (5, .c (.own (100))), (6, .c (.int .i64 ((d : Int)))), (7, .c (.int .i64 ((ecW R : Int)))), (8, .c (.int .i64 ((a : Int)))), (10, .c (.ro (.ints .i64 (ecS p out a r)))), (11, .c (.int .i64 ((i : Int))))], [(100, some (.lst 0 27 (.rows .i64 (upT p (ecS p out a r) a d (ecB p out a d r) i))))]⟩) (fun x => match x with | (i, r) => d ≤ r ∧ r < out.length ∧ a < ecW R ∧ at2 out r a ≠ 0 ∧ i ≤ out.length) (fun x => match x with | (i, r) => out.length - i) (fun _ => noAnn)) | _ => none))
  | _ => none
def l15Echelon_G : List (Nat × Ctr) := [(82, ⟨[], l01Own2_ct⟩), (83, ⟨[], l15Less_ct⟩), (84, ⟨[], l15Inverse_ct⟩)]
def l15Echelon_c1 (p : Int) (x0 : Nat × Nat × List (List Int)) (x1 : Nat × Nat) := ((upT p (ecS p x0.2.2 x0.1 x1.2) x0.1 x0.2.1 (ecB p x0.2.2 x0.1 x0.2.1 x1.2) x1.1).getD ((↑x1.1:Int).toNat) [])
def l15Echelon_c2 (x0 : Nat × Nat × List (List Int)) (x1 : Nat) := ((List.getD x0.2.2 ((↑x1:Int).toNat) []).getD ((↑x0.1:Int).toNat) (0:Int))
def l15Echelon_c3 (p : Int) (x0 : Nat × Nat) (x1 : Nat × Nat × List (List Int)) := (inB (↑x0.1:Int) (FC.len (FC.rows IntKind.i64 (upT p (ecS p x1.2.2 x1.1 x0.2) x1.1 x1.2.1 (ecB p x1.2.2 x1.1 x1.2.1 x0.2) x0.1))))
def l15Echelon_c4 (x0 : Nat × Nat × List (List Int)) (x1 : Nat) := (x0.2.2.getD ((↑x1:Int).toNat) [])
def l15Echelon_c5 (x0 : Nat × Nat × List (List Int)) (x1 : Nat) := (List.set x0.2.2 ((↑x1:Int).toNat) (x0.2.2.getD ((↑x0.2.1:Int).toNat) []))
def l15Echelon_c6 (R : List (List Int)) := (List.replicate ((↑(ecW R):Int).toNat) (0:Int))
def l15Echelon_V1 (R : List (List Int)) (p : Int) : Prop :=
 ∀ x0 : Nat × Nat × List (List Int), (((x0.1 ≤ ecW R)∧(((x0.2.2).length = R.length)∧(EInv p (ecW R) R (x0.2.2) (x0.2.1) (x0.1)))) → (BrP (decide ((↑x0.1:Int) < (↑(ecW R):Int))) ((∃ x1 : Nat, (((x0.2.1 ≤ x1)∧((x1 ≤ x0.2.2.length)∧((x0.1 < ecW R)∧(∀ (i : Nat), x0.2.1 ≤ i → i < x1 → at2 x0.2.2 i x0.1 = (0:Int)))))∧((p = p)∧(((↑x0.2.1:Int) = (↑x0.2.1:Int))∧(((↑(ecW R):Int) = (↑(ecW R):Int))∧(((↑x0.1:Int) = (↑x0.1:Int))∧(((↑x0.2.1:Int) = (↑x1:Int))∧(x0.2.2 = x0.2.2))))))))∧(∀ x2 : Nat, (((x0.2.1 ≤ x2)∧((x2 ≤ x0.2.2.length)∧((x0.1 < ecW R)∧(∀ (i : Nat), x0.2.1 ≤ i → i < x2 → at2 x0.2.2 i x0.1 = (0:Int))))) → (BrP (decide ((↑x2:Int) < (↑(FC.len (FC.rows IntKind.i64 x0.2.2)):Int))) ((inB (↑x2:Int) (FC.len (FC.rows IntKind.i64 x0.2.2)))∧((inB (↑x0.1:Int) ((l15Echelon_c4 x0 x2).length))∧(BrP ((List.getD x0.2.2 ((↑x2:Int).toNat) []).getD ((↑x0.1:Int).toNat) (0:Int) == (0:Int)) ((InR ((↑x2:Int) + (1:Int)))∧(∃ x3 : Nat, (((x0.2.1 ≤ x3)∧((x3 ≤ x0.2.2.length)∧((x0.1 < ecW R)∧(∀ (i : Nat), x0.2.1 ≤ i → i < x3 → at2 x0.2.2 i x0.1 = (0:Int)))))∧((x0.2.2.length - x3 < x0.2.2.length - x2)∧((p = p)∧(((↑x0.2.1:Int) = (↑x0.2.1:Int))∧(((↑(ecW R):Int) = (↑(ecW R):Int))∧(((↑x0.1:Int) = (↑x0.1:Int))∧(((↑x2:Int) + (1:Int) = (↑x3:Int))∧(x0.2.2 = x0.2.2)))))))))) (BrP ((↑x2:Int) == (↑(FC.len (FC.rows IntKind.i64 x0.2.2)):Int)) ((InR ((↑x0.1:Int) + (1:Int)))∧(∃ x4 : Nat × Nat × List (List Int), (((x4.1 ≤ ecW R)∧(((x4.2.2).length = R.length)∧(EInv p (ecW R) R (x4.2.2) (x4.2.1) (x4.1)))) ∧
 ((ecW R - x4.1 < ecW R - x0.1)∧((p = p)∧(((↑x0.2.1:Int) = (↑x4.2.1:Int))∧(((↑(ecW R):Int) = (↑(ecW R):Int))∧(((↑x0.1:Int) + (1:Int) = (↑x4.1:Int))∧(x0.2.2 = x4.2.2))))))))) ((inB (↑x2:Int) (FC.len (FC.rows IntKind.i64 x0.2.2)))∧((inB (↑x0.2.1:Int) (FC.len (FC.rows IntKind.i64 x0.2.2)))∧((inB (↑x2:Int) (FC.len (FC.rows IntKind.i64 x0.2.2)))∧((((0:Int) ≤ (↑(ecW R):Int))∧(((↑(ecW R):Int) ≤ (↑(ecW R):Int))∧(room ((↑(ecW R):Int).toNat))))∧((inB (↑x0.1:Int) ((l15Echelon_c4 x0 x2).length))∧((((primeB p = true)∧(((1:Int) ≤ (l15Echelon_c4 x0 x2).getD ((↑x0.1:Int).toNat) (0:Int))∧((l15Echelon_c4 x0 x2).getD ((↑x0.1:Int).toNat) (0:Int) ≤ p - (1:Int))))∧True)∧((InR (p - ivM p (l15Echelon_c2 x0 x2)))∧((((twR p (l15Echelon_c6 R) (l15Echelon_c4 x0 x2))∧(((0:Int) ≤ p - (p - ivM p (l15Echelon_c2 x0 x2)))∧((p - (p - ivM p (l15Echelon_c2 x0 x2)) ≤ (7:Int))∧(((-100:Int) ≤ p - ivM p (l15Echelon_c2 x0 x2))∧(p - ivM p (l15Echelon_c2 x0 x2) ≤ (100:Int))))))∧True)∧((inB (↑x0.2.1:Int) (FC.len (FC.rows IntKind.i64 (l15Echelon_c5 x0 x2))))∧((∃ x5 : Nat × Nat, (((x0.2.1 ≤ x5.2)∧((x5.2 < x0.2.2.length)∧((x0.1 < ecW R)∧((at2 x0.2.2 (x5.2) x0.1 ≠ (0:Int))∧(x5.1 ≤ x0.2.2.length)))))∧((p = p)∧(((↑x0.2.1:Int) = (↑x0.2.1:Int))∧(((↑(ecW R):Int) = (↑(ecW R):Int))∧(((↑x0.1:Int) = (↑x0.1:Int))∧((stF p (p - (p - ivM p (l15Echelon_c2 x0 x2))) (l15Echelon_c4 x0 x2) (l15Echelon_c6 R) = ecS p x0.2.2 x0.1 x5.2)∧(((0:Int) = (↑x5.1:Int)) ∧
 (List.set (l15Echelon_c5 x0 x2) ((↑x0.2.1:Int).toNat) (stF p (p - (p - ivM p (l15Echelon_c2 x0 x2))) (l15Echelon_c4 x0 x2) (l15Echelon_c6 R)) = upT p (ecS p x0.2.2 x0.1 x5.2) x0.1 x0.2.1 (ecB p x0.2.2 x0.1 x0.2.1 x5.2) x5.1)))))))))∧(∀ x6 : Nat × Nat, (((x0.2.1 ≤ x6.2)∧((x6.2 < x0.2.2.length)∧((x0.1 < ecW R)∧((at2 x0.2.2 (x6.2) x0.1 ≠ (0:Int))∧(x6.1 ≤ x0.2.2.length))))) → (BrP (decide ((↑x6.1:Int) < (↑(FC.len (FC.rows IntKind.i64 (upT p (ecS p x0.2.2 x0.1 x6.2) x0.1 x0.2.1 (ecB p x0.2.2 x0.1 x0.2.1 x6.2) x6.1))):Int))) (BrP ((↑x6.1:Int) != (↑x0.2.1:Int)) ((l15Echelon_c3 p x6 x0)∧((inB (↑x0.1:Int) ((l15Echelon_c1 p x0 x6).length))∧(BrP ((List.getD (upT p (ecS p x0.2.2 x0.1 x6.2) x0.1 x0.2.1 (ecB p x0.2.2 x0.1 x0.2.1 x6.2) x6.1) ((↑x6.1:Int).toNat) []).getD ((↑x0.1:Int).toNat) (0:Int) != (0:Int)) ((l15Echelon_c3 p x6 x0)∧((l15Echelon_c3 p x6 x0)∧((inB (↑x0.1:Int) ((l15Echelon_c1 p x0 x6).length))∧((((twR p (l15Echelon_c1 p x0 x6) (ecS p x0.2.2 x0.1 x6.2))∧(((0:Int) ≤ p - (l15Echelon_c1 p x0 x6).getD ((↑x0.1:Int).toNat) (0:Int))∧((p - (l15Echelon_c1 p x0 x6).getD ((↑x0.1:Int).toNat) (0:Int) ≤ (7:Int))∧(((-100:Int) ≤ (l15Echelon_c1 p x0 x6).getD ((↑x0.1:Int).toNat) (0:Int))∧((l15Echelon_c1 p x0 x6).getD ((↑x0.1:Int).toNat) (0:Int) ≤ (100:Int))))))∧True)∧((l15Echelon_c3 p x6 x0)∧((InR ((↑x6.1:Int) + (1:Int)))∧(∃ x7 : Nat × Nat, (((x0.2.1 ≤ x7.2)∧((x7.2 < x0.2.2.length)∧((x0.1 < ecW R)∧((at2 x0.2.2 (x7.2) x0.1 ≠ (0:Int))∧(x7.1 ≤ x0.2.2.length))))) ∧
 ((x0.2.2.length - x7.1 < x0.2.2.length - x6.1)∧((p = p)∧(((↑x0.2.1:Int) = (↑x0.2.1:Int))∧(((↑(ecW R):Int) = (↑(ecW R):Int))∧(((↑x0.1:Int) = (↑x0.1:Int))∧((ecS p x0.2.2 x0.1 x6.2 = ecS p x0.2.2 x0.1 x7.2)∧(((↑x6.1:Int) + (1:Int) = (↑x7.1:Int))∧(List.set (upT p (ecS p x0.2.2 x0.1 x6.2) x0.1 x0.2.1 (ecB p x0.2.2 x0.1 x0.2.1 x6.2) x6.1) ((↑x6.1:Int).toNat) (stF p (p - (l15Echelon_c1 p x0 x6).getD ((↑x0.1:Int).toNat) (0:Int)) (ecS p x0.2.2 x0.1 x6.2) (l15Echelon_c1 p x0 x6)) = upT p (ecS p x0.2.2 x0.1 x7.2) x0.1 x0.2.1 (ecB p x0.2.2 x0.1 x0.2.1 x7.2) x7.1)))))))))))))))) ((InR ((↑x6.1:Int) + (1:Int)))∧(∃ x8 : Nat × Nat, (((x0.2.1 ≤ x8.2)∧((x8.2 < x0.2.2.length)∧((x0.1 < ecW R)∧((at2 x0.2.2 (x8.2) x0.1 ≠ (0:Int))∧(x8.1 ≤ x0.2.2.length)))))∧((x0.2.2.length - x8.1 < x0.2.2.length - x6.1)∧((p = p)∧(((↑x0.2.1:Int) = (↑x0.2.1:Int))∧(((↑(ecW R):Int) = (↑(ecW R):Int))∧(((↑x0.1:Int) = (↑x0.1:Int))∧((ecS p x0.2.2 x0.1 x6.2 = ecS p x0.2.2 x0.1 x8.2)∧(((↑x6.1:Int) + (1:Int) = (↑x8.1:Int))∧(upT p (ecS p x0.2.2 x0.1 x6.2) x0.1 x0.2.1 (ecB p x0.2.2 x0.1 x0.2.1 x6.2) x6.1 = upT p (ecS p x0.2.2 x0.1 x8.2) x0.1 x0.2.1 (ecB p x0.2.2 x0.1 x0.2.1 x8.2) x8.1)))))))))))))) ((InR ((↑x6.1:Int) + (1:Int)))∧(∃ x9 : Nat × Nat, (((x0.2.1 ≤ x9.2)∧((x9.2 < x0.2.2.length)∧((x0.1 < ecW R)∧((at2 x0.2.2 (x9.2) x0.1 ≠ (0:Int))∧(x9.1 ≤ x0.2.2.length)))))∧((x0.2.2.length - x9.1 < x0.2.2.length - x6.1)∧((p = p)∧(((↑x0.2.1:Int) = (↑x0.2.1:Int))∧(((↑(ecW R):Int) = (↑(ecW R):Int))∧(((↑x0.1:Int) = (↑x0.1:Int)) ∧
 ((ecS p x0.2.2 x0.1 x6.2 = ecS p x0.2.2 x0.1 x9.2)∧(((↑x6.1:Int) + (1:Int) = (↑x9.1:Int))∧(upT p (ecS p x0.2.2 x0.1 x6.2) x0.1 x0.2.1 (ecB p x0.2.2 x0.1 x0.2.1 x6.2) x6.1 = upT p (ecS p x0.2.2 x0.1 x9.2) x0.1 x0.2.1 (ecB p x0.2.2 x0.1 x0.2.1 x9.2) x9.1)))))))))))) ((InR ((↑x0.2.1:Int) + (1:Int)))∧((InR ((↑x0.1:Int) + (1:Int)))∧(∃ x10 : Nat × Nat × List (List Int), (((x10.1 ≤ ecW R)∧(((x10.2.2).length = R.length)∧(EInv p (ecW R) R (x10.2.2) (x10.2.1) (x10.1))))∧((ecW R - x10.1 < ecW R - x0.1)∧((p = p)∧(((↑x0.2.1:Int) + (1:Int) = (↑x10.2.1:Int))∧(((↑(ecW R):Int) = (↑(ecW R):Int))∧(((↑x0.1:Int) + (1:Int) = (↑x10.1:Int))∧(upT p (ecS p x0.2.2 x0.1 x6.2) x0.1 x0.2.1 (ecB p x0.2.2 x0.1 x0.2.1 x6.2) x6.1 = x10.2.2))))))))))))))))))))))))))) (BrP ((↑x2:Int) == (↑(FC.len (FC.rows IntKind.i64 x0.2.2)):Int)) ((InR ((↑x0.1:Int) + (1:Int)))∧(∃ x11 : Nat × Nat × List (List Int), (((x11.1 ≤ ecW R)∧(((x11.2.2).length = R.length)∧(EInv p (ecW R) R (x11.2.2) (x11.2.1) (x11.1))))∧((ecW R - x11.1 < ecW R - x0.1)∧((p = p)∧(((↑x0.2.1:Int) = (↑x11.2.1:Int))∧(((↑(ecW R):Int) = (↑(ecW R):Int))∧(((↑x0.1:Int) + (1:Int) = (↑x11.1:Int))∧(x0.2.2 = x11.2.2))))))))) ((inB (↑x2:Int) (FC.len (FC.rows IntKind.i64 x0.2.2)))∧((inB (↑x0.2.1:Int) (FC.len (FC.rows IntKind.i64 x0.2.2)))∧((inB (↑x2:Int) (FC.len (FC.rows IntKind.i64 x0.2.2)))∧((((0:Int) ≤ (↑(ecW R):Int))∧(((↑(ecW R):Int) ≤ (↑(ecW R):Int))∧(room ((↑(ecW R):Int).toNat))))∧((inB (↑x0.1:Int) ((l15Echelon_c4 x0 x2).length))∧((((primeB p = true) ∧
 (((1:Int) ≤ (l15Echelon_c4 x0 x2).getD ((↑x0.1:Int).toNat) (0:Int))∧((l15Echelon_c4 x0 x2).getD ((↑x0.1:Int).toNat) (0:Int) ≤ p - (1:Int))))∧True)∧((InR (p - ivM p (l15Echelon_c2 x0 x2)))∧((((twR p (l15Echelon_c6 R) (l15Echelon_c4 x0 x2))∧(((0:Int) ≤ p - (p - ivM p (l15Echelon_c2 x0 x2)))∧((p - (p - ivM p (l15Echelon_c2 x0 x2)) ≤ (7:Int))∧(((-100:Int) ≤ p - ivM p (l15Echelon_c2 x0 x2))∧(p - ivM p (l15Echelon_c2 x0 x2) ≤ (100:Int))))))∧True)∧((inB (↑x0.2.1:Int) (FC.len (FC.rows IntKind.i64 (l15Echelon_c5 x0 x2))))∧((∃ x12 : Nat × Nat, (((x0.2.1 ≤ x12.2)∧((x12.2 < x0.2.2.length)∧((x0.1 < ecW R)∧((at2 x0.2.2 (x12.2) x0.1 ≠ (0:Int))∧(x12.1 ≤ x0.2.2.length)))))∧((p = p)∧(((↑x0.2.1:Int) = (↑x0.2.1:Int))∧(((↑(ecW R):Int) = (↑(ecW R):Int))∧(((↑x0.1:Int) = (↑x0.1:Int))∧((stF p (p - (p - ivM p (l15Echelon_c2 x0 x2))) (l15Echelon_c4 x0 x2) (l15Echelon_c6 R) = ecS p x0.2.2 x0.1 x12.2)∧(((0:Int) = (↑x12.1:Int))∧(List.set (l15Echelon_c5 x0 x2) ((↑x0.2.1:Int).toNat) (stF p (p - (p - ivM p (l15Echelon_c2 x0 x2))) (l15Echelon_c4 x0 x2) (l15Echelon_c6 R)) = upT p (ecS p x0.2.2 x0.1 x12.2) x0.1 x0.2.1 (ecB p x0.2.2 x0.1 x0.2.1 x12.2) x12.1)))))))))∧(∀ x13 : Nat × Nat, (((x0.2.1 ≤ x13.2)∧((x13.2 < x0.2.2.length)∧((x0.1 < ecW R)∧((at2 x0.2.2 (x13.2) x0.1 ≠ (0:Int))∧(x13.1 ≤ x0.2.2.length))))) → (BrP (decide ((↑x13.1:Int) < (↑(FC.len (FC.rows IntKind.i64 (upT p (ecS p x0.2.2 x0.1 x13.2) x0.1 x0.2.1 (ecB p x0.2.2 x0.1 x0.2.1 x13.2) x13.1))):Int))) (BrP ((↑x13.1:Int) != (↑x0.2.1:Int))
 ((l15Echelon_c3 p x13 x0)∧((inB (↑x0.1:Int) ((l15Echelon_c1 p x0 x13).length))∧(BrP ((List.getD (upT p (ecS p x0.2.2 x0.1 x13.2) x0.1 x0.2.1 (ecB p x0.2.2 x0.1 x0.2.1 x13.2) x13.1) ((↑x13.1:Int).toNat) []).getD ((↑x0.1:Int).toNat) (0:Int) != (0:Int)) ((l15Echelon_c3 p x13 x0)∧((l15Echelon_c3 p x13 x0)∧((inB (↑x0.1:Int) ((l15Echelon_c1 p x0 x13).length))∧((((twR p (l15Echelon_c1 p x0 x13) (ecS p x0.2.2 x0.1 x13.2))∧(((0:Int) ≤ p - (l15Echelon_c1 p x0 x13).getD ((↑x0.1:Int).toNat) (0:Int))∧((p - (l15Echelon_c1 p x0 x13).getD ((↑x0.1:Int).toNat) (0:Int) ≤ (7:Int))∧(((-100:Int) ≤ (l15Echelon_c1 p x0 x13).getD ((↑x0.1:Int).toNat) (0:Int))∧((l15Echelon_c1 p x0 x13).getD ((↑x0.1:Int).toNat) (0:Int) ≤ (100:Int))))))∧True)∧((l15Echelon_c3 p x13 x0)∧((InR ((↑x13.1:Int) + (1:Int)))∧(∃ x14 : Nat × Nat, (((x0.2.1 ≤ x14.2)∧((x14.2 < x0.2.2.length)∧((x0.1 < ecW R)∧((at2 x0.2.2 (x14.2) x0.1 ≠ (0:Int))∧(x14.1 ≤ x0.2.2.length)))))∧((x0.2.2.length - x14.1 < x0.2.2.length - x13.1)∧((p = p)∧(((↑x0.2.1:Int) = (↑x0.2.1:Int))∧(((↑(ecW R):Int) = (↑(ecW R):Int))∧(((↑x0.1:Int) = (↑x0.1:Int))∧((ecS p x0.2.2 x0.1 x13.2 = ecS p x0.2.2 x0.1 x14.2)∧(((↑x13.1:Int) + (1:Int) = (↑x14.1:Int)) ∧
 (List.set (upT p (ecS p x0.2.2 x0.1 x13.2) x0.1 x0.2.1 (ecB p x0.2.2 x0.1 x0.2.1 x13.2) x13.1) ((↑x13.1:Int).toNat) (stF p (p - (l15Echelon_c1 p x0 x13).getD ((↑x0.1:Int).toNat) (0:Int)) (ecS p x0.2.2 x0.1 x13.2) (l15Echelon_c1 p x0 x13)) = upT p (ecS p x0.2.2 x0.1 x14.2) x0.1 x0.2.1 (ecB p x0.2.2 x0.1 x0.2.1 x14.2) x14.1)))))))))))))))) ((InR ((↑x13.1:Int) + (1:Int)))∧(∃ x15 : Nat × Nat, (((x0.2.1 ≤ x15.2)∧((x15.2 < x0.2.2.length)∧((x0.1 < ecW R)∧((at2 x0.2.2 (x15.2) x0.1 ≠ (0:Int))∧(x15.1 ≤ x0.2.2.length)))))∧((x0.2.2.length - x15.1 < x0.2.2.length - x13.1)∧((p = p)∧(((↑x0.2.1:Int) = (↑x0.2.1:Int))∧(((↑(ecW R):Int) = (↑(ecW R):Int))∧(((↑x0.1:Int) = (↑x0.1:Int))∧((ecS p x0.2.2 x0.1 x13.2 = ecS p x0.2.2 x0.1 x15.2)∧(((↑x13.1:Int) + (1:Int) = (↑x15.1:Int))∧(upT p (ecS p x0.2.2 x0.1 x13.2) x0.1 x0.2.1 (ecB p x0.2.2 x0.1 x0.2.1 x13.2) x13.1 = upT p (ecS p x0.2.2 x0.1 x15.2) x0.1 x0.2.1 (ecB p x0.2.2 x0.1 x0.2.1 x15.2) x15.1)))))))))))))) ((InR ((↑x13.1:Int) + (1:Int)))∧(∃ x16 : Nat × Nat, (((x0.2.1 ≤ x16.2)∧((x16.2 < x0.2.2.length)∧((x0.1 < ecW R)∧((at2 x0.2.2 (x16.2) x0.1 ≠ (0:Int))∧(x16.1 ≤ x0.2.2.length)))))∧((x0.2.2.length - x16.1 < x0.2.2.length - x13.1)∧((p = p)∧(((↑x0.2.1:Int) = (↑x0.2.1:Int))∧(((↑(ecW R):Int) = (↑(ecW R):Int))∧(((↑x0.1:Int) = (↑x0.1:Int))∧((ecS p x0.2.2 x0.1 x13.2 = ecS p x0.2.2 x0.1 x16.2)∧(((↑x13.1:Int) + (1:Int) = (↑x16.1:Int)) ∧
 (upT p (ecS p x0.2.2 x0.1 x13.2) x0.1 x0.2.1 (ecB p x0.2.2 x0.1 x0.2.1 x13.2) x13.1 = upT p (ecS p x0.2.2 x0.1 x16.2) x0.1 x0.2.1 (ecB p x0.2.2 x0.1 x0.2.1 x16.2) x16.1)))))))))))) ((InR ((↑x0.2.1:Int) + (1:Int)))∧((InR ((↑x0.1:Int) + (1:Int)))∧(∃ x17 : Nat × Nat × List (List Int), (((x17.1 ≤ ecW R)∧(((x17.2.2).length = R.length)∧(EInv p (ecW R) R (x17.2.2) (x17.2.1) (x17.1))))∧((ecW R - x17.1 < ecW R - x0.1)∧((p = p)∧(((↑x0.2.1:Int) + (1:Int) = (↑x17.2.1:Int))∧(((↑(ecW R):Int) = (↑(ecW R):Int))∧(((↑x0.1:Int) + (1:Int) = (↑x17.1:Int))∧(upT p (ecS p x0.2.2 x0.1 x13.2) x0.1 x0.2.1 (ecB p x0.2.2 x0.1 x0.2.1 x13.2) x13.1 = x17.2.2)))))))))))))))))))))))))))) ((bdsOk (FC.len (FC.rows IntKind.i64 x0.2.2)) Option.none (Option.some (↑x0.2.1:Int)))∧((List.take ((↑x0.2.1:Int).toNat) (List.drop (0:Nat) x0.2.2) = srtL (imN p R (R.length)))∧True))))
def l15Echelon_V (R : List (List Int)) (p : Int) : Prop :=
 (((roomR R)∧True)∧(BrP (decide ((0:Int) < (↑(R.length):Int))) ((inB (0:Int) (R.length))∧((∃ x0 : Nat × Nat × List (List Int), (((x0.1 ≤ ecW R)∧(((x0.2.2).length = R.length)∧(EInv p (ecW R) R (x0.2.2) (x0.2.1) (x0.1))))∧((p = p)∧(((0:Int) = (↑x0.2.1:Int))∧(((↑((R.getD (0:Nat) []).length):Int) = (↑(ecW R):Int))∧(((0:Int) = (↑x0.1:Int))∧(R = x0.2.2)))))))∧(l15Echelon_V1 R p))) ((∃ x19 : Nat × Nat × List (List Int), (((x19.1 ≤ ecW R)∧(((x19.2.2).length = R.length)∧(EInv p (ecW R) R (x19.2.2) (x19.2.1) (x19.1))))∧((p = p)∧(((0:Int) = (↑x19.2.1:Int))∧(((0:Int) = (↑(ecW R):Int))∧(((0:Int) = (↑x19.1:Int))∧(R = x19.2.2)))))))∧(l15Echelon_V1 R p))))
theorem l15Echelon_vc (R : List (List Int)) (p : Int) : runF Tryz.prog (gam l15Echelon_G) noWr (l15Echelon_ann R p) Tryz.f45 (bodyOf Tryz.f45) [] [.c (.rows .i64 (R)), .c (.int .i64 (p))] (l15Echelon_p R p) = l15Echelon_V R p := by kernel_rfl
theorem l15Echelon_ok (R : List (List Int)) (p : Int) (hpre : (l15Echelon_p R p).pre) : l15Echelon_V R p := by
  simp only [l15Echelon_p, l15Echelon_V, l15Echelon_V1, l15Echelon_c1, l15Echelon_c2, l15Echelon_c3, l15Echelon_c4, l15Echelon_c5, l15Echelon_c6, BrP_iff, u1, u2, u3, u4, u5, u6, u7, u8, u9, v1, v2, v3, v4, v5, v6, v7, v8, v9, w1, w2, w3, w4, markL_length, inB, InR, room, bdsOk] at hpre ⊢
  obtain ⟨hp, ⟨N, hR, N1, N2⟩, hl⟩ := hpre
  obtain ⟨p2, p7⟩ := primeB_le hp
  have hW : ecW R ≤ 512 := by
    unfold ecW
    by_cases h : 0 < R.length
    · have := (hR 0 h).1; omega
    · rw [List.length_eq_zero_iff.1 (by omega : R.length = 0)]; simp
  have hR : rwsP p (ecW R) R := fun i hi => by
    have h0 := (hR 0 (by omega)).1
    have := hR i hi
    rwa [← h0] at this
  have rm : ∀ X : List (List Int), X.length = R.length → rwsP p (ecW R) X → X.length ≤ 1099511627776 ∧ ∀ r ∈ X, r.length ≤ 1099511627776 := fun X hX h => ⟨by omega, fun r hr => by
    obtain ⟨k, hk, e⟩ := List.mem_iff_getElem.1 hr
    have := (h k hk).1
    rw [show X.getD k [] = r by rw [← e]; simp [List.getD, hk]] at this
    omega⟩
  refine ⟨rm R rfl hR, fun h => ⟨by omega, ⟨(0, 0, R), ⟨Nat.zero_le _, rfl, EInv.init hR⟩, rfl, rfl, rfl, rfl⟩, ?_⟩, fun h => ⟨⟨(0, 0, R), ⟨Nat.zero_le _, rfl, EInv.init hR⟩, rfl, ?_, rfl, rfl⟩, ?_⟩⟩
  rotate_left
  · rw [ecW, List.length_eq_zero_iff.1 (by omega : R.length = 0)]; rfl
  all_goals
    rintro ⟨a, d, out⟩ ⟨ha, hl', E⟩
    dsimp only [FC.len] at *
    have dl := E.dl
    refine ⟨fun h1 => ⟨⟨d, ⟨Nat.le_refl _, dl, by omega, fun i h1 h2 => by omega⟩, rfl⟩, fun f ⟨f1, f2, f3, f4⟩ => ⟨fun h3 => ⟨by omega, ?_, fun h4 => ⟨by omega, f + 1, ⟨by omega, by omega, f3, fun i i1 i2 => ?_⟩, by omega, by omega⟩, fun h4 => ⟨fun h5 => by omega, fun h5 => ?_⟩⟩, fun h3 => ⟨fun h4 => ⟨by omega, (a + 1, d, out), ⟨by omega, hl', E.skip fun i i1 i2 => f4 i i1 (by omega)⟩, by omega, rfl, rfl, rfl⟩, fun h4 => by omega⟩⟩⟩, fun h1 => ?_⟩
    · have := (E.row f (by omega)).1; omega
    · rcases Nat.eq_or_lt_of_le (Nat.le_of_lt_succ i2) with e | e
      · rw [e]; exact h4
      · exact f4 i i1 e
    · have rf := E.row f (by omega)
      have rf1 := rf.1
      have c := rf.2 a (by omega)
      have iv := ivM_ok hp (a := (out.getD f []).getD a 0) (by omega) (by omega)
      have S := ecS_ok hp E f1 (by omega) h4
      have S1 := S.1.1
      have st := ec_st (p := p) (out := out) (r := f) (a := a) rf1
      refine ⟨by omega, by omega, by omega, by omega, by omega, ⟨hp, by omega, by omega⟩, by omega, ⟨⟨p2, p7, fun q hq => ?_, rf.2, by rw [List.length_replicate]; omega, by rw [List.length_replicate]; omega⟩, by omega, by omega, by omega, by omega⟩, by simp; omega, ⟨(0, f), ⟨f1, by omega, by omega, h4, by omega⟩, st, rfl, ?_⟩, ?_⟩
      · simp at hq; simp [List.getD, hq]; omega
      · rw [st, upT_zero]; rfl
      · rintro ⟨i, r⟩ ⟨r1, r2, _, r3, r4⟩
        dsimp only [FC.len] at *
        have T := ecS_ok hp E r1 r2 r3
        have T1 := T.1.1
        have BL := ecB_length p out a d r
        have UL := upT_length p (ecS p out a r) a d (ecB p out a d r) i
        refine ⟨fun h6 => ?_, fun h6 => ?_⟩
        · have g := ec_upg (p := p) (s := ecS p out a r) (a := a) (d := d) (B := ecB p out a d r) (i := i) (by omega)
          have rb := ecB_row hp E r1 r2 r3 (i := i) (by omega)
          rw [g]
          have rb1 := rb.1
          have cb := rb.2 a (by omega)
          have up : ((ecB p out a d r).getD i []).getD a 0 = 0 ∨ i = d → upT p (ecS p out a r) a d (ecB p out a d r) i = upT p (ecS p out a r) a d (ecB p out a d r) (i + 1) := fun o => (upT_keep _ _ _ _ _ o.symm).symm
          refine ⟨fun h7 => ⟨by omega, by omega, fun h8 => ⟨by omega, by omega, by omega, ⟨⟨p2, p7, rb.2, T.1.2, by omega, by omega⟩, by omega, by omega, by omega, by omega⟩, by omega, by omega, (i + 1, r), ⟨r1, r2, f3, r3, by omega⟩, by omega, rfl, rfl, ?_⟩, fun h8 => ⟨by omega, (i + 1, r), ⟨r1, r2, f3, r3, by omega⟩, by omega, rfl, rfl, up (.inl h8)⟩⟩, fun h7 => ⟨by omega, (i + 1, r), ⟨r1, r2, f3, r3, by omega⟩, by omega, rfl, rfl, up (.inr (by omega))⟩⟩
          have us := upT_set p (ecS p out a r) a d (ecB p out a d r) (i := i) (by omega) (by omega)
          rw [upR, if_pos h8] at us
          exact us
        · have st := ec_step hp E f3 r1 r2 r3
          have ei : i = out.length := by omega
          subst ei
          exact ⟨by omega, by omega, (a + 1, d + 1, upT p (ecS p out a r) a d (ecB p out a d r) out.length), ⟨by dsimp only; omega, by dsimp only; omega, st⟩, by omega, rfl, rfl, rfl⟩
    · have : a = ecW R := by omega
      subst this
      exact ⟨by omega, red_same hp hR E⟩
theorem l15Echelon_fits : Fits Tryz.prog 45 ⟨[], l15Echelon_ct⟩ := by
  refine ffn (Γ := gam l15Echelon_G) (gok_cons l01Own2_fits (gok_cons l15Less_fits (gok_cons l15Inverse_fits gok_nil))) Tryz.func45 fun ds p h hp => ?_
  unfold l15Echelon_ct at h
  split at h
  · cases h
    exact ⟨noWr, l15Echelon_ann _ _ , by rw [l15Echelon_vc]; exact l15Echelon_ok _ _  hp⟩
  · cases h
end Go.Sx
end
section
section
open Go Go.Proofs
namespace Go.Sx
set_option linter.unusedSimpArgs false
set_option linter.unusedVariables false
theorem pvB_iff {p : Int} {M : Nat} {B : List (List Int)} (h : Rref p M B) (a : Nat) : pvB B a = true ↔ ∃ i, i < B.length ∧ ldN B i = a := by
  unfold pvB
  rw [List.contains_iff_mem, List.mem_map]
  constructor
  · rintro ⟨r, hr, e⟩
    obtain ⟨i, hi, e2⟩ := List.mem_iff_getElem.1 hr
    refine ⟨i, hi, ?_⟩
    rw [ldN, show B.getD i [] = r by rw [← e2]; simp [List.getD, hi], e]
    rfl
  · rintro ⟨i, hi, e⟩
    have n := h.nn i hi
    refine ⟨B.getD i [], by rw [show B.getD i [] = B[i] by simp [List.getD, hi]]; exact List.getElem_mem hi, ?_⟩
    rw [ldN] at e
    omega
theorem Rref.inj {p : Int} {M : Nat} {B : List (List Int)} (h : Rref p M B) {i j : Nat} (hi : i < B.length) (hj : j < B.length) (e : ldN B i = ldN B j) : i = j := by
  rcases Nat.lt_trichotomy i j with g | g | g
  · have := h.inc i j g hj; omega
  · exact g
  · have := h.inc j i g hi; omega
def nfr (B : List (List Int)) (a : Nat) : Nat → Nat
  | 0 => 0
  | s + 1 => nfr B a s + if pvB B (a + s) = true then 0 else 1
theorem nfr_all {p : Int} {M : Nat} {B : List (List Int)} (h : Rref p M B) : nfr B 0 M + B.length = M := by
  have : ∀ a, a ≤ M → ∃ k, k ≤ B.length ∧ (∀ j, j < k → ldN B j < a) ∧ (∀ j, k ≤ j → j < B.length → a ≤ ldN B j) ∧ nfr B 0 a + k = a := fun a => by
    induction a with
    | zero => intro _; exact ⟨0, Nat.zero_le _, fun j hj => by omega, fun j _ _ => Nat.zero_le _, rfl⟩
    | succ a ih =>
      intro ha
      obtain ⟨k, k1, k2, k3, k4⟩ := ih (by omega)
      by_cases g : k < B.length ∧ ldN B k = a
      · have pv : pvB B (0 + a) = true := (pvB_iff h _).2 ⟨k, g.1, by omega⟩
        refine ⟨k + 1, by omega, fun j hj => ?_, fun j hj hl => ?_, ?_⟩
        · by_cases e : j = k
          · subst e; omega
          · have := k2 j (by omega); omega
        · have := h.inc k j (by omega) hl; omega
        · rw [nfr, if_pos pv]; omega
      · have pv : ¬ pvB B (0 + a) = true := fun x => by
          obtain ⟨i, hi, e⟩ := (pvB_iff h _).1 x
          have e : ldN B i = a := by omega
          by_cases w : i < k
          · have := k2 i w; omega
          · by_cases w2 : i = k
            · subst w2; exact g ⟨hi, e⟩
            · have c := h.inc k i (by omega) hi
              have d := k3 k (Nat.le_refl _) (by omega)
              omega
        refine ⟨k, k1, fun j hj => by have := k2 j hj; omega, fun j hj hl => ?_, ?_⟩
        · have a1 := k3 j hj hl
          have a2 : ldN B j ≠ a := fun e => pv ((pvB_iff h _).2 ⟨j, hl, by omega⟩)
          omega
        · rw [nfr, if_neg pv]; omega
  obtain ⟨k, k1, k2, k3, k4⟩ := this M (Nat.le_refl _)
  have : k = B.length := by
    by_cases e : k < B.length
    · have a := k3 k (Nat.le_refl _) e
      have b := h.piv e
      omega
    · omega
  omega
theorem kerN_len (p : Int) (M : Nat) (B : List (List Int)) : ∀ a, (kerN p M B a).length = nfr B 0 a
  | 0 => rfl
  | a + 1 => by
    rw [kerN, nfr, Nat.zero_add]
    split
    · rw [kerN_len p M B a]; omega
    · rw [List.length_append, kerN_len p M B a]; rfl
theorem knS_get {p : Int} {M : Nat} {B : List (List Int)} (a : Nat) {q : Nat} : ∀ i, i ≤ B.length → (∀ j, j < i → ldN B j ≠ q) → ∀ l : List Int, (knS p B a i l).getD q 0 = l.getD q 0
  | 0, _, _, l => rfl
  | i + 1, hi, hn, l => by
    rw [knS]
    have := hn i (by omega)
    rw [show ((knS p B a i l).set (ldN B i) ((p - at2 B i a).tmod p)).getD q 0 = (knS p B a i l).getD q 0 by
      simp only [List.getD_eq_getElem?_getD, List.getElem?_set_ne this]]
    exact knS_get (M := M) a i (by omega) (fun j hj => hn j (by omega)) l
theorem knS_len (p : Int) (B : List (List Int)) (a : Nat) : ∀ i (l : List Int), (knS p B a i l).length = l.length
  | 0, l => rfl
  | i + 1, l => by rw [knS, List.length_set, knS_len p B a i l]
theorem knS_piv {p : Int} {M : Nat} {B : List (List Int)} (h : Rref p M B) (a : Nat) {j : Nat} : ∀ i, i ≤ B.length → j < i → ∀ l : List Int, l.length = M → (knS p B a i l).getD (ldN B j) 0 = (p - at2 B j a).tmod p
  | 0, _, hj, _, _ => by omega
  | i + 1, hi, hj, l, hl => by
    rw [knS]
    have pv := h.piv (k := j) (by omega)
    rw [getD_set _ _ _ _ (by rw [knS_len, hl]; exact pv)]
    by_cases e : j = i
    · subst e; rw [if_pos rfl]
    · rw [if_neg (fun x => e (h.inj (by omega) (by omega) x))]
      exact knS_piv h a i (by omega) (by omega) l hl
theorem one_get {M a q : Nat} (hq : q < M) : ((List.replicate M (0 : Int)).set a 1).getD q 0 = if q = a then 1 else 0 := by
  rw [getD_set _ _ _ _ (by simpa using hq)]
  by_cases e : q = a
  · rw [if_pos e, if_pos e]
  · rw [if_neg e, if_neg e]; simp [List.getD, hq]
theorem knL_free {p : Int} {M : Nat} {B : List (List Int)} (h : Rref p M B) (a : Nat) {q : Nat} (hq : q < M) (hf : ¬ pvB B q = true) : (knL p M B a).getD q 0 = if q = a then 1 else 0 := by
  rw [knL, knS_get (M := M) a B.length (Nat.le_refl _) (fun j hj e => hf ((pvB_iff h q).2 ⟨j, hj, e⟩)), one_get hq]
theorem knL_piv {p : Int} {M : Nat} {B : List (List Int)} (h : Rref p M B) (a : Nat) {j : Nat} (hj : j < B.length) : (knL p M B a).getD (ldN B j) 0 = (p - at2 B j a).tmod p := by
  rw [knL, knS_piv h a B.length (Nat.le_refl _) hj _ (by simp)]
theorem kerN_at (p : Int) (M : Nat) (B : List (List Int)) : ∀ a, ∃ P : Nat → Nat, ∀ i, i < (kerN p M B a).length → P i < a ∧ ¬ pvB B (P i) = true ∧ (kerN p M B a).getD i [] = knL p M B (P i) ∧ ∀ j, j < i → P j < P i
  | 0 => ⟨fun _ => 0, fun i hi => by simp [kerN] at hi⟩
  | a + 1 => by
    obtain ⟨P, hP⟩ := kerN_at p M B a
    unfold kerN
    split
    · exact ⟨P, fun i hi => ⟨by have := (hP i hi).1; omega, (hP i hi).2⟩⟩
    · rename_i hf
      refine ⟨fun i => if i < (kerN p M B a).length then P i else a, fun i hi => ?_⟩
      by_cases e : i < (kerN p M B a).length
      · obtain ⟨p1, p2, p3, p4⟩ := hP i e
        simp only [if_pos e]
        refine ⟨by omega, p2, by rw [snoc_get _ _ e]; exact p3, fun j hj => ?_⟩
        rw [if_pos (by omega)]; exact p4 j hj
      · have : i = (kerN p M B a).length := by simp at hi; omega
        simp only [if_neg e]
        refine ⟨by omega, hf, by rw [this]; simp [List.getD], fun j hj => ?_⟩
        rw [if_pos (by omega)]
        exact (hP j (by omega)).1
theorem imN_indep {p : Int} (hp : primeB p = true) {M : Nat} {K : List (List Int)} (hK : rwsP p M K) (P : Nat → Nat) (hP : ∀ i, i < K.length → P i < M ∧ at2 K i (P i) = 1 ∧ ∀ j, j < i → at2 K j (P i) = 0) : ∀ i, i ≤ K.length → (imN p K i).length = i
  | 0, _ => rfl
  | i + 1, hi => by
    obtain ⟨p2, _⟩ := primeB_le hp
    have ih := imN_indep hp hK P hP i (by omega)
    obtain ⟨F, S⟩ := imN_ok hp hK i (by omega)
    have row := hK i (by omega)
    obtain ⟨a1, a2, a3⟩ := hP i (by omega)
    have z := red_zero p2 F.bas row
    simp only [imN]
    split
    · rename_i hlt
      obtain ⟨c, hc⟩ := (S _).1 (z.1 hlt)
      have := hc (P i) a1
      have e0 : sm (fun k => c k * at2 (K.take i) k (P i)) (K.take i).length = 0 := by
        rw [sm_ext (g := fun k => 0 * 0) fun k hk => by
          rw [List.length_take] at hk
          rw [show at2 (K.take i) k (P i) = at2 K k (P i) by
            unfold at2
            rw [show (K.take i).getD k [] = K.getD k [] by simp only [List.getD_eq_getElem?_getD, List.getElem?_take_of_lt (show k < i by omega)]], a3 k (by omega)]
          simp, sm_mul]
        simp
      rw [e0, Int.sub_zero] at this
      rw [show (fun q => (K.getD i []).getD q 0) (P i) = 1 from a2] at this
      have := Int.le_of_dvd (by omega) this
      omega
    · rw [List.length_append, List.length_map, ih]; rfl
theorem cba_len {p : Int} (hp : primeB p = true) {M : Nat} {R : List (List Int)} (hR : rwsP p M R) : (cbaL p M R).length = nfr (srtL (imN p R R.length)) 0 M := by
  obtain ⟨p2, _⟩ := primeB_le hp
  obtain ⟨H, _⟩ := red_rref hp hR
  unfold cbaL
  dsimp only
  generalize hB : srtL (imN p R R.length) = B at *
  obtain ⟨P, hP⟩ := kerN_at p M B M
  have hK := (kerN_rws p2 (fun i hi => H.row i hi) M (Nat.le_refl _)).1
  rw [srtL_len, imN_indep hp hK P (fun i hi => ?_) _ (Nat.le_refl _), kerN_len]
  obtain ⟨p1, p2, p3, p4⟩ := hP i hi
  refine ⟨p1, ?_, fun j hj => ?_⟩
  · rw [at2, p3, knL_free H _ p1 p2, if_pos rfl]
  · have q := hP j (by omega)
    rw [at2, q.2.2.1, knL_free H _ p1 p2, if_neg (by have := p4 j hj; omega)]
theorem ort_span {p : Int} {M : Nat} {B : List (List Int)} {f v : Nat → Int} (h : ∀ k, k < B.length → p ∣ sm (fun q => at2 B k q * f q) M) (hv : SpP p M B v) : p ∣ sm (fun q => v q * f q) M := by
  obtain ⟨c, hc⟩ := hv
  have A : ∀ n, n ≤ B.length → p ∣ sm (fun q => sm (fun k => c k * at2 B k q) n * f q) M := fun n => by
    induction n with
    | zero =>
      intro _
      rw [sm_ext (g := fun q => 0 * 0) fun q _ => by simp [sm], sm_mul]; simp
    | succ n ih =>
      intro hn
      rw [sm_ext (g := fun q => sm (fun k => c k * at2 B k q) n * f q + c n * (at2 B n q * f q)) fun q _ => by
        simp only [sm]; rw [Int.add_mul, Int.mul_assoc], sm_add, sm_mul]
      exact Int.dvd_add (ih (by omega)) (Int.dvd_mul_of_dvd_right (h n (by omega)))
  have D := sm_mod (p := p) (fun q => v q * f q) (fun q => sm (fun k => c k * at2 B k q) B.length * f q) M fun q hq => by
    rw [← Int.sub_mul]
    exact Int.dvd_mul_of_dvd_left (hc q hq)
  have := Int.dvd_add D (A B.length (Nat.le_refl _))
  rwa [Int.sub_add_cancel] at this
theorem ort_same {p : Int} {M : Nat} {B R : List (List Int)} {f : Nat → Int} (he : ∀ v, SpP p M B v ↔ SpP p M R v) : (∀ k, k < B.length → p ∣ sm (fun q => at2 B k q * f q) M) ↔ ∀ k, k < R.length → p ∣ sm (fun q => at2 R k q * f q) M :=
  ⟨fun h _ hk => ort_span h ((he _).2 (sp_mem hk)), fun h _ hk => ort_span h ((he _).1 (sp_mem hk))⟩
theorem knL_ort {p : Int} (hp : 2 ≤ p) {M : Nat} {B : List (List Int)} (h : Rref p M B) {a : Nat} (ha : a < M) (hf : ¬ pvB B a = true) {i : Nat} (hi : i < B.length) : p ∣ sm (fun q => at2 B i q * (knL p M B a).getD q 0) M := by
  have row := h.row i hi
  have c : 0 ≤ at2 B i a ∧ at2 B i a ≤ p - 1 := row.2 a (by rw [row.1]; exact ha)
  have ne : ldN B i ≠ a := fun e => hf ((pvB_iff h a).2 ⟨i, hi, e⟩)
  rw [sm_ext (g := fun q => (if q = a then at2 B i a else 0) + if q = ldN B i then (p - at2 B i a).tmod p else 0) fun q hq => ?_, sm_add, sm_delta, sm_delta, if_pos ha, if_pos (h.piv hi)]
  · rw [Int.tmod_eq_emod_of_nonneg (by omega)]
    have d := Int.emod_add_mul_ediv (p - at2 B i a) p
    refine ⟨1 - (p - at2 B i a) / p, ?_⟩
    rw [Int.mul_sub, Int.mul_one]; omega
  · by_cases g : pvB B q = true
    · obtain ⟨j, hj, e⟩ := (pvB_iff h q).1 g
      have qa : q ≠ a := fun x => hf (x ▸ g)
      rw [if_neg qa, Int.zero_add, ← e, knL_piv h a hj]
      by_cases w : i = j
      · subst w; rw [h.one i hi, Int.one_mul, if_pos rfl]
      · rw [h.all i j w hi hj, Int.zero_mul, if_neg (fun x => w (h.inj hi hj x.symm))]
    · rw [knL_free h a hq g]
      have w : q ≠ ldN B i := fun x => g ((pvB_iff h q).2 ⟨i, hi, x.symm⟩)
      rw [if_neg w, Int.add_zero]
      by_cases qa : q = a
      · subst qa; rw [if_pos rfl, if_pos rfl, Int.mul_one]
      · rw [if_neg qa, if_neg qa, Int.mul_zero]
theorem cba_ort {p : Int} (hp : primeB p = true) {M : Nat} {R : List (List Int)} (hR : rwsP p M R) {j : Nat} (hj : j < (cbaL p M R).length) : rwP p M ((cbaL p M R).getD j []) ∧ ∀ i, i < R.length → p ∣ sm (fun q => at2 R i q * at2 (cbaL p M R) j q) M := by
  obtain ⟨p2, _⟩ := primeB_le hp
  obtain ⟨H, E⟩ := red_rref hp hR
  unfold cbaL at *
  dsimp only at *
  generalize hB : srtL (imN p R R.length) = B at *
  have hK := (kerN_rws p2 (fun i hi => H.row i hi) M (Nat.le_refl _)).1
  obtain ⟨P, hP⟩ := kerN_at p M B M
  obtain ⟨H2, E2⟩ := red_rref hp hK
  generalize hC : srtL (imN p (kerN p M B M) (kerN p M B M).length) = C at *
  refine ⟨H2.row j hj, (ort_same E).1 fun k hk => ?_⟩
  rw [sm_ext (g := fun q => at2 C j q * at2 B k q) fun q _ => Int.mul_comm _ _]
  refine ort_span (B := kerN p M B M) (fun i hi => ?_) ((E2 _).1 (sp_mem hj))
  obtain ⟨q1, q2, q3, _⟩ := hP i hi
  rw [sm_ext (g := fun q => at2 B k q * (knL p M B (P i)).getD q 0) fun q _ => by rw [at2, q3, Int.mul_comm]]
  exact knL_ort p2 H q1 q2 hk
end Go.Sx
end
section
open Go Go.Proofs
namespace Go.Sx
set_option linter.unusedSimpArgs false
set_option linter.unusedVariables false
theorem firstO_none {α : Type} {n : Nat} {q : Nat → Option α} : ∀ {k : Nat}, k ≤ n → (firstO n q k = none ↔ ∀ i, n - k ≤ i → i < n → q i = none)
  | 0, _ => ⟨fun _ i h1 h2 => by omega, fun _ => rfl⟩
  | k + 1, hk => by
    have ih := firstO_none (q := q) (show k ≤ n by omega)
    rw [firstO]
    constructor
    · intro h i h1 h2
      have a : q (n - (k + 1)) = none := by
        cases e : q (n - (k + 1)) with
        | none => rfl
        | some v => rw [e] at h; cases h
      rw [a] at h
      by_cases e : i = n - (k + 1)
      · rw [e]; exact a
      · exact ih.1 h i (by omega) h2
    · intro h
      rw [h (n - (k + 1)) (Nat.le_refl _) (by omega)]
      exact ih.2 fun i h1 h2 => h i (by omega) h2
theorem firstO_none' {α : Type} {n : Nat} {q : Nat → Option α} : firstO n q n = none ↔ ∀ i, i < n → q i = none := by
  rw [firstO_none (Nat.le_refl n)]
  exact ⟨fun h i hi => h i (by omega) hi, fun h i _ hi => h i hi⟩
theorem rcF_none {t : List (List Int)} {m : Int} {f : List (List Int)} : (rcF t m f).isNone = true ↔ ∀ x, x < t.length → ∀ y, y < t.length → ∀ z, z < t.length → (en f y z + en f x (en t y z).toNat).tmod m = (en f x z + en f (en t x y).toNat (en t x z).toNat).tmod m := by
  rw [Option.isNone_iff_eq_none, rcF, firstO_none']
  refine forall_congr' fun x => forall_congr' fun _ => ?_
  rw [rcX, firstO_none']
  refine forall_congr' fun y => forall_congr' fun _ => ?_
  rw [rcY, firstO_none']
  refine forall_congr' fun z => forall_congr' fun _ => ?_
  unfold rcZ
  constructor
  · intro h
    split at h
    · assumption
    · cases h
  · intro h
    rw [if_pos h]
theorem dot_sm (a b : List Int) : ∀ n, dotN a b n = sm (fun q => a.getD q 0 * b.getD q 0) n
  | 0 => rfl
  | n + 1 => by rw [dotN, sm, dot_sm a b n]
theorem dot_bump {p s : Int} {a b M : Nat} {c : List Int} (hp : 1 ≤ p) (hs : 0 ≤ s ∧ s ≤ p - 1) (hc : inP p c) (hl : c.length = M) (ha : a < M) (hb : b < M) (f : Nat → Int) :
    p ∣ sm (fun q => (bump p s a b c).getD q 0 * f q) M - (sm (fun q => c.getD q 0 * f q) M + s * f a - s * f b) := by
  have e : sm (fun q => c.getD q 0 * f q) M + s * f a - s * f b = sm (fun q => (c.getD q 0 + (if q = a then s else 0) - (if q = b then s else 0)) * f q) M := by
    have E : ∀ q, (c.getD q 0 + (if q = a then s else 0) - (if q = b then s else 0)) * f q = (c.getD q 0 * f q + if q = a then s * f a else 0) + (-1) * (if q = b then s * f b else 0) := fun q => by
      have e1 : (if q = a then s else 0) * f q = if q = a then s * f a else 0 := by
        by_cases h : q = a
        · rw [if_pos h, if_pos h, h]
        · rw [if_neg h, if_neg h, Int.zero_mul]
      have e2 : (if q = b then s else 0) * f q = if q = b then s * f b else 0 := by
        by_cases h : q = b
        · rw [if_pos h, if_pos h, h]
        · rw [if_neg h, if_neg h, Int.zero_mul]
      rw [Int.sub_mul, Int.add_mul, e1, e2]
      omega
    rw [show sm (fun q => (c.getD q 0 + (if q = a then s else 0) - (if q = b then s else 0)) * f q) M = _ from sm_ext fun q _ => E q, sm_add, sm_add, sm_mul, sm_delta, sm_delta, if_pos ha, if_pos hb]
    omega
  rw [e]
  refine sm_mod _ _ _ fun q hq => ?_
  rw [← Int.sub_mul]
  exact Int.dvd_mul_of_dvd_left (bump_mod hp hs hc q (by omega))
theorem plc2 (n a b : Int) : plc n [a, b] = a * n + b := by simp [plc]
theorem sqr_lt {n x y : Nat} (hx : x < n) (hy : y < n) : x * n + y < n * n := by
  have := Nat.mul_le_mul_right n (show x + 1 ≤ n by omega)
  rw [Nat.succ_mul] at this
  omega
theorem plc_nat (n x y : Nat) : (plc (n : Int) [(x : Int), (y : Int)]).toNat = x * n + y := by
  rw [plc2]
  have : (x : Int) * n + y = ((x * n + y : Nat) : Int) := by simp
  rw [this]; rfl
theorem pt3_dot {t : List (List Int)} (ht : tabB t = true) {p : Int} (hp : 2 ≤ p) {x y z : Nat} (hx : x < t.length) (hy : y < t.length) (hz : z < t.length) (f : Nat → Int) :
    p ∣ sm (fun q => (ptF t p [(x : Int), (y : Int), (z : Int)] 3).getD q 0 * f q) (t.length * t.length) +
      (f (y * t.length + z) + f (x * t.length + (en t y z).toNat) - f (x * t.length + z) - f ((en t x y).toNat * t.length + (en t x z).toNat)) := by
  obtain ⟨n1, n2, tt⟩ := tabB_of ht
  have v : ∀ a b, a < t.length → b < t.length → 0 ≤ en t a b ∧ (en t a b).toNat < t.length := fun a b ha hb => by
    have := (tt a ha).2 b hb
    unfold en; omega
  have vy := v y z hy hz
  have vx := v x y hx hy
  have vz := v x z hx hz
  have len : ∀ i, (ptF t p [(x : Int), (y : Int), (z : Int)] i).length = t.length * t.length := fun i => by rw [ptF_length]; simp [Nat.pow_succ]
  have A0 : pa t [(x : Int), (y : Int), (z : Int)] 0 = y * t.length + z := plc_nat _ y z
  have A1 : pa t [(x : Int), (y : Int), (z : Int)] 1 = x * t.length + z := plc_nat _ x z
  have A2 : pa t [(x : Int), (y : Int), (z : Int)] 2 = x * t.length + y := plc_nat _ x y
  have c0 : ∀ a b : Nat, a < t.length → b < t.length → en t a b = (((en t a b).toNat : Nat) : Int) := fun a b ha hb => by have := v a b ha hb; omega
  have B0 : pb t [(x : Int), (y : Int), (z : Int)] 0 = (en t x y).toNat * t.length + (en t x z).toNat := by
    have : mvk t (x : Int) 0 2 [(y : Int), (z : Int)] = [(((en t x y).toNat : Nat) : Int), (((en t x z).toNat : Nat) : Int)] := by
      rw [← c0 x y hx hy, ← c0 x z hx hz]; rfl
    show (plc _ (mvk t (x : Int) 0 2 [(y : Int), (z : Int)])).toNat = _
    rw [this, plc_nat]
  have B1 : pb t [(x : Int), (y : Int), (z : Int)] 1 = x * t.length + (en t y z).toNat := by
    have : mvk t (y : Int) 1 2 [(x : Int), (z : Int)] = [(x : Int), (((en t y z).toNat : Nat) : Int)] := by
      rw [← c0 y z hy hz]; rfl
    show (plc _ (mvk t (y : Int) 1 2 [(x : Int), (z : Int)])).toNat = _
    rw [this, plc_nat]
  have B2 : pb t [(x : Int), (y : Int), (z : Int)] 2 = x * t.length + y := by
    show (plc _ (mvk t (z : Int) 2 2 [(x : Int), (y : Int)])).toNat = _
    rw [mvk_none, plc_nat]
  have S0 := dot_bump (by omega) (sgS_in hp 0) (ptF_in t hp [(x : Int), (y : Int), (z : Int)] 0) (len 0) (a := pa t [(x : Int), (y : Int), (z : Int)] 0) (b := pb t [(x : Int), (y : Int), (z : Int)] 0) (by rw [A0]; exact sqr_lt hy hz) (by rw [B0]; exact sqr_lt vx.2 vz.2) f
  have S1 := dot_bump (by omega) (sgS_in hp 1) (ptF_in t hp [(x : Int), (y : Int), (z : Int)] 1) (len 1) (a := pa t [(x : Int), (y : Int), (z : Int)] 1) (b := pb t [(x : Int), (y : Int), (z : Int)] 1) (by rw [A1]; exact sqr_lt hx hz) (by rw [B1]; exact sqr_lt hx vy.2) f
  have S2 := dot_bump (by omega) (sgS_in hp 2) (ptF_in t hp [(x : Int), (y : Int), (z : Int)] 2) (len 2) (a := pa t [(x : Int), (y : Int), (z : Int)] 2) (b := pb t [(x : Int), (y : Int), (z : Int)] 2) (by rw [A2]; exact sqr_lt hx hy) (by rw [B2]; exact sqr_lt hx hy) f
  have Z : sm (fun q => (ptF t p [(x : Int), (y : Int), (z : Int)] 0).getD q 0 * f q) (t.length * t.length) = 0 := by
    rw [sm_ext (g := fun q => 0 * 0) fun q hq => by
      have : (ptF t p [(x : Int), (y : Int), (z : Int)] 0).getD q 0 = 0 := by simp only [ptF]; simp [List.getD_eq_getElem?_getD, List.getElem?_replicate]; split <;> rfl
      rw [this]; simp, sm_mul]; simp
  have P1 : bump p (sgS p 0) (pa t [(x : Int), (y : Int), (z : Int)] 0) (pb t [(x : Int), (y : Int), (z : Int)] 0) (ptF t p [(x : Int), (y : Int), (z : Int)] 0) = ptF t p [(x : Int), (y : Int), (z : Int)] 1 := rfl
  have P2 : bump p (sgS p 1) (pa t [(x : Int), (y : Int), (z : Int)] 1) (pb t [(x : Int), (y : Int), (z : Int)] 1) (ptF t p [(x : Int), (y : Int), (z : Int)] 1) = ptF t p [(x : Int), (y : Int), (z : Int)] 2 := rfl
  have P3 : bump p (sgS p 2) (pa t [(x : Int), (y : Int), (z : Int)] 2) (pb t [(x : Int), (y : Int), (z : Int)] 2) (ptF t p [(x : Int), (y : Int), (z : Int)] 2) = ptF t p [(x : Int), (y : Int), (z : Int)] 3 := rfl
  rw [P1, Z, A0, B0, show sgS p 0 = p - 1 from rfl] at S0
  rw [P2, A1, B1, show sgS p 1 = 1 from rfl] at S1
  rw [P3, A2, B2, show sgS p 2 = p - 1 from rfl] at S2
  have T := Int.dvd_add (Int.dvd_add S0 S1) S2
  have U : p ∣ p * (f (y * t.length + z) - f ((en t x y).toNat * t.length + (en t x z).toNat)) := ⟨_, rfl⟩
  have W := Int.dvd_add T U
  rw [Int.mul_sub] at W
  simp only [Int.sub_mul, Int.one_mul] at W
  refine (show ∀ a b : Int, a = b → p ∣ a → p ∣ b from fun a b e h => e ▸ h) _ _ ?_ W
  omega
theorem dig3 {n x y z : Nat} (hx : x < n) (hy : y < n) (hz : z < n) : digN (n : Int) 3 (((x * n + y) * n + z : Nat) : Int) = [(x : Int), (y : Int), (z : Int)] := by
  have a : ∀ u v : Nat, v < n → (((u * n + v : Nat) : Int)).tdiv (n : Int) = (u : Int) ∧ (((u * n + v : Nat) : Int)).tmod (n : Int) = (v : Int) := fun u v hv => by
    rw [Int.tdiv_eq_ediv_of_nonneg (by omega), Int.tmod_eq_emod_of_nonneg (by omega)]
    constructor
    · have : (u * n + v) / n = u := by rw [Nat.mul_comm, Nat.mul_add_div (by omega), Nat.div_eq_of_lt hv, Nat.add_zero]
      exact_mod_cast this
    · have : (u * n + v) % n = v := by rw [Nat.mul_comm, Nat.mul_add_mod, Nat.mod_eq_of_lt hv]
      exact_mod_cast this
  have b := a 0 x hx
  rw [Nat.zero_mul, Nat.zero_add] at b
  simp only [digN, (a (x * n + y) z hz).1, (a (x * n + y) z hz).2, (a x y hy).1, (a x y hy).2, b.1, b.2, List.nil_append, List.cons_append]
theorem cube_lt {n x y z : Nat} (hx : x < n) (hy : y < n) (hz : z < n) : (x * n + y) * n + z < n * n * n := by
  have a := sqr_lt hx hy
  have := Nat.mul_le_mul_right n (show x * n + y + 1 ≤ n * n by omega)
  rw [Nat.succ_mul] at this
  omega
theorem cube_of {n i : Nat} (h : i < n * n * n) : ∃ x y z, x < n ∧ y < n ∧ z < n ∧ i = (x * n + y) * n + z := by
  have n0 : 0 < n := by
    rcases Nat.eq_zero_or_pos n with e | e
    · subst e; simp at h
    · exact e
  refine ⟨i / n / n, i / n % n, i % n, ?_, Nat.mod_lt _ n0, Nat.mod_lt _ n0, ?_⟩
  · exact Nat.div_lt_of_lt_mul (Nat.div_lt_of_lt_mul (by rw [Nat.mul_assoc] at h; exact h))
  · have a := Nat.div_add_mod (i / n) n
    have b := Nat.div_add_mod i n
    rw [Nat.mul_comm (i / n / n) n, a, Nat.mul_comm, b]
theorem rc_coc {t : List (List Int)} (ht : tabB t = true) {p : Int} (hp : 2 ≤ p) {f : List (List Int)} {g : Nat → Int} (hg : ∀ x y, x < t.length → y < t.length → en f x y = g (x * t.length + y) ∧ 0 ≤ en f x y) :
    (rcF t p f).isNone = true ↔ ∀ i, i < t.length * t.length * t.length → p ∣ sm (fun q => (crF t p i).getD q 0 * g q) (t.length * t.length) := by
  obtain ⟨n1, n2, tt⟩ := tabB_of ht
  have v : ∀ a b, a < t.length → b < t.length → (en t a b).toNat < t.length := fun a b ha hb => by
    have := (tt a ha).2 b hb
    unfold en; omega
  have key : ∀ x y z, x < t.length → y < t.length → z < t.length → ((en f y z + en f x (en t y z).toNat).tmod p = (en f x z + en f (en t x y).toNat (en t x z).toNat).tmod p ↔
      p ∣ sm (fun q => (crF t p ((x * t.length + y) * t.length + z)).getD q 0 * g q) (t.length * t.length)) := fun x y z hx hy hz => by
    have D := pt3_dot ht hp hx hy hz g
    have c : crF t p ((x * t.length + y) * t.length + z) = ptF t p [(x : Int), (y : Int), (z : Int)] 3 := by rw [crF, dig3 hx hy hz]
    have g1 := hg y z hy hz
    have g2 := hg x (en t y z).toNat hx (v y z hy hz)
    have g3 := hg x z hx hz
    have g4 := hg (en t x y).toNat (en t x z).toNat (v x y hx hy) (v x z hx hz)
    rw [c, Int.tmod_eq_emod_of_nonneg (by omega), Int.tmod_eq_emod_of_nonneg (by omega), Int.emod_eq_emod_iff_emod_sub_eq_zero, ← Int.dvd_iff_emod_eq_zero]
    rw [← g1.1, ← g2.1, ← g3.1, ← g4.1] at D
    generalize sm (fun q => (ptF t p [(x : Int), (y : Int), (z : Int)] 3).getD q 0 * g q) (t.length * t.length) = S at *
    constructor
    · intro h
      have := Int.dvd_sub D h
      refine (show ∀ a b : Int, a = b → p ∣ a → p ∣ b from fun a b e h => e ▸ h) _ _ ?_ this
      omega
    · intro h
      have := Int.dvd_sub D h
      refine (show ∀ a b : Int, a = b → p ∣ a → p ∣ b from fun a b e h => e ▸ h) _ _ ?_ this
      omega
  rw [rcF_none]
  constructor
  · intro h i hi
    obtain ⟨x, y, z, hx, hy, hz, rfl⟩ := cube_of hi
    exact (key x y z hx hy hz).1 (h x hx y hy z hz)
  · intro h x hx y hy z hz
    exact (key x y z hx hy hz).2 (h _ (cube_lt hx hy hz))
theorem crF_rw {t : List (List Int)} {p : Int} (hp : 2 ≤ p) (i : Nat) : rwP p (t.length * t.length) (crF t p i) := ⟨crF_length t p i, ptF_in t hp _ 3⟩
theorem crows_rws {t : List (List Int)} {p : Int} (hp : 2 ≤ p) : rwsP p (t.length * t.length) (crows t p) := fun i hi => by
  rw [crows_length] at hi
  rw [crows_getD t p i hi]
  exact crF_rw hp i
end Go.Sx
end
end
section
open Go Go.Proofs
namespace Go.Sx
set_option linter.unusedSimpArgs false
set_option linter.unusedVariables false
def kbB (t : List (List Int)) (p : Int) : List (List Int) := srtL (imN p (crows t p) (crows t p).length)
def kbL (t : List (List Int)) (p : Int) : List (List Int) := cbaL p (t.length * t.length) (crows t p)
def kbC (t : List (List Int)) (p : Int) : List (List Int) × Int :=
  if rackB t = true then (if primeB p = true then (if degB t.length 3 = true then (kbL t p, 0) else ([], 3)) else ([], 2)) else ([], 1)
def kbK (t : List (List Int)) (p : Int) (a : Nat) : List (List Int) := kerN p (t.length * t.length) (kbB t p) a
theorem kbC_a {t : List (List Int)} {p : Int} (h : dgC t p 2 ≠ 0) : [] = (kbC t p).1 ∧ dgC t p 2 = (kbC t p).2 := by
  unfold dgC at h ⊢
  unfold kbC
  by_cases hr : rackB t = true
  · rw [if_pos hr] at h ⊢
    rw [if_pos hr]
    by_cases hd : dgB t p 2 = true
    · rw [if_pos hd] at h; exact absurd rfl h
    · rw [if_neg hd]
      have : ¬ primeB p = true := fun hp => hd (by
        have n2 := (tabB_of (rackB_tab hr)).2.1
        have : (t.length : Int) ^ (2 : Int).toNat ≤ 512 := by
          have := sq_le n2
          rw [← Int.natCast_pow]
          have e : t.length ^ (2 : Int).toNat = t.length * t.length := by simp [Nat.pow_succ]
          rw [e]; omega
        simp only [dgB, hp, degB, Bool.true_and, Bool.and_eq_true, decide_eq_true_eq]
        exact ⟨by omega, this⟩)
      rw [if_neg this]; exact ⟨rfl, rfl⟩
  · rw [if_neg hr, if_neg hr]; exact ⟨rfl, rfl⟩
theorem kbC_b {t : List (List Int)} {p : Int} (hr : rackB t = true) (hp : primeB p = true) (hd : degB t.length 3 = false) : kbC t p = ([], 3) := by simp [kbC, hr, hp, hd]
theorem kbC_c {t : List (List Int)} {p : Int} (hr : rackB t = true) (hp : primeB p = true) (hd : degB t.length 3 = true) : kbC t p = (kbL t p, 0) := by simp [kbC, hr, hp, hd]
theorem kbC_d {t : List (List Int)} {p : Int} (hr : rackB t = false) : kbC t p = ([], 1) := by simp [kbC, hr]
theorem kbC_e {t : List (List Int)} {p : Int} (hr : rackB t = true) (hp : primeB p = false) : kbC t p = ([], 2) := by simp [kbC, hr, hp]
structure KbOk (t : List (List Int)) (p : Int) : Prop where
  tab : tabB t = true
  n1 : 1 ≤ t.length
  n8 : t.length ≤ 8
  sq : t.length * t.length ≤ 64
  sq1 : 1 ≤ t.length * t.length
  cu : t.length * t.length * t.length ≤ 512
  p2 : 2 ≤ p
  p7 : p ≤ 7
  rws : rwsP p (t.length * t.length) (crows t p)
  ref : Rref p (t.length * t.length) (kbB t p)
  len : (kbB t p).length ≤ 64
  ker : ∀ a, a ≤ t.length * t.length → rwsP p (t.length * t.length) (kbK t p a) ∧ (kbK t p a).length ≤ a
theorem kb_ok {t : List (List Int)} {p : Int} (hr : rackB t = true) (hp : primeB p = true) (hd : degB t.length 3 = true) : KbOk t p := by
  have ht := rackB_tab hr
  obtain ⟨n1, n2, _⟩ := tabB_of ht
  obtain ⟨_, _, d⟩ := degB_of hd
  have n8 : t.length ≤ 8 := by
    have e : ((t.length : Int)) ^ (3 : Int).toNat = ((t.length * t.length * t.length : Nat) : Int) := by rw [← Int.natCast_pow]; simp [Nat.pow_succ]
    rw [e] at d
    have a : t.length < 9 := by
      refine Nat.lt_of_not_le fun h => ?_
      have b := Nat.mul_le_mul (Nat.mul_le_mul h h) h
      omega
    omega
  obtain ⟨p2, p7⟩ := primeB_le hp
  have rws := crows_rws (t := t) p2
  have ref := (red_rref hp rws).1
  have sq : t.length * t.length ≤ 64 := Nat.mul_le_mul n8 n8
  have all := nfr_all ref
  exact ⟨ht, n1, n8, sq, Nat.mul_le_mul n1 n1, Nat.mul_le_mul sq n8, p2, p7, rws, ref, by unfold kbB; omega, fun a ha => kerN_rws p2 (fun i hi => ref.row i hi) a ha⟩
theorem kb_sum {p : Int} {N : Nat} {B : List (List Int)} (h : rwsP p N B) : sumL B = B.length * N := by
  have : ∀ i, i ≤ B.length → sumL (B.take i) = i * N := fun i => by
    induction i with
    | zero => intro _; simp [sumL]
    | succ i ih =>
      intro hi
      rw [sumL_take B i (by omega), ih (by omega), (h i (by omega)).1, Nat.succ_mul]
  have := this B.length (Nat.le_refl _)
  rwa [List.take_length] at this
theorem kb_room {p : Int} {N : Nat} {B : List (List Int)} (h : rwsP p N B) (hN : N ≤ 64) (hl : B.length ≤ 64) : roomR B :=
  ⟨by omega, fun r hr => by
    obtain ⟨k, hk, e⟩ := List.mem_iff_getElem.1 hr
    have := (h k hk).1
    rw [show B.getD k [] = r by rw [← e]; simp [List.getD, hk]] at this
    omega⟩
theorem kbL_rws {t : List (List Int)} {p : Int} (K : KbOk t p) (hp : primeB p = true) : rwsP p (t.length * t.length) (kbL t p) ∧ (kbL t p).length ≤ t.length * t.length := by
  have k := K.ker _ (Nat.le_refl _)
  have r := (red_rref hp k.1).1
  have e := nfr_all r
  refine ⟨fun i hi => r.row i hi, ?_⟩
  show (srtL (imN p (kbK t p (t.length * t.length)) (kbK t p (t.length * t.length)).length)).length ≤ _
  omega
theorem kbC_ok (t : List (List Int)) (p : Int) : roomR (kbC t p).1 ∧ (kbC t p).1.length ≤ 64 ∧ sumL (kbC t p).1 ≤ 4096 := by
  unfold kbC
  split
  · rename_i hr
    split
    · rename_i hp
      split
      · rename_i hd
        have K := kb_ok hr hp hd
        obtain ⟨a, b⟩ := kbL_rws K hp
        have s := K.sq
        have m := Nat.mul_le_mul (show (kbL t p).length ≤ 64 by omega) s
        have c := kb_sum a
        refine ⟨kb_room a s (show (kbL t p).length ≤ 64 by omega), by show (kbL t p).length ≤ 64; omega, by show sumL (kbL t p) ≤ 4096; omega⟩
      · exact ⟨⟨by simp, fun r hr => (List.not_mem_nil hr).elim⟩, by simp, by simp [sumL]⟩
    · exact ⟨⟨by simp, fun r hr => (List.not_mem_nil hr).elim⟩, by simp, by simp [sumL]⟩
  · exact ⟨⟨by simp, fun r hr => (List.not_mem_nil hr).elim⟩, by simp, by simp [sumL]⟩
theorem sqI (n : Nat) : (n : Int) * (n : Int) = ((n * n : Nat) : Int) := by simp
theorem cuI (n : Nat) : ((n * n : Nat) : Int) * (n : Int) = ((n * n * n : Nat) : Int) := by simp
def iKb_p (t : List (List Int)) (p : Int) : Post := ⟨roomR t, .tup [.inl (.rows 27 2 .i64 ((kbC t p).1)), .inl (.int .i64 ((kbC t p).2))], []⟩
def iKb_ct : List AD → Option Post
  | [.agg [.rows .i64 (t)], .c (.int .i64 (p))] => some (iKb_p t p)
  | _ => none
def iKb_G : List (Nat × Ctr) := [(40, ⟨[], checkDegree_ct⟩), (41, ⟨[], isDegree_ct⟩), (27, ⟨[], cocycleRows_ct⟩), (43, ⟨[], reducedRows_ct⟩), (42, ⟨[], kernelOf_ct⟩)]
def iKb_c1 (t : List (List Int)) (p : Int) := (kerN p (((↑(t.length):Int) * (↑(t.length):Int)).toNat) (srtL (imN p (crows t p) ((crows t p).length))) (((↑(t.length):Int) * (↑(t.length):Int)).toNat))
def iKb_V (t : List (List Int)) (p : Int) : Prop :=
 (((roomR t)∧True)∧(BrP (dgC t p (2:Int) != (0:Int)) ((([] = (kbC t p).1)∧((dgC t p (2:Int) = (kbC t p).2)∧True))∧True) (((((1:Int) ≤ (↑(t.length):Int))∧((↑(t.length):Int) ≤ (12:Int)))∧True)∧(BrP (!degB (↑(t.length):Int) (3:Int)) ((([] = (kbC t p).1)∧(((3:Int) = (kbC t p).2)∧True))∧True) ((InR ((↑(t.length):Int) * (↑(t.length):Int)))∧((((tabB t = true)∧(((2:Int) ≤ p)∧(p ≤ (7:Int))))∧True)∧((((primeB p = true)∧((∃ (N : Nat), rwsP p N (crows t p) ∧ (1:Nat) ≤ N ∧ N ≤ (512:Nat))∧((crows t p).length ≤ (512:Nat))))∧True)∧(((((2:Int) ≤ p)∧((p ≤ (7:Int))∧(((0:Int) ≤ (↑(t.length):Int) * (↑(t.length):Int))∧(((↑(t.length):Int) * (↑(t.length):Int) ≤ (512:Int))∧((rwsP p (((↑(t.length):Int) * (↑(t.length):Int)).toNat) (srtL (imN p (crows t p) ((crows t p).length))))∧((∀ (i : Nat), i < (srtL (imN p (crows t p) ((crows t p).length))).length → (0:Int) ≤ ldF ((srtL (imN p (crows t p) ((crows t p).length))).getD i []))∧((srtL (imN p (crows t p) ((crows t p).length))).length ≤ (512:Nat))))))))∧True)∧((((primeB p = true)∧((∃ (N : Nat), rwsP p N (iKb_c1 t p) ∧ (1:Nat) ≤ N ∧ N ≤ (512:Nat))∧((iKb_c1 t p).length ≤ (512:Nat))))∧True)∧(((srtL (imN p (iKb_c1 t p) ((iKb_c1 t p).length)) = (kbC t p).1)∧(((0:Int) = (kbC t p).2)∧True))∧True))))))))))
theorem iKb_vc (t : List (List Int)) (p : Int) : runF Tryz.prog (gam iKb_G) noWr noAnn Tryz.f13 (bodyOf Tryz.f13) [] [.agg [.rows .i64 (t)], .c (.int .i64 (p))] (iKb_p t p) = iKb_V t p := by kernel_rfl
theorem iKb_ok (t : List (List Int)) (p : Int) (hpre : (iKb_p t p).pre) : iKb_V t p := by
  simp only [iKb_p, iKb_V, iKb_c1, BrP_iff, u1, u2, u3, u4, u5, u6, u7, u8, u9, v1, v2, v3, v4, v5, v6, v7, v8, v9, w1, w2, w3, w4, markL_length, inB, InR, room, bdsOk] at hpre ⊢
  refine ⟨hpre, fun h => kbC_a h, fun h => ?_⟩
  obtain ⟨hr, hp, _, _⟩ := dgC_ok h
  obtain ⟨n1, n2, _⟩ := tabB_of (rackB_tab hr)
  refine ⟨by omega, fun hd => ?_, fun hd => ?_⟩
  · rw [kbC_b hr hp hd]; exact ⟨rfl, rfl⟩
  · have K := kb_ok hr hp hd
    rw [kbC_c hr hp hd, sqI]
    simp only [Int.toNat_natCast]
    have sq := K.sq
    have sq1 := K.sq1
    have cu := K.cu
    have kr := K.ker _ (Nat.le_refl _)
    refine ⟨by omega, ⟨K.tab, K.p2, K.p7⟩, ⟨hp, ⟨_, K.rws, sq1, by omega⟩, by rw [crows_length]; omega⟩, ⟨K.p2, K.p7, by omega, by omega, fun i hi => K.ref.row i hi, K.ref.nn, by have := K.len; exact Nat.le_trans this (by omega)⟩, ⟨hp, ⟨_, kr.1, sq1, by omega⟩, ?_⟩, rfl, trivial⟩
    have := kr.2
    exact Nat.le_trans this (by omega)
theorem iKb_fits : Fits Tryz.prog 13 ⟨[], iKb_ct⟩ := by
  refine ffn (Γ := gam iKb_G) (gok_cons checkDegree_fits (gok_cons isDegree_fits (gok_cons cocycleRows_fits (gok_cons reducedRows_fits (gok_cons kernelOf_fits gok_nil))))) Tryz.func13 fun ds p h hp => ?_
  unfold iKb_ct at h
  split at h
  · cases h
    exact ⟨noWr, noAnn, by rw [iKb_vc]; exact iKb_ok _ _  hp⟩
  · cases h
def sKb_p (t : List (List Int)) (p : Int) : Post := ⟨roomR t, .tup [.inl (.ro (.rows .i64 ((kbC t p).1))), .inl (.int .i64 ((kbC t p).2))], []⟩
def sKb_ct : List AD → Option Post
  | [.agg [.rows .i64 (t)], .c (.int .i64 (p))] => some (sKb_p t p)
  | _ => none
def sKb_ann (t : List (List Int)) (p : Int) : Nat → Option Ann
  | 0 => some (Ann.mk ((Nat)) (fun i => ⟨[(1, .c (.int .i64 (p))), (2, .c (.ptr 2 0)), (6, .c (.int .i64 ((t.length : Int)))), (7, .c (.own (27))), (8, .c (.int .i64 ((i : Int))))], [(2, some (.box [.ro (.rows .i64 (t))])), (27, some (.rows 0 27 2 .i64 ((crows t p).take i)))]⟩) (fun i => i ≤ t.length * t.length * t.length ∧ rackB t = true ∧ primeB p = true ∧ degB t.length 3 = true) (fun i => t.length * t.length * t.length - i) (fun _ => noAnn))
  | 2 => some (Ann.mk ((Nat)) (fun i => ⟨[(1, .c (.int .i64 (p))), (2, .c (.ptr 2 0)), (6, .c (.int .i64 ((t.length : Int)))), (7, .c (.ro (.rows .i64 (kbB t p)))), (9, .c (.own (50))), (10, .c (.int .i64 ((i : Int))))], [(2, some (.box [.ro (.rows .i64 (t))])), (50, some (.ints 2 .i64 (((kbB t p).take i).map ldF)))]⟩) (fun i => i ≤ (kbB t p).length ∧ rackB t = true ∧ primeB p = true ∧ degB t.length 3 = true) (fun i => (kbB t p).length - i) (fun _ => noAnn))
  | 4 => some (Ann.mk ((Nat)) (fun a => ⟨[(1, .c (.int .i64 (p))), (2, .c (.ptr 2 0)), (6, .c (.int .i64 ((t.length : Int)))), (7, .c (.ro (.rows .i64 (kbB t p)))), (9, .c (.own (50))), (11, .c (.own (65))), (12, .c (.int .i64 ((a : Int))))], [(2, some (.box [.ro (.rows .i64 (t))])), (50, some (.ints 2 .i64 ((kbB t p).map ldF))), (65, some (.rows 0 27 2 .i64 (kbK t p a)))]⟩) (fun a => a ≤ t.length * t.length ∧ rackB t = true ∧ primeB p = true ∧ degB t.length 3 = true) (fun a => t.length * t.length - a) (fun a => fun b_ => match b_ with | 6 => some (Ann.mk ((Nat)) (fun i => ⟨[(1, .c (.int .i64 (p))), (2, .c (.ptr 2 0)), (6, .c (.int .i64 ((t.length : Int)))), (7, .c (.ro (.rows .i64 (kbB t p)))), (9, .c (.own (50))), (11, .c (.own (65))), (12, .c (.int .i64 ((a : Int)))), (13, .c (.own (79))), (14, .c (.int .i64 ((i : Int))))], [(2, some (.box [.ro (.rows .i64 (t))])), (50, some (.ints 2 .i64 ((kbB t p).map ldF))), (65, some (.rows 0 27 2 .i64 (kbK t p a))), (79, some (.ints 2 .i64 (knS p (kbB t p) a i ((List.replicate (t.length * t.length) 0).set a 1))))]⟩) (fun i => i ≤ (kbB t p).length ∧ a < t.length * t.length ∧ ¬ pvB (kbB t p) a = true) (fun i => (kbB t p).length - i) (fun _ => noAnn)) | _ => none))
  | _ => none
def sKb_G : List (Nat × Ctr) := [(21, ⟨[], l03Is_ct⟩), (22, ⟨[], l15Prime_ct⟩), (44, ⟨[], l15Allowed_ct⟩), (33, ⟨[], l15Tuple_ct⟩), (32, ⟨[], l15Tuples_ct⟩), (45, ⟨[], l15Echelon_ct⟩), (46, ⟨[], l15First_ct⟩), (47, ⟨[], l01Has_ct⟩)]
def sKb_c1 (t : List (List Int)) (x0 : Nat) := (List.set (List.replicate (t.length * t.length) (0:Int)) x0 (1:Int))
def sKb_c2 (t : List (List Int)) (x0 : Nat) := (digN (↑(t.length):Int) ((3:Int).toNat) (↑x0:Int))
def sKb_c3 (t : List (List Int)) (p : Int) (x0 : Nat) := ((kbB t p).getD ((↑x0:Int).toNat) [])
def sKb_V (t : List (List Int)) (p : Int) : Prop :=
 (((roomR t)∧True)∧(BrP (!rackB t) (((FC.len (FC.rows IntKind.i64 ((kbC t p).1)) = (0:Nat))∧(((1:Int) = (kbC t p).2)∧True))∧True) ((True∧True)∧(BrP (!primeB p) (((FC.len (FC.rows IntKind.i64 ((kbC t p).1)) = (0:Nat))∧(((2:Int) = (kbC t p).2)∧True))∧True) (((((1:Int) ≤ (↑(t.length):Int))∧((↑(t.length):Int) ≤ (12:Int)))∧True)∧(BrP (!degB (↑(t.length):Int) (3:Int)) (((FC.len (FC.rows IntKind.i64 ((kbC t p).1)) = (0:Nat))∧(((3:Int) = (kbC t p).2)∧True))∧True) ((∃ x0 : Nat, (((x0 ≤ t.length * t.length * t.length)∧((rackB t = true)∧((primeB p = true)∧(degB (↑(t.length):Int) (3:Int) = true))))∧((p = p)∧(((↑(t.length):Int) = (↑(t.length):Int))∧(((0:Int) = (↑x0:Int))∧((t = t)∧([] = List.take x0 (crows t p))))))))∧(∀ x1 : Nat, (((x1 ≤ t.length * t.length * t.length)∧((rackB t = true)∧((primeB p = true)∧(degB (↑(t.length):Int) (3:Int) = true)))) → ((InR ((↑(t.length):Int) * (↑(t.length):Int)))∧((InR ((↑(t.length):Int) * (↑(t.length):Int) * (↑(t.length):Int)))∧(BrP (decide ((↑x1:Int) < (↑(t.length):Int) * (↑(t.length):Int) * (↑(t.length):Int))) (((((1:Int) ≤ (↑(t.length):Int))∧(((0:Int) ≤ (3:Int))∧(((3:Int) ≤ (1000:Int))∧(((0:Int) ≤ (↑x1:Int))∧((↑x1:Int) ≤ (1000000:Int))))))∧True)∧((((bdOk t p (sKb_c2 t x1))∧((1:Nat) ≤ (sKb_c2 t x1).length))∧True)∧((room ((List.take x1 (crows t p)).length + [ptF t p (sKb_c2 t x1) ((sKb_c2 t x1).length)].length))∧((InR ((↑x1:Int) + (1:Int)))∧(∃ x2 : Nat, (((x2 ≤ t.length * t.length * t.length)∧((rackB t = true)∧((primeB p = true) ∧
 (degB (↑(t.length):Int) (3:Int) = true))))∧((t.length * t.length * t.length - x2 < t.length * t.length * t.length - x1)∧((p = p)∧(((↑(t.length):Int) = (↑(t.length):Int))∧(((↑x1:Int) + (1:Int) = (↑x2:Int))∧((t = t)∧(List.take x1 (crows t p) ++ [ptF t p (sKb_c2 t x1) ((sKb_c2 t x1).length)] = List.take x2 (crows t p))))))))))))) ((((primeB p = true)∧((∃ (N : Nat), rwsP p N (List.take x1 (crows t p)) ∧ (1:Nat) ≤ N ∧ N ≤ (512:Nat))∧((List.take x1 (crows t p)).length ≤ (512:Nat))))∧True)∧((∃ x3 : Nat, (((x3 ≤ (kbB t p).length)∧((rackB t = true)∧((primeB p = true)∧(degB (↑(t.length):Int) (3:Int) = true))))∧((p = p)∧(((↑(t.length):Int) = (↑(t.length):Int))∧((srtL (imN p (List.take x1 (crows t p)) ((List.take x1 (crows t p)).length)) = kbB t p)∧(((0:Int) = (↑x3:Int))∧((t = t)∧([] = List.map ldF (List.take x3 (kbB t p))))))))))∧(∀ x4 : Nat, (((x4 ≤ (kbB t p).length)∧((rackB t = true)∧((primeB p = true)∧(degB (↑(t.length):Int) (3:Int) = true)))) → (BrP (decide ((↑x4:Int) < (↑((kbB t p).length):Int))) ((inB (↑x4:Int) ((kbB t p).length))∧((((sKb_c3 t p x4).length ≤ (1000:Nat))∧True)∧((room ((List.map ldF (List.take x4 (kbB t p))).length + [ldF (sKb_c3 t p x4)].length))∧((InR ((↑x4:Int) + (1:Int)))∧(∃ x5 : Nat, (((x5 ≤ (kbB t p).length)∧((rackB t = true)∧((primeB p = true)∧(degB (↑(t.length):Int) (3:Int) = true))))∧(((kbB t p).length - x5 < (kbB t p).length - x4)∧((p = p)∧(((↑(t.length):Int) = (↑(t.length):Int))∧((kbB t p = kbB t p)∧(((↑x4:Int) + (1:Int) = (↑x5:Int))∧((t = t) ∧
 (List.map ldF (List.take x4 (kbB t p)) ++ [ldF (sKb_c3 t p x4)] = List.map ldF (List.take x5 (kbB t p))))))))))))))) ((∃ x6 : Nat, (((x6 ≤ t.length * t.length)∧((rackB t = true)∧((primeB p = true)∧(degB (↑(t.length):Int) (3:Int) = true))))∧((p = p)∧(((↑(t.length):Int) = (↑(t.length):Int))∧((kbB t p = kbB t p)∧(((0:Int) = (↑x6:Int))∧((t = t)∧((List.map ldF (List.take x4 (kbB t p)) = List.map ldF (kbB t p))∧([] = kbK t p x6)))))))))∧(∀ x7 : Nat, (((x7 ≤ t.length * t.length)∧((rackB t = true)∧((primeB p = true)∧(degB (↑(t.length):Int) (3:Int) = true)))) → ((InR ((↑(t.length):Int) * (↑(t.length):Int)))∧(BrP (decide ((↑x7:Int) < (↑(t.length):Int) * (↑(t.length):Int))) ((((List.map ldF (kbB t p)).length ≤ (1099511627776:Nat))∧True)∧(BrP (decide ((↑x7:Int) ∈ List.map ldF (kbB t p))) ((InR ((↑x7:Int) + (1:Int)))∧(∃ x8 : Nat, (((x8 ≤ t.length * t.length)∧((rackB t = true)∧((primeB p = true)∧(degB (↑(t.length):Int) (3:Int) = true))))∧((t.length * t.length - x8 < t.length * t.length - x7)∧((p = p)∧(((↑(t.length):Int) = (↑(t.length):Int))∧((kbB t p = kbB t p)∧(((↑x7:Int) + (1:Int) = (↑x8:Int))∧((t = t)∧((List.map ldF (kbB t p) = List.map ldF (kbB t p))∧(kbK t p x7 = kbK t p x8))))))))))) ((InR ((↑(t.length):Int) * (↑(t.length):Int)))∧((((0:Int) ≤ (↑(t.length):Int) * (↑(t.length):Int))∧(((↑(t.length):Int) * (↑(t.length):Int) ≤ (↑(t.length):Int) * (↑(t.length):Int))∧(room (((↑(t.length):Int) * (↑(t.length):Int)).toNat)))) ∧
 ((inB (↑x7:Int) ((List.replicate (((↑(t.length):Int) * (↑(t.length):Int)).toNat) (0:Int)).length))∧((∃ x9 : Nat, (((x9 ≤ (kbB t p).length)∧((x7 < t.length * t.length)∧(¬pvB (kbB t p) x7 = true)))∧((p = p)∧(((↑(t.length):Int) = (↑(t.length):Int))∧((kbB t p = kbB t p)∧(((↑x7:Int) = (↑x7:Int))∧(((0:Int) = (↑x9:Int))∧((t = t)∧((List.map ldF (kbB t p) = List.map ldF (kbB t p))∧((kbK t p x7 = kbK t p x7)∧(List.set (List.replicate (((↑(t.length):Int) * (↑(t.length):Int)).toNat) (0:Int)) ((↑x7:Int).toNat) (1:Int) = knS p (kbB t p) x7 x9 (sKb_c1 t x7))))))))))))∧(∀ x10 : Nat, (((x10 ≤ (kbB t p).length)∧((x7 < t.length * t.length)∧(¬pvB (kbB t p) x7 = true))) → (BrP (decide ((↑x10:Int) < (↑((kbB t p).length):Int))) ((inB (↑x10:Int) ((List.map ldF (kbB t p)).length))∧((inB (↑x10:Int) ((kbB t p).length))∧((inB (↑x7:Int) ((sKb_c3 t p x10).length))∧((InR (p - (sKb_c3 t p x10).getD ((↑x7:Int).toNat) (0:Int)))∧((p ≠ (0:Int))∧((inB ((List.map ldF (kbB t p)).getD ((↑x10:Int).toNat) (0:Int)) ((knS p (kbB t p) x7 x10 (sKb_c1 t x7)).length))∧((InR ((↑x10:Int) + (1:Int)))∧(∃ x11 : Nat, (((x11 ≤ (kbB t p).length)∧((x7 < t.length * t.length)∧(¬pvB (kbB t p) x7 = true)))∧(((kbB t p).length - x11 < (kbB t p).length - x10)∧((p = p)∧(((↑(t.length):Int) = (↑(t.length):Int))∧((kbB t p = kbB t p)∧(((↑x7:Int) = (↑x7:Int))∧(((↑x10:Int) + (1:Int) = (↑x11:Int))∧((t = t)∧((List.map ldF (kbB t p) = List.map ldF (kbB t p))∧((kbK t p x7 = kbK t p x7) ∧
 (List.set (knS p (kbB t p) x7 x10 (sKb_c1 t x7)) (((List.map ldF (kbB t p)).getD ((↑x10:Int).toNat) (0:Int)).toNat) (Int.tmod (p - (sKb_c3 t p x10).getD ((↑x7:Int).toNat) (0:Int)) p) = knS p (kbB t p) x7 x11 (sKb_c1 t x7)))))))))))))))))))) ((room ((kbK t p x7).length + [knS p (kbB t p) x7 x10 (sKb_c1 t x7)].length))∧((InR ((↑x7:Int) + (1:Int)))∧(∃ x12 : Nat, (((x12 ≤ t.length * t.length)∧((rackB t = true)∧((primeB p = true)∧(degB (↑(t.length):Int) (3:Int) = true))))∧((t.length * t.length - x12 < t.length * t.length - x7)∧((p = p)∧(((↑(t.length):Int) = (↑(t.length):Int))∧((kbB t p = kbB t p)∧(((↑x7:Int) + (1:Int) = (↑x12:Int))∧((t = t)∧((List.map ldF (kbB t p) = List.map ldF (kbB t p))∧(kbK t p x7 ++ [knS p (kbB t p) x7 x10 (sKb_c1 t x7)] = kbK t p x12))))))))))))))))))))) ((((primeB p = true)∧((∃ (N : Nat), rwsP p N (kbK t p x7) ∧ (1:Nat) ≤ N ∧ N ≤ (512:Nat))∧((kbK t p x7).length ≤ (512:Nat))))∧True)∧(((srtL (imN p (kbK t p x7) ((kbK t p x7).length)) = (kbC t p).1)∧(((0:Int) = (kbC t p).2)∧True))∧True))))))))))))))))))))))))
theorem sKb_vc (t : List (List Int)) (p : Int) : runF Tryz.prog (gam sKb_G) noWr (sKb_ann t p) Tryz.f14 (bodyOf Tryz.f14) [] [.agg [.rows .i64 (t)], .c (.int .i64 (p))] (sKb_p t p) = sKb_V t p := by kernel_rfl
theorem sKb_ok (t : List (List Int)) (p : Int) (hpre : (sKb_p t p).pre) : sKb_V t p := by
  simp only [sKb_p, sKb_V, sKb_c1, sKb_c2, sKb_c3, BrP_iff, u1, u2, u3, u4, u5, u6, u7, u8, u9, v1, v2, v3, v4, v5, v6, v7, v8, v9, w1, w2, w3, w4, markL_length, inB, InR, room, bdsOk] at hpre ⊢
  refine ⟨hpre, fun h => ?_, fun hr => ⟨fun h => ?_, fun hp => ?_⟩⟩
  · rw [kbC_d h]; exact ⟨rfl, rfl⟩
  · rw [kbC_e hr h]; exact ⟨rfl, rfl⟩
  obtain ⟨n1, n2, _⟩ := tabB_of (rackB_tab hr)
  refine ⟨by omega, fun hd => ?_, fun hd => ?_⟩
  · rw [kbC_b hr hp hd]; exact ⟨rfl, rfl⟩
  have K := kb_ok hr hp hd
  have kc := kbC_c hr hp hd
  have sq := K.sq
  have sq1 := K.sq1
  have cu := K.cu
  have p2 := K.p2
  have p7 := K.p7
  have bl := K.len
  have cl := crows_length t p
  simp only [sqI, cuI, Int.toNat_natCast]
  refine ⟨⟨0, ⟨by omega, hr, hp, hd⟩, rfl, by simp⟩, fun i ⟨hi, _⟩ => ⟨by omega, by omega, fun h => ?_, fun h => ?_⟩⟩
  · refine ⟨⟨by omega, by omega⟩, ⟨dig_ok K.tab p2 p7 (by omega) (sq_512 K.tab) (by omega), by rw [digN_length]; decide⟩, by omega, by omega, i + 1, ⟨by omega, hr, hp, hd⟩, by omega, by omega, ?_⟩
    rw [← take_snoc (crows t p) [] i (by omega), crows_getD t p i (by omega), digN_length]; rfl
  · rw [List.take_of_length_le (by omega), show min i (crows t p).length = (crows t p).length by omega]
    refine ⟨⟨hp, ⟨_, K.rws, sq1, by omega⟩, by omega⟩, ⟨0, ⟨Nat.zero_le _, hr, hp, hd⟩, rfl, rfl, by simp⟩, fun i ⟨hi, _⟩ => ⟨fun h => ?_, fun h => ?_⟩⟩
    · have r := (K.ref.row i (by omega)).1
      refine ⟨by omega, by omega, by omega, by omega, i + 1, ⟨by omega, hr, hp, hd⟩, by omega, by omega, ?_⟩
      rw [← take_snoc (kbB t p) [] i (by omega), List.map_append]; rfl
    · refine ⟨⟨0, ⟨Nat.zero_le _, hr, hp, hd⟩, rfl, by rw [List.take_of_length_le (by omega)], rfl⟩, fun a ⟨ha, _⟩ => ⟨by omega, fun h => ?_, fun h => ?_⟩⟩
      · have kr := K.ker a (by omega)
        refine ⟨by omega, fun g => ?_, fun g => ?_⟩
        · have g : pvB (kbB t p) a = true := by rw [pvB, List.contains_iff_mem]; exact g
          refine ⟨by omega, a + 1, ⟨by omega, hr, hp, hd⟩, by omega, by omega, ?_⟩
          simp only [kbK, kerN, if_pos g]
        · have G : ¬ pvB (kbB t p) a = true := by rw [pvB, List.contains_iff_mem]; exact g
          refine ⟨by omega, ⟨by omega, by omega⟩, by omega, ⟨0, ⟨Nat.zero_le _, by omega, by simpa using G⟩, rfl, rfl⟩, fun i ⟨hi, _, _⟩ => ⟨fun h3 => ?_, fun h3 => ?_⟩⟩
          · have b := K.ref.row i (by omega)
            have b1 := b.1
            have c := b.2 a (by omega)
            have nj := K.ref.nn i (by omega)
            have y := ld_yes nj
            have w := (kn_one (a := a) (by omega) (fun k hk => K.ref.row k hk) p2 i (by omega)).1
            have m : ((kbB t p).map ldF).getD i 0 = ldF ((kbB t p).getD i []) := by
              have hi2 : i < (kbB t p).length := by omega
              simp [List.getD, hi2]
            rw [m]
            exact ⟨by omega, by omega, by omega, by omega, by omega, by omega, by omega, i + 1, ⟨by omega, by omega, by simpa using G⟩, by omega, by omega, rfl⟩
          · refine ⟨by omega, by omega, a + 1, ⟨by omega, hr, hp, hd⟩, by omega, by omega, ?_⟩
            simp only [kbK, kerN, if_neg G, knL]
            rw [show i = (kbB t p).length by omega]
      · have kr := K.ker _ (Nat.le_refl _)
        have kl := kr.2
        rw [kc, show a = t.length * t.length by omega]
        exact ⟨⟨hp, ⟨_, kr.1, sq1, by omega⟩, by omega⟩, rfl, rfl⟩
theorem sKb_fits : Fits Tryz.prog 14 ⟨[], sKb_ct⟩ := by
  refine ffn (Γ := gam sKb_G) (gok_cons l03Is_fits (gok_cons l15Prime_fits (gok_cons l15Allowed_fits (gok_cons l15Tuple_fits (gok_cons l15Tuples_fits (gok_cons l15Echelon_fits (gok_cons l15First_fits (gok_cons l01Has_fits gok_nil)))))))) Tryz.func14 fun ds p h hp => ?_
  unfold sKb_ct at h
  split at h
  · cases h
    exact ⟨noWr, sKb_ann _ _ , by rw [sKb_vc]; exact sKb_ok _ _  hp⟩
  · cases h
def l01Rows_p (t : List (List Int)) : Post := ⟨tabB t = true, .c (.bool (t.all permB)), []⟩
def l01Rows_ct : List AD → Option Post
  | [.c (.rows .i64 (t))] => some (l01Rows_p t)
  | _ => none
def l01Rows_ann (t : List (List Int)) : Nat → Option Ann
  | 0 => some (Ann.mk ((Nat)) (fun i => ⟨[(0, .c (.ro (.rows .i64 (t)))), (3, .c (.int .i64 ((i : Int))))], []⟩) (fun i => i ≤ t.length ∧ t.all permB = (t.drop i).all permB) (fun i => t.length - i) (fun _ => noAnn))
  | _ => none
def l01Rows_G : List (Nat × Ctr) := [(54, ⟨[], l01Perm_ct⟩)]
def l01Rows_V (t : List (List Int)) : Prop :=
 ((∃ x0 : Nat, (((x0 ≤ t.length)∧(List.all t permB = List.all (List.drop x0 t) permB))∧((t = t)∧((0:Int) = (↑x0:Int)))))∧(∀ x1 : Nat, (((x1 ≤ t.length)∧(List.all t permB = List.all (List.drop x1 t) permB)) → (BrP (decide ((↑x1:Int) < (↑(t.length):Int))) ((inB (↑x1:Int) (t.length))∧((((t.getD ((↑x1:Int).toNat) []).length ≤ (1099511627776:Nat))∧True)∧(BrP (!(decide ((1:Int) ≤ (↑((t.getD ((↑x1:Int).toNat) []).length):Int) ∧ (↑((t.getD ((↑x1:Int).toNat) []).length):Int) ≤ (12:Int)) && permB (t.getD ((↑x1:Int).toNat) []))) ((false = List.all t permB)∧True) ((InR ((↑x1:Int) + (1:Int)))∧(∃ x2 : Nat, (((x2 ≤ t.length)∧(List.all t permB = List.all (List.drop x2 t) permB))∧((t.length - x2 < t.length - x1)∧((t = t)∧((↑x1:Int) + (1:Int) = (↑x2:Int)))))))))) ((true = List.all t permB)∧True)))))
theorem l01Rows_vc (t : List (List Int)) : runF Tryz.prog (gam l01Rows_G) noWr (l01Rows_ann t) Tryz.f60 (bodyOf Tryz.f60) [] [.c (.rows .i64 (t))] (l01Rows_p t) = l01Rows_V t := by kernel_rfl
theorem l01Rows_ok (t : List (List Int)) (hpre : (l01Rows_p t).pre) : l01Rows_V t := by
  simp only [l01Rows_p, l01Rows_V, BrP_iff, u1, u2, u3, u4, u5, u6, u7, u8, u9, v1, v2, v3, v4, v5, v6, v7, v8, v9, w1, w2, w3, w4, markL_length, inB, InR, room, bdsOk] at hpre ⊢
  obtain ⟨n1, n2, ht⟩ := tabB_of hpre
  refine ⟨⟨0, ⟨by omega, rfl⟩, rfl⟩, fun i ⟨hi, he⟩ => ⟨fun h2 => ?_, fun h2 => ?_⟩⟩
  · have hd := allG_drop [] permB (show i < t.length by omega)
    have hl := (ht i (by omega)).1
    refine ⟨by omega, by omega, fun h3 => ?_, fun h3 => ⟨by omega, i + 1, ⟨by omega, ?_⟩, by omega, by omega⟩⟩
    · rw [decide_eq_true (by omega), Bool.true_and] at h3
      rw [he, hd, h3]; rfl
    · rw [decide_eq_true (by omega), Bool.true_and] at h3
      rw [he, hd, h3]; rfl
  · rw [he, List.drop_of_length_le (by omega)]; rfl
theorem l01Rows_fits : Fits Tryz.prog 60 ⟨[], l01Rows_ct⟩ := by
  refine ffn (Γ := gam l01Rows_G) (gok_cons l01Perm_fits gok_nil) Tryz.func60 fun ds p h hp => ?_
  unfold l01Rows_ct at h
  split at h
  · cases h
    exact ⟨noWr, l01Rows_ann _ , by rw [l01Rows_vc]; exact l01Rows_ok _  hp⟩
  · cases h
structure FlOk (p : Int) (N M : Nat) (B S : List (List Int)) : Prop where
  len : S.length = B.length
  bas : Bas p N B (ldN B)
  nn : ∀ k, k < B.length → 0 ≤ ldF (B.getD k [])
  src : rwsP p M S
def btF (t : List (List Int)) (p : Int) (K : Nat) (i : Nat) : List Int := ptF t p (digN (t.length : Int) K (i : Int)) K
theorem btF_ok (t : List (List Int)) {p : Int} (hp : 2 ≤ p) (K i : Nat) : rwP p (t.length ^ (K - 1)) (btF t p K i) :=
  ⟨by unfold btF; rw [ptF_length, digN_length], by unfold btF; exact ptF_in t hp _ _⟩
end Go.Sx
end
